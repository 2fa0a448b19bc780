/- Each function on plain data, and its walk. No conditions. -/
import Derived.Test.YtjfgchodolnmcaaGreatW25V
set_option linter.unusedVariables false
set_option linter.unusedSimpArgs false
set_option linter.unnecessarySimpa false
namespace Go.Own
open Go Go.Proofs
def mK(n:Nat)(a:Int)(b:Int)(c:List UInt8)(d:Int):Option (Bool):=
  bif decide (a=(1:Int))then((aS n b (0:Int) (1000000000000:Int)).bind fun m=>bif m then bif decide (c=([]:List UInt8))then some (decide (d=(0:Int)))else some false else some false).bind fun z=>some z else bif decide (a=(2:Int))then(bif decide (b=(0:Int))then(fD n c).bind fun o=>bif o then some (decide (d=(0:Int)))else some false else some false).bind fun A=>some A else bif decide (a=(3:Int))then(bif decide (b=(0:Int))then(pS n c).bind fun f=>bif f then some (decide (d=(0:Int)))else some false else some false).bind fun p=>some p else bif decide (a=(4:Int))then(bif decide (b=(0:Int))then bif decide (c=([]:List UInt8))then some (decide (d≤(20:Int)))else some false else some false).bind fun s=>some s else bif decide (a=(5:Int))then(bif decide (b=(0:Int))then bif decide (c=([]:List UInt8))then some (decide (d≤(20:Int)))else some false else some false).bind fun t=>some t else bif decide (a=(6:Int))then(bif decide (b=(0:Int))then bif decide (c=([]:List UInt8))then(aS n d (2:Int) (6:Int)).bind fun g=>some g else some false else some false).bind fun u=>some u else bif decide (a=(7:Int))then(bif decide (b=(0:Int))then(oX n c).bind fun j=>bif j then some (decide (d=(2:Int)))else some false else some false).bind fun v=>some v else bif decide (a=(8:Int))then(bif decide (b=(0:Int))then(fD n c).bind fun l=>bif l then some (decide (d≤(4:Int)))else some false else some false).bind fun w=>some w else bif decide (a=(9:Int))then(bif decide (b=(0:Int))then bif decide (c=([]:List UInt8))then some (decide (d=(1:Int)))else some false else some false).bind fun y=>some y else some false
theorem DX{n:Nat}:GO (mK n):=by
 intro a2 a3 a4 a5 r h; unfold mK at h; refine bF Tryz.func174 rfl rfl<|gcc 15 rfl<|cIf h rfl (fun X h=> ?_) (fun X h=> ?_)
 refine cRs<|oJn h [(8,8),(12,21)] [] (fun l=>(.n,[(8,Bo l)],[])) (fun _ h=> ?_) (fun l h=> ?_)
 refine xMv rfl<|xC0 h (aU ·) rfl (fun V h=> ?_)
 refine xMv rfl<|oIf 14 h rfl (fun Y h=> ?_) (fun Y h=> ?_)
 refine goo 4 rfl<|oIf 18 h rfl (fun Z h=> ?_) (fun Z h=> ?_)
 exact geo; exact geo; exact geo; exact gec; refine gcc 5 rfl<|cIf h rfl (fun q6 h=> ?_) (fun q6 h=> ?_)
 refine cRs<|oJn h [(8,8),(24,33)] [] (fun m=>(.n,[(8,Bo m)],[])) (fun _ h=> ?_) (fun m h=> ?_)
 refine goo 3 rfl<|oIf 26 h rfl (fun q8 h=> ?_) (fun q8 h=> ?_)
 refine xMv rfl<|xC0 h (mZ ·) rfl (fun W h=> ?_)
 refine goo 2 rfl<|oIf 30 h rfl (fun u h=> ?_) (fun u h=> ?_)
 exact geo; exact geo; exact geo; exact gec; refine gcc 5 rfl<|cIf h rfl (fun v h=> ?_) (fun v h=> ?_)
 refine cRs<|oJn h [(8,8),(36,45)] [] (fun a=>(.n,[(8,Bo a)],[])) (fun _ h=> ?_) (fun a h=> ?_)
 refine goo 3 rfl<|oIf 38 h rfl (fun w h=> ?_) (fun w h=> ?_)
 refine xMv rfl<|xC0 h (Fx ·) rfl (fun o h=> ?_)
 refine goo 2 rfl<|oIf 42 h rfl (fun y h=> ?_) (fun y h=> ?_)
 exact geo; exact geo; exact geo; exact gec; refine gcc 6 rfl<|cIf h rfl (fun z h=> ?_) (fun z h=> ?_)
 refine gco 4 rfl<|oJn h [(8,8),(49,58)] [] (fun b=>(.n,[(8,Bo b)],[])) (fun _ h=> ?_) (fun b h=> ?_)
 refine goo 3 rfl<|oIf 51 h rfl (fun A h=> ?_) (fun A h=> ?_)
 refine goo 4 rfl<|oIf 55 h rfl (fun B h=> ?_) (fun B h=> ?_)
 exact geo; exact geo; exact geo; exact gec; refine gcc 4 rfl<|cIf h rfl (fun C h=> ?_) (fun C h=> ?_)
 refine cRs<|oJn h [(8,8),(49,58)] [] (fun c=>(.n,[(8,Bo c)],[])) (fun _ h=> ?_) (fun c h=> ?_)
 refine goo 3 rfl<|oIf 51 h rfl (fun D h=> ?_) (fun D h=> ?_)
 refine goo 4 rfl<|oIf 55 h rfl (fun E h=> ?_) (fun E h=> ?_)
 exact geo; exact geo; exact geo; exact gec; refine gcc 5 rfl<|cIf h rfl (fun G h=> ?_) (fun G h=> ?_)
 refine cRs<|oJn h [(8,8),(61,70)] [] (fun d=>(.n,[(8,Bo d)],[])) (fun _ h=> ?_) (fun d h=> ?_)
 refine goo 3 rfl<|oIf 63 h rfl (fun H h=> ?_) (fun H h=> ?_)
 refine goo 4 rfl<|oIf 67 h rfl (fun I h=> ?_) (fun I h=> ?_)
 refine xMv rfl<|xC0 h (aU ·) rfl (fun p h=> ?_)
 exact geo; exact geo; exact geo; exact gec; refine gcc 5 rfl<|cIf h rfl (fun J h=> ?_) (fun J h=> ?_)
 refine cRs<|oJn h [(8,8),(73,82)] [] (fun f=>(.n,[(8,Bo f)],[])) (fun _ h=> ?_) (fun f h=> ?_)
 refine goo 3 rfl<|oIf 75 h rfl (fun K h=> ?_) (fun K h=> ?_)
 refine xMv rfl<|xC0 h (Am ·) rfl (fun s h=> ?_)
 refine goo 2 rfl<|oIf 79 h rfl (fun L h=> ?_) (fun L h=> ?_)
 exact geo; exact geo; exact geo; exact gec; refine gcc 5 rfl<|cIf h rfl (fun M h=> ?_) (fun M h=> ?_)
 refine cRs<|oJn h [(8,8),(85,94)] [] (fun g=>(.n,[(8,Bo g)],[])) (fun _ h=> ?_) (fun g h=> ?_)
 refine goo 3 rfl<|oIf 87 h rfl (fun N h=> ?_) (fun N h=> ?_)
 refine xMv rfl<|xC0 h (mZ ·) rfl (fun t h=> ?_)
 refine goo 2 rfl<|oIf 91 h rfl (fun Q h=> ?_) (fun Q h=> ?_)
 exact geo; exact geo; exact geo; exact gec; refine gcc 5 rfl<|cIf h rfl (fun R h=> ?_) (fun R h=> ?_)
 refine cRs<|oJn h [(8,8),(97,106)] [] (fun j=>(.n,[(8,Bo j)],[])) (fun _ h=> ?_) (fun j h=> ?_)
 refine goo 3 rfl<|oIf 99 h rfl (fun T h=> ?_) (fun T h=> ?_)
 refine goo 4 rfl<|oIf 103 h rfl (fun U h=> ?_) (fun U h=> ?_)
 exact geo; exact geo; exact geo; exact gec; exact gec
abbrev fQ:Type:=Int→Int→(List UInt8)→(List aA)→Int→Int→Int→(List Int)→Option (Bool×Int×Int×(List Int))
abbrev kO(p:fQ):Prop:= ∀ {f g:Int} {j:List UInt8} {l:List aA} {m a b:Int} {d:List Int} {r:Bool×Int×Int×(List Int)},p f g j l m a b d=some r→Big Tryz.prog τ An (.fn 141 [.one (.ptr 1000000 0), .one (.ag [.int .i64 f, .int .i64 g, .str j, .sl (l.map aF)]), .one (.c (.int .i64 m))] [[.int .i64 a, .int .i64 b, .sl (d.map aR)]] (.one (.c (.bool r.1))) none [[.int .i64 r.2.1, .int .i64 r.2.2.1, .sl (r.2.2.2.map aR)]] none)
def dP(n:Nat)(b:fQ)(m:Int)(l:List aA):(Int×Int×Int×(List Int))→Option ((Int×Int×Int×(List Int))⊕((Bool×Int×Int×(List Int))⊕(Int×Bool×Int×Int×(List Int))))
  | (j,c,d,f)=>bif decide (j<(l.length:Int))then(ix l j).bind fun g=>(b g.f0 g.f1 g.f2 g.f3 (IntKind.wrap .i64 (m+(1:Int))) c d f).bind fun a=>bif !a.1 then some (.inr (.inl (false,a.2.1,a.2.2.1,a.2.2.2)))else some (.inl ((IntKind.wrap .i64 (j+(1:Int))),a.2.1,a.2.2.1,a.2.2.2))else some (.inr (.inr (j,false,c,d,f)))
def iG(n:Nat)(a:fQ)(s:Int)(f:Int)(w:List UInt8)(t:List aA)(y:Int)(b:Int)(c:Int)(d:List Int):Option (Bool×Int×Int×(List Int)):=
  (bif decide ((10:Int)<y)then some true else some (decide ((300:Int)<(IntKind.wrap .i64 (c+(1:Int)))))).bind fun C=>bif C then some (false,b,(IntKind.wrap .i64 (c+(1:Int))),d)else bif decide (s=(3:Int))then((aS n f ((-1):Int) (IntKind.wrap .i64 (b - (1:Int)))).bind fun B=>bif !B then some true else bif !decide (w=([]:List UInt8))then some true else bif decide ((0:Int)<(t.length:Int))then some true else bif decide ((0:Int)≤f)then(eK n d f).bind fun u=>some u else some false).bind fun D=>bif D then some (false,b,(IntKind.wrap .i64 (c+(1:Int))),d)else(dF 8 d ([f]:List Int)).bind fun z=>some (true,b,(IntKind.wrap .i64 (c+(1:Int))),z)else(bif decide ((6:Int)<s)then some true else(mK n s f w (t.length:Int)).bind fun v=>some (!v)).bind fun A=>bif A then some (false,b,(IntKind.wrap .i64 (c+(1:Int))),d)else(loopN (dP n a y t) n ((0:Int),b,(IntKind.wrap .i64 (c+(1:Int))),d)).bind fun q=>(match q with | .inl (E,g,j,l)=>some (E,g,j,l) | .inr (G,H,m,o,p)=>some (true,m,o,p))
theorem xK{n:Nat}{a:fQ}(b:kO a):kO (iG n a):=by
 intro a2 B a3 a4 a5 T U V r h; unfold iG at h; refine bF Tryz.func141 rfl rfl<|gco 19 rfl<|oJn h [(16,24)] [] (fun y=>(.n,[(24,Bo y)],[])) (fun _ h=> ?_) (fun y h=> ?_)
 refine goo 3 rfl<|oIf 18 h rfl (fun W h=> ?_) (fun W h=> ?_)
 exact geo; exact geo; refine cIf h rfl (fun X h=> ?_) (fun X h=> ?_)
 exact gec; refine gcc 8 rfl<|cIf h rfl (fun Y h=> ?_) (fun Y h=> ?_)
 refine gco 3 rfl<|oJn h [(28,61)] [] (fun z=>(.n,[(61,Bo z)],[])) (fun _ h=> ?_) (fun z h=> ?_)
 refine goo 7 rfl<|xC0 h (aU ·) rfl (fun R h=> ?_)
 refine goo 2 rfl<|oIf 37 h rfl (fun Z h=> ?_) (fun Z h=> ?_)
 exact geo; refine goo 5 rfl<|oIf 42 h rfl (fun q8 h=> ?_) (fun q8 h=> ?_)
 exact geo; refine goo 2 rfl<|xLn rfl<|goo 3 rfl<|oIf 48 h rfl (fun q9 h=> ?_) (fun q9 h=> ?_)
 exact geo; refine goo 4 rfl<|oIf 52 h rfl (fun H h=> ?_) (fun H h=> ?_)
 refine goo 6 rfl<|xC0 h (uN ·) rfl (fun D h=> ?_)
 exact geo; exact geo; refine cIf h rfl (fun I h=> ?_) (fun I h=> ?_)
 exact gec; refine gco 10 rfl<|cQ (L:=([B]:List Int)) (f:=aR) rfl rfl rfl rfl rfl rfl rfl<|wAp (f:=aR) h rfl rfl rfl rfl rfl rfl rfl rfl rfl (fun _=>rfl) rfl (fun Q h=> ?_)
 exact geo; refine gco 4 rfl<|oJn h [(73,88)] [] (fun t=>(.n,[(88,Bo t)],[])) (fun _ h=> ?_) (fun t h=> ?_)
 refine goo 4 rfl<|oIf 76 h rfl (fun J h=> ?_) (fun J h=> ?_)
 exact geo; refine goo 8 rfl<|xLn rfl<|xC0 h (DX ·) rfl (fun E h=> ?_)
 exact geo; refine cIf h rfl (fun K h=> ?_) (fun K h=> ?_)
 exact gec; refine gco 6 rfl<|xLn rfl<|goc 2 rfl<|cLp h [(6,6),(8,8),(92,102)] [(8,8),(1000000,1000000)] (fun(u,c,d,g)=>([(92,I64 u)],[(1000000,[.int .i64 c, .int .i64 d, .sl (g.map aR)])])) (fun q=>match q with | .inl (A,j,l,m)=>(.r,[(6,Bo A)],[(1000000,[.int .i64 j, .int .i64 l, .sl (m.map aR)])]) | .inr (v,w,o,p,s)=>(.e 0,[(92,I64 v),(93,Bo w)],[(1000000,[.int .i64 o, .int .i64 p, .sl (s.map aR)])])) rfl (fun st _ h=> ?_) (fun q h=> ?_)
 obtain⟨u,c,d,g⟩:=st; unfold dP at h; refine gcc 5 rfl<|cIf h rfl (fun M h=> ?_) (fun M h=> ?_)
 refine gco 5 rfl<|xIx h aQ rfl (fun G h=> ?_)
 refine xLd rfl<|xAz [.int .i64 0, .int .i64 0, .str [], .sl ([].map aF)] rfl<|goo 8 rfl<|xC1 h (b ·) rfl (fun C h=> ?_)
 refine goc 2 rfl<|cIf h rfl (fun N h=> ?_) (fun N h=> ?_)
 exact gec; exact gec; exact gec; rcases q with⟨A,j,l,m⟩ | ⟨v,w,o,p,s⟩; exact en; exact gec
def sR:Nat→(fQ)
  | 0=>(fun _ _ _ _ _ _ _ _=>none)
  | n+1=>iG n (sR n)
def cU(n:Nat):fQ:=sR n
theorem xN(n:Nat):kO (cU n):=by
  induction n with
  | zero=>exact(fun h=>nomatch h)
  | succ n ih=>exact xK (n:=n) ih
theorem yK{n:Nat}:kO (cU n):=(xN n)
theorem uS(n:Nat):cU (n+1)=iG n (cU n):=rfl
abbrev GV(p:Int→Int→(List UInt8)→(List aA)→Int→Option (Bool)):Prop:= ∀ {a b:Int} {d:List UInt8} {f:List aA} {g:Int} {r:Bool},p a b d f g=some r→Big Tryz.prog τ An (.fn 106 [.one (.ag [.int .i64 a, .int .i64 b, .str d, .sl (f.map aF)]), .one (.c (.int .i64 g))] [] (.one (.c (.bool r))) none [] none)
def iN(n:Nat)(d:Int)(f:Int)(g:List UInt8)(j:List aA)(b:Int):Option (Bool):=
  ((aS n b (0:Int) (400:Int)).bind fun c=>bif c then(cU n d f g j (1:Int) b (0:Int) ([]:List Int)).bind fun a=>some (a.1,a.2.1,a.2.2.1,a.2.2.2)else some (false,b,(0:Int),([]:List Int))).bind fun(l,m,o,p)=>some l
theorem vM{n:Nat}:GV (iN n):=by
 intro m o p s f r h; unfold iN at h; refine bF Tryz.func106 rfl rfl<|gco 8 rfl<|wBd [.int .i64 f, .int .i64 0, .sl ([].map aR)] rfl rfl rfl rfl rfl rfl<|xAz [.int .i64 0, .int .i64 0, .sl ([].map aR)] rfl<|goo 4 rfl<|oJn h [(4,4),(8,13)] [(5,5)] (fun(a,b,c,d)=>(.n,[(4,Bo a)],[(5,[.int .i64 b, .int .i64 c, .sl (d.map aR)])])) (fun _ h=> ?_) (fun q h=> ?_)
 refine xMv rfl<|xC0 h (aU ·) rfl (fun j h=> ?_)
 refine xMv rfl<|oIf 10 h rfl (fun l h=> ?_) (fun l h=> ?_)
 refine xLd rfl<|xC1 h (yK ·) rfl (fun g h=> ?_)
 exact geo; exact geo; obtain⟨a,b,c,d⟩:=q; exact gec
abbrev KO(p:(List UInt8)→Int→Int→(List aE)→Int→Int→(List UInt8)→Int→(List aD)→(List aA)→Option (Bool×(List aD)×(List aA))):Prop:= ∀ {d:List UInt8} {f g:Int} {j:List aE} {l m:Int} {o:List UInt8} {s:Int} {a:List aD} {b:List aA} {r:Bool×(List aD)×(List aA)},p d f g j l m o s a b=some r→Big Tryz.prog τ An (.fn 116 [.one (.ptr 1000000 0), .one (.cp [.str d, .int .i64 f, .int .i64 g, .sl (j.map aL)]), .one (.ag [.int .i64 l, .int .i64 m, .str o, .int .i64 s])] [[.sl (a.map aJ), .sl (b.map aF)]] (.one (.c (.bool r.1))) none [[.sl (r.2.1.map aJ), .sl (r.2.2.map aF)]] none)
def nG(n:Nat)(U:List UInt8)(V:Int)(B:Int)(Q:List aE)(d:Int)(c:Int)(l:List UInt8)(m:Int)(b:List aD)(a:List aA):Option (Bool×(List aD)×(List aA)):=
  (bif decide (l=([]:List UInt8))then some (decide (m=(0:Int)))else some false).bind fun j=>(aS n m (0:Int) (IntKind.wrap .i64 ((Q.length:Int) - (1:Int)))).bind fun o=>bif decide (d=(1:Int))then(bif j then(aS n c (0:Int) (1000000000000:Int)).bind fun C=>some C else some false).bind fun R=>some (R,b,a)else bif decide (d=(2:Int))then(bif decide (c=(0:Int))then(fD n l).bind fun u=>bif u then some (decide (m=(0:Int)))else some false else some false).bind fun T=>some (T,b,a)else bif decide (d=(3:Int))then(bif j then(aS n c (0:Int) (IntKind.wrap .i64 (B - (1:Int)))).bind fun v=>some v else some false).bind fun D=>some (D,b,a)else bif decide (d=(4:Int))then(bif j then(aS n c (0:Int) (20:Int)).bind fun w=>some w else some false).bind fun E=>some (E,b,a)else bif decide (d=(5:Int))then(bif j then(aS n c (0:Int) (20:Int)).bind fun y=>some y else some false).bind fun G=>some (G,b,a)else bif decide (d=(6:Int))then(bif j then(aS n c (2:Int) (6:Int)).bind fun z=>some z else some false).bind fun H=>some (H,b,a)else bif decide (d=(7:Int))then(bif decide (c=(0:Int))then(oX n l).bind fun A=>bif A then some (decide (m=(0:Int)))else some false else some false).bind fun I=>some (I,b,a)else bif decide (d=(8:Int))then(oY n l b a).bind fun f=>(bif decide ((0:Int)≤f.1)then(ix f.2.1 f.1).bind fun t=>bif decide (t.f1=c)then some (decide (m=(0:Int)))else some false else some false).bind fun J=>some (J,f.2.1,f.2.2)else bif decide (d=(9:Int))then(bif decide (l=([]:List UInt8))then bif o then(aS n c (0:Int) (IntKind.wrap .i64 ((a.length:Int) - (1:Int)))).bind fun p=>bif p then(ix a c).bind fun g=>(iN n g.f0 g.f1 g.f2 g.f3 B).bind fun s=>some s else some false else some false else some false).bind fun K=>some (K,b,a)else bif decide (d=(10:Int))then(bif decide (l=([]:List UInt8))then bif decide (c=(0:Int))then some o else some false else some false).bind fun L=>some (L,b,a)else bif decide (d=(11:Int))then(bif j then some (decide (c=(0:Int)))else some false).bind fun M=>some (M,b,a)else bif decide (d=(12:Int))then(bif j then some (decide (c=(0:Int)))else some false).bind fun N=>some (N,b,a)else some (false,b,a)
theorem Fy{n:Nat}:KO (nG n):=by
 intro b9 c0 c1 c2 c3 c4 c5 c6 b3 b4 r h; unfold nG at h; refine bF Tryz.func116 rfl rfl<|gco 7 rfl<|oJn h [(7,7),(10,17)] [] (fun t=>(.n,[(7,Bo t)],[])) (fun _ h=> ?_) (fun t h=> ?_)
 refine goo 4 rfl<|oIf 13 h rfl (fun q2 h=> ?_) (fun q2 h=> ?_)
 exact geo; exact geo; refine gco 8 rfl<|xLn rfl<|RK rfl<|xC0 h (aU ·) rfl (fun b1 h=> ?_)
 refine goc 14 rfl<|cIf h rfl (fun q4 h=> ?_) (fun q4 h=> ?_)
 refine cRs<|oJn h [(6,6),(31,36)] [] (fun p=>(.n,[(6,Bo p)],[])) (fun _ h=> ?_) (fun p h=> ?_)
 refine goo 2 rfl<|oIf 32 h rfl (fun q6 h=> ?_) (fun q6 h=> ?_)
 refine goo 2 rfl<|xC0 h (aU ·) rfl (fun b2 h=> ?_)
 exact geo; exact geo; exact gec; refine gcc 5 rfl<|cIf h rfl (fun q8 h=> ?_) (fun q8 h=> ?_)
 refine cRs<|oJn h [(6,6),(39,51)] [] (fun s=>(.n,[(6,Bo s)],[])) (fun _ h=> ?_) (fun s h=> ?_)
 refine goo 4 rfl<|oIf 42 h rfl (fun H h=> ?_) (fun H h=> ?_)
 refine goo 2 rfl<|xC0 h (mZ ·) rfl (fun A h=> ?_)
 refine goo 2 rfl<|oIf 47 h rfl (fun I h=> ?_) (fun I h=> ?_)
 exact geo; exact geo; exact geo; exact gec; refine gcc 5 rfl<|cIf h rfl (fun J h=> ?_) (fun J h=> ?_)
 refine cRs<|oJn h [(6,6),(54,64)] [] (fun a=>(.n,[(6,Bo a)],[])) (fun _ h=> ?_) (fun a h=> ?_)
 refine goo 2 rfl<|oIf 55 h rfl (fun K h=> ?_) (fun K h=> ?_)
 refine goo 7 rfl<|xC0 h (aU ·) rfl (fun B h=> ?_)
 exact geo; exact geo; exact gec; refine gcc 6 rfl<|cIf h rfl (fun L h=> ?_) (fun L h=> ?_)
 refine gco 4 rfl<|oJn h [(6,6),(68,73)] [] (fun b=>(.n,[(6,Bo b)],[])) (fun _ h=> ?_) (fun b h=> ?_)
 refine goo 2 rfl<|oIf 69 h rfl (fun M h=> ?_) (fun M h=> ?_)
 refine goo 2 rfl<|xC0 h (aU ·) rfl (fun C h=> ?_)
 exact geo; exact geo; exact gec; refine gcc 4 rfl<|cIf h rfl (fun N h=> ?_) (fun N h=> ?_)
 refine cRs<|oJn h [(6,6),(68,73)] [] (fun c=>(.n,[(6,Bo c)],[])) (fun _ h=> ?_) (fun c h=> ?_)
 refine goo 2 rfl<|oIf 69 h rfl (fun Q h=> ?_) (fun Q h=> ?_)
 refine goo 2 rfl<|xC0 h (aU ·) rfl (fun D h=> ?_)
 exact geo; exact geo; exact gec; refine gcc 5 rfl<|cIf h rfl (fun R h=> ?_) (fun R h=> ?_)
 refine cRs<|oJn h [(6,6),(76,81)] [] (fun d=>(.n,[(6,Bo d)],[])) (fun _ h=> ?_) (fun d h=> ?_)
 refine goo 2 rfl<|oIf 77 h rfl (fun T h=> ?_) (fun T h=> ?_)
 refine goo 2 rfl<|xC0 h (aU ·) rfl (fun E h=> ?_)
 exact geo; exact geo; exact gec; refine gcc 5 rfl<|cIf h rfl (fun U h=> ?_) (fun U h=> ?_)
 refine cRs<|oJn h [(6,6),(84,96)] [] (fun f=>(.n,[(6,Bo f)],[])) (fun _ h=> ?_) (fun f h=> ?_)
 refine goo 4 rfl<|oIf 87 h rfl (fun V h=> ?_) (fun V h=> ?_)
 refine goo 2 rfl<|xC0 h (Am ·) rfl (fun G h=> ?_)
 refine goo 2 rfl<|oIf 92 h rfl (fun W h=> ?_) (fun W h=> ?_)
 exact geo; exact geo; exact geo; exact gec; refine gcc 5 rfl<|cIf h rfl (fun X h=> ?_) (fun X h=> ?_)
 refine gco 5 rfl<|xC1 h (Ao ·) rfl (fun u h=> ?_)
 refine goo 4 rfl<|oJn h [(6,6),(103,122)] [] (fun g=>(.n,[(6,Bo g)],[])) (fun _ h=> ?_) (fun g h=> ?_)
 refine goo 3 rfl<|oIf 105 h rfl (fun Y h=> ?_) (fun Y h=> ?_)
 refine goo 5 rfl<|xIx h dI rfl (fun y h=> ?_)
 refine goo 7 rfl<|oIf 118 h rfl (fun Z h=> ?_) (fun Z h=> ?_)
 exact geo; exact geo; exact geo; exact gec; refine gcc 5 rfl<|cIf h rfl (fun a0 h=> ?_) (fun a0 h=> ?_)
 refine cRs<|oJn h [(6,6),(125,156)] [] (fun j=>(.n,[(6,Bo j)],[])) (fun _ h=> ?_) (fun j h=> ?_)
 refine goo 4 rfl<|oIf 128 h rfl (fun a1 h=> ?_) (fun a1 h=> ?_)
 refine goo 3 rfl<|oIf 131 h rfl (fun a2 h=> ?_) (fun a2 h=> ?_)
 refine goo 6 rfl<|xLn rfl<|RK rfl<|xC0 h (aU ·) rfl (fun v h=> ?_)
 refine goo 2 rfl<|oIf 142 h rfl (fun a3 h=> ?_) (fun a3 h=> ?_)
 refine goo 6 rfl<|xIx h aQ rfl (fun z h=> ?_)
 refine goo 5 rfl<|xC0 h (vM ·) rfl (fun w h=> ?_)
 exact geo; exact geo; exact geo; exact geo; exact gec; refine gcc 5 rfl<|cIf h rfl (fun a4 h=> ?_) (fun a4 h=> ?_)
 refine cRs<|oJn h [(6,6),(159,169)] [] (fun l=>(.n,[(6,Bo l)],[])) (fun _ h=> ?_) (fun l h=> ?_)
 refine goo 4 rfl<|oIf 162 h rfl (fun a5 h=> ?_) (fun a5 h=> ?_)
 refine goo 5 rfl<|oIf 167 h rfl (fun a6 h=> ?_) (fun a6 h=> ?_)
 exact geo; exact geo; exact geo; exact gec; refine gcc 6 rfl<|cIf h rfl (fun a7 h=> ?_) (fun a7 h=> ?_)
 refine gco 4 rfl<|oJn h [(6,6),(173,178)] [] (fun m=>(.n,[(6,Bo m)],[])) (fun _ h=> ?_) (fun m h=> ?_)
 refine goo 2 rfl<|oIf 174 h rfl (fun a8 h=> ?_) (fun a8 h=> ?_)
 exact geo; exact geo; exact gec; refine gcc 4 rfl<|cIf h rfl (fun a9 h=> ?_) (fun a9 h=> ?_)
 refine cRs<|oJn h [(6,6),(173,178)] [] (fun o=>(.n,[(6,Bo o)],[])) (fun _ h=> ?_) (fun o h=> ?_)
 refine goo 2 rfl<|oIf 174 h rfl (fun b0 h=> ?_) (fun b0 h=> ?_)
 exact geo; exact geo; exact gec; exact gec
abbrev yL(p:Int→Int→(List Int)→Bool→Option ((List Int)×Bool)):Prop:= ∀ {d f:Int} {a:List Int} {b:Bool} {r:(List Int)×Bool},p d f a b=some r→Big Tryz.prog τ An (.fn 151 [.one (.ptr 1000000 0), .one (.c (.int .i64 d)), .one (.c (.int .i64 f))] [[.sl (a.map aR), .bool b]] (.tup []) none [[.sl (r.1.map aR), .bool r.2]] none)
def bG(n:Nat)(b:Int)(d:Int)(a:List Int)(f:Bool):Option ((List Int)×Bool):=
  (bif decide ((a.length:Int)≤b)then some true else some (decide ((300:Int)<d))).bind fun l=>bif l then some (a,true)else(ix a b).bind fun g=>bif decide (g<(0:Int))then(ix a b).bind fun m=>(some (a.set (Int.toNat b) d)).bind fun c=>some (c,f)else(ix a b).bind fun j=>bif !decide (j=d)then some (a,true)else some (a,f)
theorem eM{n:Nat}:yL (bG n):=by
 intro u c l m r h; unfold bG at h; refine bF Tryz.func151 rfl rfl<|gco 3 rfl<|oJn h [(6,17)] [] (fun a=>(.n,[(6,Bo a)],[])) (fun _ h=> ?_) (fun a h=> ?_)
 refine goo 5 rfl<|xLn rfl<|goo 2 rfl<|oIf 14 h rfl (fun o h=> ?_) (fun o h=> ?_)
 exact geo; exact geo; refine cIf h rfl (fun p h=> ?_) (fun p h=> ?_)
 exact gec; refine gco 7 rfl<|xIx h gW rfl (fun d h=> ?_)
 refine goc 4 rfl<|cIf h rfl (fun s h=> ?_) (fun s h=> ?_)
 refine gco 4 rfl<|wLa rfl rfl rfl rfl rfl rfl rfl<|goo 2 rfl<|wIp (f:=aR) h rfl rfl rfl rfl rfl rfl (fun _=>rfl) rfl (fun g ke36_6 h=> ?_)
 refine Lv (f:=aR) (v':=c) h ke36_6 rfl rfl rfl rfl rfl rfl rfl rfl rfl (fun b h=> ?_)
 exact geo; refine gco 7 rfl<|xIx h gW rfl (fun j h=> ?_)
 refine goc 5 rfl<|cIf h rfl (fun t h=> ?_) (fun t h=> ?_)
 exact gec; exact gec
abbrev GN(p:Int→Int→(List UInt8)→Int→Option (Int)):Prop:= ∀ {a b:Int} {d:List UInt8} {f:Int} {r:Int},p a b d f=some r→Big Tryz.prog τ An (.fn 176 [.one (.ag [.int .i64 a, .int .i64 b, .str d, .int .i64 f])] [] (.one (.c (.int .i64 r))) none [] none)
def kF(n:Nat)(a:Int)(b:Int)(c:List UInt8)(d:Int):Option (Int):=
  bif decide (a=(4:Int))then some b else bif decide (a=(5:Int))then some b else bif decide (a=(6:Int))then some b else bif decide (a=(8:Int))then some b else bif decide (a=(7:Int))then some (2:Int)else bif decide (a=(9:Int))then some (1:Int)else bif decide (a=(12:Int))then some (1:Int)else some (0:Int)
theorem vH{n:Nat}:GN (kF n):=by
 intro l m o p r h; unfold kF at h; refine bF Tryz.func176 rfl rfl<|gcc 18 rfl<|cIf h rfl (fun a h=> ?_) (fun a h=> ?_)
 exact gec; refine gcc 5 rfl<|cIf h rfl (fun b h=> ?_) (fun b h=> ?_)
 exact gec; refine gcc 5 rfl<|cIf h rfl (fun c h=> ?_) (fun c h=> ?_)
 exact gec; refine gcc 4 rfl<|cIf h rfl (fun d h=> ?_) (fun d h=> ?_)
 exact gec; refine gcc 5 rfl<|cIf h rfl (fun f h=> ?_) (fun f h=> ?_)
 exact gec; refine gcc 6 rfl<|cIf h rfl (fun g h=> ?_) (fun g h=> ?_)
 exact gec; refine gcc 4 rfl<|cIf h rfl (fun j h=> ?_) (fun j h=> ?_)
 exact gec; exact gec
abbrev xQ(p:Int→Int→Int→(List UInt8)→Int→(List Int)→Bool→Option ((List Int)×Bool)):Prop:= ∀ {d f g:Int} {j:List UInt8} {l:Int} {a:List Int} {b:Bool} {r:(List Int)×Bool},p d f g j l a b=some r→Big Tryz.prog τ An (.fn 152 [.one (.ptr 1000000 0), .one (.c (.int .i64 d)), .one (.ag [.int .i64 f, .int .i64 g, .str j, .int .i64 l])] [[.sl (a.map aR), .bool b]] (.tup []) none [[.sl (r.1.map aR), .bool r.2]] none)
def fG(n:Nat)(g:Int)(b:Int)(u:Int)(v:List UInt8)(d:Int)(a:List Int)(f:Bool):Option ((List Int)×Bool):=
  (ix a g).bind fun c=>((kF n b u v d).bind fun w=>bif decide (c<w)then some true else bif decide (b=(9:Int))then some (decide (d≤g))else bif decide (b=(10:Int))then some (decide (d≤g))else some false).bind fun y=>bif y then some (a,true)else bif decide (b=(9:Int))then(bG n (IntKind.wrap .i64 (g+(1:Int))) (IntKind.wrap .i64 (c - (1:Int))) a f).bind fun s=>(bG n d c s.1 s.2).bind fun o=>some (o.1,o.2)else bif decide (b=(10:Int))then(bG n d c a f).bind fun p=>some (p.1,p.2)else bif decide (b=(11:Int))then some (a,f)else bif decide (b=(12:Int))then(bif f then some (a,true)else some (a,(!decide (c=(1:Int))))).bind fun(j,l)=>some (j,l)else(kF n b u v d).bind fun t=>(bG n (IntKind.wrap .i64 (g+(1:Int))) (IntKind.wrap .i64 ((IntKind.wrap .i64 (c - t))+(1:Int))) a f).bind fun m=>some (m.1,m.2)
theorem uV{n:Nat}:xQ (fG n):=by
 intro D E G H I v w r h; unfold fG at h; refine bF Tryz.func152 rfl rfl<|gco 11 rfl<|xIx h gW rfl (fun u h=> ?_)
 refine goo 6 rfl<|oJn h [(14,33)] [] (fun c=>(.n,[(33,Bo c)],[])) (fun _ h=> ?_) (fun c h=> ?_)
 refine goo 2 rfl<|xC0 h (vH ·) rfl (fun s h=> ?_)
 refine goo 2 rfl<|oIf 18 h rfl (fun y h=> ?_) (fun y h=> ?_)
 exact geo; refine goo 4 rfl<|oIf 22 h rfl (fun z h=> ?_) (fun z h=> ?_)
 exact geo; refine goo 5 rfl<|oIf 27 h rfl (fun A h=> ?_) (fun A h=> ?_)
 exact geo; exact geo; refine cIf h rfl (fun B h=> ?_) (fun B h=> ?_)
 exact gec; refine gcc 12 rfl<|cIf h rfl (fun C h=> ?_) (fun C h=> ?_)
 refine gco 7 rfl<|xC1 h (eM ·) rfl (fun t h=> ?_)
 refine goo 6 rfl<|xC1 h (eM ·) rfl (fun g h=> ?_)
 exact geo; refine gcc 5 rfl<|cIf h rfl (fun l h=> ?_) (fun l h=> ?_)
 refine gco 5 rfl<|xC1 h (eM ·) rfl (fun j h=> ?_)
 exact geo; refine gcc 5 rfl<|cIf h rfl (fun m h=> ?_) (fun m h=> ?_)
 exact gec; refine gcc 5 rfl<|cIf h rfl (fun o h=> ?_) (fun o h=> ?_)
 refine cRg<|oJn h [(72,82)] [(1000000,1000000)] (fun(a,b)=>(.n,[],[(1000000,[.sl (a.map aR), .bool b])])) (fun _ h=> ?_) (fun q h=> ?_)
 refine goo 6 rfl<|oIf 77 h rfl (fun p h=> ?_) (fun p h=> ?_)
 exact geo; exact geo; obtain⟨a,b⟩:=q; exact en; refine gco 6 rfl<|xC0 h (vH ·) rfl (fun d h=> ?_)
 refine goo 2 rfl<|xC1 h (eM ·) rfl (fun f h=> ?_)
 exact geo
abbrev Dd(p:(List UInt8)→Int→Int→(List aE)→Option ((List Int)×Bool)):Prop:= ∀ {a:List UInt8} {b d:Int} {f:List aE} {r:(List Int)×Bool},p a b d f=some r→Big Tryz.prog τ An (.fn 117 [.one (.cp [.str a, .int .i64 b, .int .i64 d, .sl (f.map aL)])] [] (.tup [.c (.sl (r.1.map aR)), .c (.bool r.2)]) none [] none)
def eV(n:Nat)(f:List aE):(Int×(List Int)×Bool)→Option ((Int×(List Int)×Bool)⊕((Int×Bool×(List Int)×Bool)))
  | (a,b,c)=>bif decide (a<((List.replicate (Int.toNat (f.length:Int)) (0:Int)).length:Int))then(ix b a).bind fun g=>(some (b.set (Int.toNat a) ((-1):Int))).bind fun d=>some (.inl ((IntKind.wrap .i64 (a+(1:Int))),d,c))else some (.inr (a,false,b,c))
def eU(n:Nat)(j:List aE):(Int×(List Int)×Bool)→Option ((Int×(List Int)×Bool)⊕(((List Int)×Bool)⊕(Int×Bool×(List Int)×Bool)))
  | (a,c,d)=>bif decide (a<(j.length:Int))then(ix j a).bind fun b=>(bif d then some true else(ix c a).bind fun g=>some (decide (g<(0:Int)))).bind fun l=>bif l then some (.inr (.inl (([]:List Int),false)))else(fG n a b.f0 b.f1 b.f2 b.f3 c d).bind fun f=>some (.inl ((IntKind.wrap .i64 (a+(1:Int))),f.1,f.2))else some (.inr (.inr (a,false,c,d)))
def kC(n:Nat)(t:List UInt8)(u:Int)(v:Int)(a:List aE):Option ((List Int)×Bool):=
  (ck (decide (0≤(a.length:Int)∧(a.length:Int)≤maxLen∧8*(a.length:Int)≤281474976710656))).bind fun _=>(loopN (eV n a) n ((0:Int),(List.replicate (Int.toNat (a.length:Int)) (0:Int)),false)).bind fun(p,s,j,l)=>(bG n (0:Int) (0:Int) j l).bind fun b=>(loopN (eU n a) n ((0:Int),b.1,b.2)).bind fun q=>(match q with | .inl (c,d)=>some (c,d) | .inr (m,o,f,g)=>some (f,(!g)))
theorem BG{n:Nat}:Dd (kC n):=by
 intro Q R T C r h; unfold kC at h; refine bF Tryz.func117 rfl rfl<|cRs<|wAe (Li aR []) rfl rfl rfl rfl<|goo 8 rfl<|xLn rfl<|oCk h (fun B h=> ?_)
 refine wMk (z:=(0:Int)) (f:=aR) B rfl rfl rfl rfl rfl rfl rfl<|wBd [.sl ((List.replicate (Int.toNat (C.length:Int)) (0:Int)).map aR), .bool false] rfl rfl rfl rfl rfl rfl<|xAz [.sl ([].map aR), .bool false] rfl<|goo 7 rfl<|xLn rfl<|goc 2 rfl<|cLp h [(5,5),(18,25)] [(4,4)] (fun(g,v,w)=>([(18,I64 g)],[(4,[.sl (v.map aR), .bool w])])) (fun(j,l,y,A)=>(.e 0,[(18,I64 j),(19,Bo l)],[(4,[.sl (y.map aR), .bool A])])) rfl (fun st _ h=> ?_) (fun q h=> ?_)
 obtain⟨g,v,w⟩:=st; unfold eV at h; refine gcc 5 rfl<|cIf h rfl (fun N h=> ?_) (fun N h=> ?_)
 refine gco 10 rfl<|wLa rfl rfl rfl rfl rfl rfl rfl<|xMv rfl<|wIp (f:=aR) h rfl rfl rfl rfl rfl rfl (fun _=>rfl) rfl (fun G ke24_10 h=> ?_)
 refine Lv (f:=aR) (v':=((-1):Int)) h ke24_10 rfl rfl rfl rfl rfl rfl rfl rfl rfl (fun M h=> ?_)
 exact geo; exact gec; obtain⟨j,l,y,A⟩:=q; refine cRs<|xC1 h (eM ·) rfl (fun D h=> ?_)
 refine goo 8 rfl<|xLn rfl<|goc 2 rfl<|cLp h [(2,3),(6,7),(32,50)] [(4,4),(7,7)] (fun(a,p,s)=>([(32,I64 a)],[(4,[.sl (p.map aR), .bool s])])) (fun q=>match q with | .inl (m,o)=>(.r,[(2,Li aR m),(3,Bo o)],[]) | .inr (b,c,t,u)=>(.e 2,[(32,I64 b),(33,Bo c)],[(4,[.sl (t.map aR), .bool u])])) rfl (fun st _ h=> ?_) (fun q h=> ?_)
 obtain⟨a,p,s⟩:=st; unfold eU at h; refine gcc 5 rfl<|cIf h rfl (fun J h=> ?_) (fun J h=> ?_)
 refine gco 6 rfl<|xIx h fA rfl (fun H h=> ?_)
 refine xLd rfl<|xAc rfl<|goo 6 rfl<|oJn h [(37,46)] [] (fun d=>(.n,[(46,Bo d)],[])) (fun _ h=> ?_) (fun d h=> ?_)
 refine goo 3 rfl<|oIf 39 h rfl (fun K h=> ?_) (fun K h=> ?_)
 exact geo; refine goo 3 rfl<|xIx h gW rfl (fun I h=> ?_)
 exact geo; refine cIf h rfl (fun L h=> ?_) (fun L h=> ?_)
 exact cRs<|wAe (Li aR []) rfl rfl rfl rfl<|geo
 refine gco 4 rfl<|xC1 h (uV ·) rfl (fun E h=> ?_)
 exact geo; exact gec; rcases q with⟨m,o⟩ | ⟨b,c,t,u⟩; exact en; exact gec
abbrev Ls(p:(List UInt8)→Int→Int→(List aE)→(List aD)→(List aA)→Option (Bool×(List aD)×(List aA))):Prop:= ∀ {d:List UInt8} {f g:Int} {j:List aE} {a:List aD} {b:List aA} {r:Bool×(List aD)×(List aA)},p d f g j a b=some r→Big Tryz.prog τ An (.fn 73 [.one (.ptr 1000000 0), .one (.cp [.str d, .int .i64 f, .int .i64 g, .sl (j.map aL)])] [[.sl (a.map aJ), .sl (b.map aF)]] (.one (.c (.bool r.1))) none [[.sl (r.2.1.map aJ), .sl (r.2.2.map aF)]] none)
def kI(n:Nat)(j:List UInt8)(l:Int)(m:Int)(g:List aE):(Int×(List aD)×(List aA))→Option ((Int×(List aD)×(List aA))⊕((Bool×(List aD)×(List aA))⊕(Int×Bool×(List aD)×(List aA))))
  | (f,b,c)=>bif decide (f<(g.length:Int))then(ix g f).bind fun d=>(nG n j l m g d.f0 d.f1 d.f2 d.f3 b c).bind fun a=>bif !a.1 then some (.inr (.inl (false,a.2.1,a.2.2)))else some (.inl ((IntKind.wrap .i64 (f+(1:Int))),a.2.1,a.2.2))else some (.inr (.inr (f,false,b,c)))
def rN(n:Nat)(g:List UInt8)(f:Int)(j:Int)(l:List aE)(o:List aD)(p:List aA):Option (Bool×(List aD)×(List aA)):=
  ((fD n g).bind fun s=>bif !s then some true else(aS n f (0:Int) (4:Int)).bind fun t=>bif !t then some true else(aS n j f (400:Int)).bind fun u=>bif !u then some true else(aS n (l.length:Int) (1:Int) (1500:Int)).bind fun v=>some (!v)).bind fun w=>bif w then some (false,o,p)else(loopN (kI n g f j l) n ((0:Int),o,p)).bind fun q=>(match q with | .inl (y,a,b)=>some (y,a,b) | .inr (z,A,c,d)=>(kC n g f j l).bind fun m=>some (m.2,c,d))
theorem Hy{n:Nat}:Ls (rN n):=by
 intro J K L M C D r h; unfold rN at h; refine bF Tryz.func73 rfl rfl<|gco 7 rfl<|oJn h [(9,43)] [] (fun o=>(.n,[(43,Bo o)],[])) (fun _ h=> ?_) (fun o h=> ?_)
 refine goo 4 rfl<|xC0 h (mZ ·) rfl (fun y h=> ?_)
 refine goo 2 rfl<|oIf 15 h rfl (fun E h=> ?_) (fun E h=> ?_)
 exact geo; refine goo 4 rfl<|xC0 h (aU ·) rfl (fun z h=> ?_)
 refine goo 3 rfl<|oIf 23 h rfl (fun G h=> ?_) (fun G h=> ?_)
 exact geo; refine goo 8 rfl<|xC0 h (aU ·) rfl (fun A h=> ?_)
 refine goo 3 rfl<|oIf 35 h rfl (fun H h=> ?_) (fun H h=> ?_)
 exact geo; refine goo 4 rfl<|xLn rfl<|xC0 h (aU ·) rfl (fun B h=> ?_)
 exact geo; refine cIf h rfl (fun I h=> ?_) (fun I h=> ?_)
 exact gec; refine gco 8 rfl<|xLn rfl<|goc 2 rfl<|cLp h [(4,4),(6,6),(49,58)] [(6,6),(1000000,1000000)] (fun(j,a,b)=>([(49,I64 j)],[(1000000,[.sl (a.map aJ), .sl (b.map aF)])])) (fun q=>match q with | .inl (p,c,d)=>(.r,[(4,Bo p)],[(1000000,[.sl (c.map aJ), .sl (d.map aF)])]) | .inr (l,m,f,g)=>(.e 0,[(49,I64 l),(50,Bo m)],[(1000000,[.sl (f.map aJ), .sl (g.map aF)])])) rfl (fun st _ h=> ?_) (fun q h=> ?_)
 obtain⟨j,a,b⟩:=st; unfold kI at h; refine gcc 5 rfl<|cIf h rfl (fun v h=> ?_) (fun v h=> ?_)
 refine gco 5 rfl<|xIx h fA rfl (fun u h=> ?_)
 refine xLd rfl<|xAc rfl<|goo 7 rfl<|xC1 h (Fy ·) rfl (fun s h=> ?_)
 refine goc 2 rfl<|cIf h rfl (fun w h=> ?_) (fun w h=> ?_)
 exact gec; exact gec; exact gec; rcases q with⟨p,c,d⟩ | ⟨l,m,f,g⟩; exact en; refine gco 3 rfl<|xC0 h (BG ·) rfl (fun t h=> ?_)
 exact geo
abbrev IU(p:(List aD)→(List aA)→Option (Bool)):Prop:= ∀ {a:List aD} {b:List aA} {r:Bool},p a b=some r→Big Tryz.prog τ An (.fn 25 [.one (.ag [.sl (a.map aJ), .sl (b.map aF)])] [] (.one (.c (.bool r))) none [] none)
def hJ(n:Nat)(p:List aD):(Int×(List aD)×(List aA))→Option ((Int×(List aD)×(List aA))⊕((Bool)⊕(Int×Bool×(List aD)×(List aA))))
  | (b,f,l)=>bif decide (b<(p.length:Int))then((ix f b).bind fun g=>(oY n g.f0 f l).bind fun a=>bif !decide (a.1=b)then some (true,a.2.1,a.2.2)else(ix a.2.1 b).bind fun c=>(rN n c.f0 c.f1 c.f2 c.f3 a.2.1 a.2.2).bind fun d=>some ((!d.1),d.2.1,d.2.2)).bind fun(j,m,o)=>bif j then some (.inr (.inl false))else some (.inl ((IntKind.wrap .i64 (b+(1:Int))),m,o))else some (.inr (.inr (b,false,f,l)))
def lI(n:Nat)(a:List aD)(b:List aA):Option (Bool):=
  (bif decide ((12:Int)<(a.length:Int))then some true else some (decide ((2000:Int)<(b.length:Int)))).bind fun c=>bif c then some false else(loopN (hJ n a) n ((0:Int),a,b)).bind fun q=>(match q with | .inl d=>some d | .inr (f,g,j,l)=>some true)
theorem wW{n:Nat}:IU (lI n):=by
 intro D E r h; unfold lI at h; refine bF Tryz.func25 rfl rfl<|gco 8 rfl<|oJn h [(4,13)] [] (fun b=>(.n,[(13,Bo b)],[])) (fun _ h=> ?_) (fun b h=> ?_)
 refine goo 2 rfl<|xLn rfl<|goo 2 rfl<|oIf 8 h rfl (fun B h=> ?_) (fun B h=> ?_)
 exact geo; exact goo 2 rfl<|xLn rfl<|geo
 refine cIf h rfl (fun C h=> ?_) (fun C h=> ?_)
 exact gec; refine gco 6 rfl<|xLn rfl<|goc 2 rfl<|cLp h [(2,3),(17,37)] [(1,1)] (fun(c,p,s)=>([(17,I64 c)],[(1,[.sl (p.map aJ), .sl (s.map aF)])])) (fun q=>match q with | .inl o=>(.r,[(2,Bo o)],[]) | .inr (d,f,g,j)=>(.e 0,[(17,I64 d),(18,Bo f)],[(1,[.sl (g.map aJ), .sl (j.map aF)])])) rfl (fun st _ h=> ?_) (fun q h=> ?_)
 obtain⟨c,p,s⟩:=st; unfold hJ at h; refine gcc 5 rfl<|cIf h rfl (fun y h=> ?_) (fun y h=> ?_)
 refine gco 10 rfl<|oJn h [(20,36)] [(1,1)] (fun(a,l,m)=>(.n,[(36,Bo a)],[(1,[.sl (l.map aJ), .sl (m.map aF)])])) (fun _ h=> ?_) (fun q h=> ?_)
 refine goo 3 rfl<|xIx h dI rfl (fun v h=> ?_)
 refine goo 2 rfl<|xC1 h (Ao ·) rfl (fun t h=> ?_)
 refine goo 3 rfl<|oIf 29 h rfl (fun z h=> ?_) (fun z h=> ?_)
 exact geo; refine goo 3 rfl<|xIx h dI rfl (fun w h=> ?_)
 refine xC1 h (Hy ·) rfl (fun u h=> ?_)
 exact geo; obtain⟨a,l,m⟩:=q; refine cIf h rfl (fun A h=> ?_) (fun A h=> ?_)
 exact gec; exact gec; exact gec; rcases q with o | ⟨d,f,g,j⟩; exact en; exact gec
abbrev GQ(p:(List aD)→(List aA)→Option (Bool)):Prop:= ∀ {a:List aD} {b:List aA} {r:Bool},p a b=some r→Big Tryz.prog τ An (.fn 54 [.one (.ag [.sl (a.map aJ), .sl (b.map aF)])] [] (.one (.c (.bool r))) none [] none)
def lS(n:Nat)(c:List aA):(Int)→Option ((Int)⊕((Bool)⊕(Int×Bool)))
  | b=>bif decide (b<(c.length:Int))then(ix c b).bind fun a=>(iN n a.f0 a.f1 a.f2 a.f3 (400:Int)).bind fun d=>bif !d then some (.inr (.inl false))else some (.inl (IntKind.wrap .i64 (b+(1:Int))))else some (.inr (.inr (b,false)))
def mL(n:Nat)(c:List aD)(a:List aA):Option (Bool):=
  (loopN (lS n a) n (0:Int)).bind fun q=>(match q with | .inl b=>some b | .inr (d,f)=>some true)
theorem DY{n:Nat}:GQ (mL n):=by
 intro m o r h; unfold mL at h; refine bF Tryz.func54 rfl rfl<|gco 10 rfl<|xLn rfl<|goc 2 rfl<|cLp h [(2,2),(4,4),(8,15)] [(4,4)] (fun b=>([(8,I64 b)],[])) (fun q=>match q with | .inl a=>(.r,[(2,Bo a)],[]) | .inr (c,d)=>(.e 0,[(8,I64 c),(9,Bo d)],[])) rfl (fun b _ h=> ?_) (fun q h=> ?_)
 unfold lS at h; refine gcc 5 rfl<|cIf h rfl (fun j h=> ?_) (fun j h=> ?_)
 refine gco 5 rfl<|xIx h aQ rfl (fun g h=> ?_)
 refine xLd rfl<|xAz [.int .i64 0, .int .i64 0, .str [], .sl ([].map aF)] rfl<|goo 5 rfl<|xC0 h (vM ·) rfl (fun f h=> ?_)
 refine goc 2 rfl<|cIf h rfl (fun l h=> ?_) (fun l h=> ?_)
 exact gec; exact gec; exact gec; rcases q with a | ⟨c,d⟩; exact en; exact gec
abbrev IR(p:(List Int)→Int→Option ((List Int))):Prop:= ∀ {a:List Int} {b:Int} {r:(List Int)},p a b=some r→Big Tryz.prog τ An (.fn 55 [.one (.c (.sl (a.map rI_u8))), .one (.c (.int .i64 b))] [] (.one (.c (.sl (r.map rI_u8)))) none [] none)
def bY(n:Nat):((List Int)×Int)→Option (((List Int)×Int)⊕(((List Int)×Int×Bool)))
  | (b,a)=>bif decide ((127:Int)<a)then(dF 1 b ([(IntKind.wrap .u8 (bits .or .i64 (128:Int) (bits .and .i64 a (127:Int))))]:List Int)).bind fun c=>some (.inl (c,(Int.fdiv a (2 ^ 7))))else some (.inr (b,a,false))
def qI(n:Nat):((List Int)×Int)→Option (((List Int)×Int)⊕(((List Int)×Int×Bool)))
  | (b,a)=>bif decide ((127:Int)<a)then(dF 1 b ([(IntKind.wrap .u8 (bits .or .i64 (128:Int) (bits .and .i64 a (127:Int))))]:List Int)).bind fun c=>some (.inl (c,(Int.fdiv a (2 ^ 7))))else some (.inr (b,a,false))
def bH(n:Nat)(b:List Int)(a:Int):Option ((List Int)):=
  bif decide ((if(if(1000000000000:Int)<a then(1000000000000:Int)else a) > ((-1000000000000):Int)then(if(1000000000000:Int)<a then(1000000000000:Int)else a)else((-1000000000000):Int))<(0:Int))then(loopN (bY n) n (b,(IntKind.wrap .i64 ((IntKind.wrap .i64 (((-2):Int)*(if(if(1000000000000:Int)<a then(1000000000000:Int)else a) > ((-1000000000000):Int)then(if(1000000000000:Int)<a then(1000000000000:Int)else a)else((-1000000000000):Int)))) - (1:Int))))).bind fun(j,l,o)=>(dF 1 j ([(IntKind.wrap .u8 l)]:List Int)).bind fun f=>some f else(loopN (qI n) n (b,(IntKind.wrap .i64 ((2:Int)*(if(if(1000000000000:Int)<a then(1000000000000:Int)else a) > ((-1000000000000):Int)then(if(1000000000000:Int)<a then(1000000000000:Int)else a)else((-1000000000000):Int)))))).bind fun(d,g,m)=>(dF 1 d ([(IntKind.wrap .u8 g)]:List Int)).bind fun c=>some c
theorem cJ{n:Nat}:IR (bH n):=by
 intro A B r h; unfold bH at h; refine bF Tryz.func55 rfl rfl<|cRs<|wAe (Li rI_u8 []) rfl rfl rfl rfl<|goo 4 rfl<|wMn rfl rfl rfl rfl<|wMx rfl rfl rfl rfl<|goc 14 rfl<|cIf h rfl (fun y h=> ?_) (fun y h=> ?_)
 refine gcc 7 rfl<|cLp h [(0,0),(5,5),(16,26)] [] (fun(o,b)=>([(0,Li rI_u8 o),(5,I64 b)],[])) (fun(p,g,m)=>(.e 0,[(0,Li rI_u8 p),(5,I64 g),(17,Bo m)],[])) rfl (fun st _ h=> ?_) (fun q h=> ?_)
 obtain⟨o,b⟩:=st; unfold bY at h; refine gcc 6 rfl<|cIf h rfl (fun z h=> ?_) (fun z h=> ?_)
 refine gco 6 rfl<|wBi (.int .i64 (bits .and .i64 b (127:Int))) rfl rfl rfl rfl rfl<|wBi (.int .i64 (bits .or .i64 (128:Int) (bits .and .i64 b (127:Int)))) rfl rfl rfl rfl rfl<|wCv rfl rfl rfl rfl rfl<|cQ (L:=([(IntKind.wrap .u8 (bits .or .i64 (128:Int) (bits .and .i64 b (127:Int))))]:List Int)) (f:=rI_u8) rfl rfl rfl rfl rfl rfl rfl<|wAp (f:=rI_u8) h rfl rfl rfl rfl rfl rfl rfl rfl rfl (fun _=>rfl) rfl (fun v h=> ?_)
 exact goo 4 rfl<|wBi (.int .i64 (Int.fdiv b (2 ^ 7))) rfl rfl rfl rfl rfl<|geo
 exact gec; obtain⟨p,g,m⟩:=q; refine gco 5 rfl<|cQ (L:=([(IntKind.wrap .u8 g)]:List Int)) (f:=rI_u8) rfl rfl rfl rfl rfl rfl rfl<|wAp (f:=rI_u8) h rfl rfl rfl rfl rfl rfl rfl rfl rfl (fun _=>rfl) rfl (fun w h=> ?_)
 exact geo; refine gcc 2 rfl<|cLp h [(0,0),(5,5),(16,26)] [] (fun(j,a)=>([(0,Li rI_u8 j),(5,I64 a)],[])) (fun(l,c,d)=>(.e 0,[(0,Li rI_u8 l),(5,I64 c),(17,Bo d)],[])) rfl (fun st _ h=> ?_) (fun q h=> ?_)
 obtain⟨j,a⟩:=st; unfold qI at h; refine gcc 6 rfl<|cIf h rfl (fun s h=> ?_) (fun s h=> ?_)
 refine gco 6 rfl<|wBi (.int .i64 (bits .and .i64 a (127:Int))) rfl rfl rfl rfl rfl<|wBi (.int .i64 (bits .or .i64 (128:Int) (bits .and .i64 a (127:Int)))) rfl rfl rfl rfl rfl<|wCv rfl rfl rfl rfl rfl<|cQ (L:=([(IntKind.wrap .u8 (bits .or .i64 (128:Int) (bits .and .i64 a (127:Int))))]:List Int)) (f:=rI_u8) rfl rfl rfl rfl rfl rfl rfl<|wAp (f:=rI_u8) h rfl rfl rfl rfl rfl rfl rfl rfl rfl (fun _=>rfl) rfl (fun t h=> ?_)
 exact goo 4 rfl<|wBi (.int .i64 (Int.fdiv a (2 ^ 7))) rfl rfl rfl rfl rfl<|geo
 exact gec; obtain⟨l,c,d⟩:=q; refine gco 5 rfl<|cQ (L:=([(IntKind.wrap .u8 c)]:List Int)) (f:=rI_u8) rfl rfl rfl rfl rfl rfl rfl<|wAp (f:=rI_u8) h rfl rfl rfl rfl rfl rfl rfl rfl rfl (fun _=>rfl) rfl (fun u h=> ?_)
 exact geo
abbrev GP(p:(List Int)→(List UInt8)→Option ((List Int))):Prop:= ∀ {a:List Int} {b:List UInt8} {r:(List Int)},p a b=some r→Big Tryz.prog τ An (.fn 56 [.one (.c (.sl (a.map rI_u8))), .one (.c (.str b))] [] (.one (.c (.sl (r.map rI_u8)))) none [] none)
def fE(n:Nat)(f:List Int)(a:List UInt8):Option ((List Int)):=
  (bH n f (a.length:Int)).bind fun d=>(dF 1 d (a.map fun c=>((c.toNat:Nat):Int))).bind fun b=>some b
theorem qK{n:Nat}:GP (fE n):=by
 intro c d r h; unfold fE at h; refine bF Tryz.func56 rfl rfl<|cRs<|wAe (Li rI_u8 []) rfl rfl rfl rfl<|goo 5 rfl<|xLs rfl<|xC0 h (cJ ·) rfl (fun b h=> ?_)
 refine xMv rfl<|wAps (f:=rI_u8) h rfl rfl rfl rfl rfl (fun _=>rfl) rfl (fun _=>rfl) rfl (fun a h=> ?_)
 exact geo
abbrev lL:Type:=(List Int)→Int→Int→(List UInt8)→(List aA)→Option ((List Int))
abbrev rA(p:lL):Prop:= ∀ {a:List Int} {b d:Int} {f:List UInt8} {g:List aA} {r:(List Int)},p a b d f g=some r→Big Tryz.prog τ An (.fn 57 [.one (.c (.sl (a.map rI_u8))), .one (.ag [.int .i64 b, .int .i64 d, .str f, .sl (g.map aF)])] [] (.one (.c (.sl (r.map rI_u8)))) none [] none)
def fW(n:Nat)(b:lL)(f:List aA):((List Int)×Int)→Option (((List Int)×Int)⊕(((List Int)×Int×Bool)))
  | (g,c)=>bif decide (c<(f.length:Int))then(ix f c).bind fun a=>(b g a.f0 a.f1 a.f2 a.f3).bind fun d=>some (.inl (d,(IntKind.wrap .i64 (c+(1:Int)))))else some (.inr (g,c,false))
def lD(n:Nat)(a:lL)(j:List Int)(l:Int)(m:Int)(o:List UInt8)(b:List aA):Option ((List Int)):=
  (bH n j l).bind fun c=>(bH n c m).bind fun d=>(fE n d o).bind fun f=>(bH n f (b.length:Int)).bind fun g=>(loopN (fW n a b) n (g,(0:Int))).bind fun(p,s,t)=>some p
theorem DC{n:Nat}{a:lL}(b:rA a):rA (lD n a):=by
 intro v w y z A r h; unfold lD at h; refine bF Tryz.func57 rfl rfl<|gco 3 rfl<|wAe (Li rI_u8 []) rfl rfl rfl rfl<|goo 6 rfl<|xC0 h (cJ ·) rfl (fun p h=> ?_)
 refine goo 2 rfl<|xC0 h (cJ ·) rfl (fun s h=> ?_)
 refine goo 2 rfl<|xC0 h (qK ·) rfl (fun t h=> ?_)
 refine goo 2 rfl<|xLn rfl<|xC0 h (cJ ·) rfl (fun u h=> ?_)
 refine goo 7 rfl<|xLn rfl<|goc 2 rfl<|cLp h [(0,0),(6,6),(24,31)] [(6,6)] (fun(g,c)=>([(0,Li rI_u8 g),(24,I64 c)],[])) (fun(j,d,f)=>(.e 0,[(0,Li rI_u8 j),(24,I64 d),(25,Bo f)],[])) rfl (fun st _ h=> ?_) (fun q h=> ?_)
 obtain⟨g,c⟩:=st; unfold fW at h; refine gcc 5 rfl<|cIf h rfl (fun o h=> ?_) (fun o h=> ?_)
 refine gco 5 rfl<|xIx h aQ rfl (fun m h=> ?_)
 refine xLd rfl<|xAz [.int .i64 0, .int .i64 0, .str [], .sl ([].map aF)] rfl<|goo 5 rfl<|xC0 h (b ·) rfl (fun l h=> ?_)
 exact geo; exact gec; obtain⟨j,d,f⟩:=q; exact gec
def Aj:Nat→(lL)
  | 0=>(fun _ _ _ _ _=>none)
  | n+1=>lD n (Aj n)
def iE(n:Nat):lL:=Aj n
theorem DJ(n:Nat):rA (iE n):=by
  induction n with
  | zero=>exact(fun h=>nomatch h)
  | succ n ih=>exact DC (n:=n) ih
theorem FM{n:Nat}:rA (iE n):=(DJ n)
theorem sS(n:Nat):iE (n+1)=lD n (iE n):=rfl
abbrev GU(p:(List aD)→(List aA)→Option ((List Int))):Prop:= ∀ {a:List aD} {b:List aA} {r:(List Int)},p a b=some r→Big Tryz.prog τ An (.fn 20 [.one (.ag [.sl (a.map aJ), .sl (b.map aF)])] [] (.one (.c (.sl (r.map rI_u8)))) none [] none)
def dN(n:Nat)(c:aD):((List Int)×Int)→Option (((List Int)×Int)⊕(((List Int)×Int×Bool)))
  | (d,b)=>bif decide (b<(c.f3.length:Int))then(ix c.f3 b).bind fun a=>(bH n d a.f0).bind fun f=>(bH n f a.f1).bind fun g=>(fE n g a.f2).bind fun j=>(bH n j a.f3).bind fun l=>some (.inl (l,(IntKind.wrap .i64 (b+(1:Int)))))else some (.inr (d,b,false))
def eO(n:Nat)(j:List aD):((List Int)×Int)→Option (((List Int)×Int)⊕(((List Int)×Int×Bool)))
  | (l,b)=>bif decide (b<(j.length:Int))then(ix j b).bind fun a=>(fE n l a.f0).bind fun c=>(bH n c a.f1).bind fun d=>(bH n d a.f2).bind fun f=>(bH n f (a.f3.length:Int)).bind fun g=>(loopN (dN n a) n (g,(0:Int))).bind fun(m,o,p)=>some (.inl (m,(IntKind.wrap .i64 (b+(1:Int)))))else some (.inr (l,b,false))
def dM(n:Nat)(f:List aA):((List Int)×Int)→Option (((List Int)×Int)⊕(((List Int)×Int×Bool)))
  | (c,b)=>bif decide (b<(f.length:Int))then(ix f b).bind fun a=>(iE n c a.f0 a.f1 a.f2 a.f3).bind fun d=>some (.inl (d,(IntKind.wrap .i64 (b+(1:Int)))))else some (.inr (c,b,false))
def gF(n:Nat)(a:List aD)(b:List aA):Option ((List Int)):=
  ((lI n a b).bind fun d=>bif !d then some true else(mL n a b).bind fun f=>some (!f)).bind fun j=>bif j then some ([]:List Int)else(bH n ([]:List Int) (a.length:Int)).bind fun g=>(loopN (eO n a) n (g,(0:Int))).bind fun(m,o,p)=>(bH n m (b.length:Int)).bind fun c=>(loopN (dM n b) n (c,(0:Int))).bind fun(l,s,t)=>some l
theorem vL{n:Nat}:GU (gF n):=by
 intro X Y r h; unfold gF at h; refine bF Tryz.func20 rfl rfl<|gco 3 rfl<|wAe (Li rI_u8 []) rfl rfl rfl rfl<|goo 4 rfl<|oJn h [(10,17)] [] (fun m=>(.n,[(17,Bo m)],[])) (fun _ h=> ?_) (fun m h=> ?_)
 refine xLd rfl<|xC0 h (wW ·) rfl (fun R h=> ?_)
 refine goo 2 rfl<|oIf 13 h rfl (fun V h=> ?_) (fun V h=> ?_)
 exact geo; refine xLd rfl<|xC0 h (DY ·) rfl (fun T h=> ?_)
 exact geo; refine cIf h rfl (fun W h=> ?_) (fun W h=> ?_)
 exact cRs<|wAe (Li rI_u8 []) rfl rfl rfl rfl<|geo
 refine gco 5 rfl<|xLn rfl<|xC0 h (cJ ·) rfl (fun U h=> ?_)
 refine goo 7 rfl<|xLn rfl<|goc 2 rfl<|cLp h [(3,3),(5,5),(7,7),(25,64)] [(5,5),(7,7)] (fun(v,o)=>([(3,Li rI_u8 v),(25,I64 o)],[])) (fun(w,a,b)=>(.e 0,[(3,Li rI_u8 w),(25,I64 a),(26,Bo b)],[])) rfl (fun st _ h=> ?_) (fun q h=> ?_)
 obtain⟨v,o⟩:=st; unfold eO at h; refine gcc 5 rfl<|cIf h rfl (fun M h=> ?_) (fun M h=> ?_)
 refine gco 5 rfl<|xIx h dI rfl (fun J h=> ?_)
 refine xLd rfl<|xAz [.str [], .int .i64 0, .int .i64 0, .sl ([].map aL)] rfl<|goo 7 rfl<|xC0 h (qK ·) rfl (fun y h=> ?_)
 refine goo 2 rfl<|xC0 h (cJ ·) rfl (fun z h=> ?_)
 refine goo 2 rfl<|xC0 h (cJ ·) rfl (fun A h=> ?_)
 refine goo 2 rfl<|xLn rfl<|xC0 h (cJ ·) rfl (fun B h=> ?_)
 refine goo 6 rfl<|xLn rfl<|goc 2 rfl<|cLp h [(3,3),(7,7),(46,63)] [(7,7)] (fun(p,c)=>([(3,Li rI_u8 p),(46,I64 c)],[])) (fun(s,d,f)=>(.e 2,[(3,Li rI_u8 s),(46,I64 d),(47,Bo f)],[])) rfl (fun st _ h=> ?_) (fun q h=> ?_)
 obtain⟨p,c⟩:=st; unfold dN at h; refine gcc 5 rfl<|cIf h rfl (fun N h=> ?_) (fun N h=> ?_)
 refine gco 5 rfl<|xIx h fA rfl (fun K h=> ?_)
 refine xLd rfl<|xAc rfl<|goo 6 rfl<|xC0 h (cJ ·) rfl (fun C h=> ?_)
 refine goo 2 rfl<|xC0 h (cJ ·) rfl (fun D h=> ?_)
 refine goo 2 rfl<|xC0 h (qK ·) rfl (fun E h=> ?_)
 refine goo 2 rfl<|xC0 h (cJ ·) rfl (fun G h=> ?_)
 exact geo; exact gec; obtain⟨s,d,f⟩:=q; exact gec; exact gec; obtain⟨w,a,b⟩:=q; refine gco 5 rfl<|xLn rfl<|xC0 h (cJ ·) rfl (fun H h=> ?_)
 refine goo 7 rfl<|xLn rfl<|goc 2 rfl<|cLp h [(3,3),(9,9),(73,80)] [(9,9)] (fun(t,g)=>([(3,Li rI_u8 t),(73,I64 g)],[])) (fun(u,j,l)=>(.e 4,[(3,Li rI_u8 u),(73,I64 j),(74,Bo l)],[])) rfl (fun st _ h=> ?_) (fun q h=> ?_)
 obtain⟨t,g⟩:=st; unfold dM at h; refine gcc 5 rfl<|cIf h rfl (fun Q h=> ?_) (fun Q h=> ?_)
 refine gco 5 rfl<|xIx h aQ rfl (fun L h=> ?_)
 refine xLd rfl<|xAz [.int .i64 0, .int .i64 0, .str [], .sl ([].map aF)] rfl<|goo 5 rfl<|xC0 h (FM ·) rfl (fun I h=> ?_)
 exact geo; exact gec; obtain⟨u,j,l⟩:=q; exact gec
abbrev IA(p:(List aD)→(List aA)→(List UInt8)→Option (Int)):Prop:= ∀ {a:List aD} {b:List aA} {d:List UInt8} {r:Int},p a b d=some r→Big Tryz.prog τ An (.fn 109 [.one (.ag [.sl (a.map aJ), .sl (b.map aF)]), .one (.c (.str d))] [] (.one (.c (.int .i64 r))) none [] none)
def jX(n:Nat)(b:List aD)(d:List UInt8):(Int)→Option ((Int)⊕((Int)⊕(Int×Bool)))
  | a=>bif decide (a<(b.length:Int))then(ix b a).bind fun c=>bif decide (c.f0=d)then some (.inr (.inl a))else some (.inl (IntKind.wrap .i64 (a+(1:Int))))else some (.inr (.inr (a,false)))
def jH(n:Nat)(a:List aD)(f:List aA)(b:List UInt8):Option (Int):=
  (loopN (jX n a b) n (0:Int)).bind fun q=>(match q with | .inl c=>some c | .inr (g,d)=>some ((-1):Int))
theorem wT{n:Nat}:IA (jH n):=by
 intro l m o r h; unfold jH at h; refine bF Tryz.func109 rfl rfl<|gcc 10 rfl<|cLp h [(4,21)] [] (fun c=>([(5,I64 c)],[])) (fun q=>match q with | .inl b=>(.r,[(4,I64 b)],[]) | .inr (d,a)=>(.e 0,[(5,I64 d),(10,Bo a)],[])) rfl (fun c _ h=> ?_) (fun q h=> ?_)
 unfold jX at h; refine gco 6 rfl<|xLn rfl<|goc 2 rfl<|cIf h rfl (fun g h=> ?_) (fun g h=> ?_)
 refine gco 8 rfl<|xIx h dI rfl (fun f h=> ?_)
 refine goc 5 rfl<|cIf h rfl (fun j h=> ?_) (fun j h=> ?_)
 exact gec; exact gec; exact gec; rcases q with b | ⟨d,a⟩; exact en; exact gec
abbrev GA(p:Int→Int→(List UInt8)→(List aA)→Int→Option (Bool)):Prop:= ∀ {a b:Int} {d:List UInt8} {f:List aA} {g:Int} {r:Bool},p a b d f g=some r→Big Tryz.prog τ An (.fn 175 [.one (.ag [.int .i64 a, .int .i64 b, .str d, .sl (f.map aF)]), .one (.c (.int .i64 g))] [] (.one (.c (.bool r))) none [] none)
def mC(n:Nat)(a:Int)(b:Int)(c:List UInt8)(d:List aA)(t:Int):Option (Bool):=
  bif decide (a=(1:Int))then((aW n b (0:Int) (1000000000000:Int)).bind fun j=>bif j then bif decide (c=([]:List UInt8))then some (decide ((d.length:Int)=(0:Int)))else some false else some false).bind fun u=>some u else bif decide (a=(2:Int))then((eZ n c).bind fun l=>bif l then bif decide (b=(0:Int))then some (decide ((d.length:Int)=(0:Int)))else some false else some false).bind fun v=>some v else bif decide (a=(3:Int))then(bif decide (c=([]:List UInt8))then bif decide ((d.length:Int)=(0:Int))then(aW n b ((-1):Int) (IntKind.wrap .i64 (t - (1:Int)))).bind fun f=>some f else some false else some false).bind fun m=>some m else bif decide (a=(4:Int))then(bif decide (c=([]:List UInt8))then bif decide (b=(0:Int))then some (decide ((d.length:Int)≤(20:Int)))else some false else some false).bind fun o=>some o else bif decide (a=(5:Int))then(bif decide (c=([]:List UInt8))then bif decide (b=(0:Int))then some (decide ((d.length:Int)≤(20:Int)))else some false else some false).bind fun p=>some p else bif decide (a=(6:Int))then(bif decide (c=([]:List UInt8))then bif decide (b=(0:Int))then(aW n (d.length:Int) (2:Int) (6:Int)).bind fun g=>some g else some false else some false).bind fun s=>some s else some false
theorem DM{n:Nat}:GA (mC n):=by
 intro L M N Q R r h; unfold mC at h; refine bF Tryz.func175 rfl rfl<|gco 9 rfl<|xLn rfl<|goc 14 rfl<|cIf h rfl (fun G h=> ?_) (fun G h=> ?_)
 refine cRs<|oJn h [(4,4),(13,24)] [] (fun f=>(.n,[(4,Bo f)],[])) (fun _ h=> ?_) (fun f h=> ?_)
 refine goo 2 rfl<|xC0 h (aZ ·) rfl (fun D h=> ?_)
 refine xMv rfl<|oIf 16 h rfl (fun H h=> ?_) (fun H h=> ?_)
 refine goo 5 rfl<|oIf 21 h rfl (fun I h=> ?_) (fun I h=> ?_)
 exact geo; exact geo; exact geo; exact gec; refine gcc 5 rfl<|cIf h rfl (fun J h=> ?_) (fun J h=> ?_)
 refine cRs<|oJn h [(4,4),(27,38)] [] (fun g=>(.n,[(4,Bo g)],[])) (fun _ h=> ?_) (fun g h=> ?_)
 refine goo 2 rfl<|xC0 h (lC ·) rfl (fun E h=> ?_)
 refine xMv rfl<|oIf 30 h rfl (fun K h=> ?_) (fun K h=> ?_)
 refine goo 5 rfl<|oIf 35 h rfl (fun m h=> ?_) (fun m h=> ?_)
 exact geo; exact geo; exact geo; exact gec; refine gcc 5 rfl<|cIf h rfl (fun o h=> ?_) (fun o h=> ?_)
 refine cRs<|oJn h [(4,4),(41,54)] [] (fun a=>(.n,[(4,Bo a)],[])) (fun _ h=> ?_) (fun a h=> ?_)
 refine goo 4 rfl<|oIf 44 h rfl (fun p h=> ?_) (fun p h=> ?_)
 refine goo 4 rfl<|oIf 48 h rfl (fun s h=> ?_) (fun s h=> ?_)
 refine goo 4 rfl<|xC0 h (aZ ·) rfl (fun j h=> ?_)
 exact geo; exact geo; exact geo; exact gec; refine gcc 6 rfl<|cIf h rfl (fun t h=> ?_) (fun t h=> ?_)
 refine gco 4 rfl<|oJn h [(4,4),(58,69)] [] (fun b=>(.n,[(4,Bo b)],[])) (fun _ h=> ?_) (fun b h=> ?_)
 refine goo 4 rfl<|oIf 61 h rfl (fun u h=> ?_) (fun u h=> ?_)
 refine goo 5 rfl<|oIf 66 h rfl (fun v h=> ?_) (fun v h=> ?_)
 exact geo; exact geo; exact geo; exact gec; refine gcc 4 rfl<|cIf h rfl (fun w h=> ?_) (fun w h=> ?_)
 refine cRs<|oJn h [(4,4),(58,69)] [] (fun c=>(.n,[(4,Bo c)],[])) (fun _ h=> ?_) (fun c h=> ?_)
 refine goo 4 rfl<|oIf 61 h rfl (fun y h=> ?_) (fun y h=> ?_)
 refine goo 5 rfl<|oIf 66 h rfl (fun z h=> ?_) (fun z h=> ?_)
 exact geo; exact geo; exact geo; exact gec; refine gcc 5 rfl<|cIf h rfl (fun A h=> ?_) (fun A h=> ?_)
 refine cRs<|oJn h [(4,4),(72,83)] [] (fun d=>(.n,[(4,Bo d)],[])) (fun _ h=> ?_) (fun d h=> ?_)
 refine goo 4 rfl<|oIf 75 h rfl (fun B h=> ?_) (fun B h=> ?_)
 refine goo 5 rfl<|oIf 80 h rfl (fun C h=> ?_) (fun C h=> ?_)
 refine xMv rfl<|xC0 h (aZ ·) rfl (fun l h=> ?_)
 exact geo; exact geo; exact geo; exact gec; exact gec
abbrev lJ:Type:=Int→Int→(List UInt8)→(List aA)→Int→Int→Int→Option (Int)
abbrev qW(p:lJ):Prop:= ∀ {a b:Int} {d:List UInt8} {f:List aA} {g j l:Int} {r:Int},p a b d f g j l=some r→Big Tryz.prog τ An (.fn 142 [.one (.ag [.int .i64 a, .int .i64 b, .str d, .sl (f.map aF)]), .one (.c (.int .i64 g)), .one (.c (.int .i64 j)), .one (.c (.int .i64 l))] [] (.one (.c (.int .i64 r))) none [] none)
def fR(n:Nat)(b:lJ)(l:Int)(m:Int)(g:List aA):(Int×Int)→Option ((Int×Int)⊕((Int×Int×Bool)))
  | (d,c)=>(bif decide (c<(g.length:Int))then some (decide ((0:Int)≤d))else some false).bind fun j=>bif j then(ix g c).bind fun a=>(b a.f0 a.f1 a.f2 a.f3 l (IntKind.wrap .i64 (m - (1:Int))) d).bind fun f=>some (.inl (f,(IntKind.wrap .i64 (c+(1:Int)))))else some (.inr (d,c,false))
def nM(n:Nat)(a:lJ)(l:Int)(m:Int)(o:List UInt8)(b:List aA)(c:Int)(d:Int)(f:Int):Option (Int):=
  (bif decide (d<(1:Int))then some true else bif decide (f<(1:Int))then some true else(mC n l m o b c).bind fun g=>some (!g)).bind fun j=>bif j then some ((-1):Int)else(loopN (fR n a c d b) n ((IntKind.wrap .i64 (f - (1:Int))),(0:Int))).bind fun(p,t,s)=>some p
theorem Cw{n:Nat}{a:lJ}(b:qW a):qW (nM n a):=by
 intro z A B C D E G r h; unfold nM at h; refine bF Tryz.func142 rfl rfl<|gco 8 rfl<|oJn h [(10,21)] [] (fun f=>(.n,[(21,Bo f)],[])) (fun _ h=> ?_) (fun f h=> ?_)
 refine goo 3 rfl<|oIf 12 h rfl (fun v h=> ?_) (fun v h=> ?_)
 exact geo; refine goo 4 rfl<|oIf 16 h rfl (fun w h=> ?_) (fun w h=> ?_)
 exact geo; refine goo 2 rfl<|xC0 h (DM ·) rfl (fun u h=> ?_)
 exact geo; refine cIf h rfl (fun y h=> ?_) (fun y h=> ?_)
 exact gec; refine gcc 12 rfl<|cLp h [(3,3),(9,9),(24,44)] [] (fun(g,l)=>([(3,I64 g),(9,I64 l)],[])) (fun(j,m,c)=>(.e 0,[(3,I64 j),(9,I64 m),(32,Bo c)],[])) rfl (fun st _ h=> ?_) (fun q h=> ?_)
 obtain⟨g,l⟩:=st; unfold fR at h; refine gco 3 rfl<|oJn h [(24,32)] [] (fun d=>(.n,[(32,Bo d)],[])) (fun _ h=> ?_) (fun d h=> ?_)
 refine goo 3 rfl<|xLn rfl<|goo 2 rfl<|oIf 29 h rfl (fun s h=> ?_) (fun s h=> ?_)
 exact geo; exact geo; refine cIf h rfl (fun t h=> ?_) (fun t h=> ?_)
 refine gco 7 rfl<|xIx h aQ rfl (fun p h=> ?_)
 refine goo 5 rfl<|xC0 h (b ·) rfl (fun o h=> ?_)
 exact geo; exact gec; obtain⟨j,m,c⟩:=q; exact gec
def Ae:Nat→(lJ)
  | 0=>(fun _ _ _ _ _ _ _=>none)
  | n+1=>nM n (Ae n)
def gB(n:Nat):lJ:=Ae n
theorem DF(n:Nat):qW (gB n):=by
  induction n with
  | zero=>exact(fun h=>nomatch h)
  | succ n ih=>exact Cw (n:=n) ih
theorem Ez{n:Nat}:qW (gB n):=(DF n)
theorem Ax(n:Nat):gB (n+1)=nM n (gB n):=rfl
abbrev iO:Type:=Int→Int→(List UInt8)→(List aA)→Option ((List Int))
abbrev pL(p:iO):Prop:= ∀ {a b:Int} {d:List UInt8} {f:List aA} {r:(List Int)},p a b d f=some r→Big Tryz.prog τ An (.fn 143 [.one (.ag [.int .i64 a, .int .i64 b, .str d, .sl (f.map aF)])] [] (.one (.c (.sl (r.map aR)))) none [] none)
def iW(n:Nat)(b:iO)(f:List aA):((List Int)×Int)→Option (((List Int)×Int)⊕(((List Int)×Int×Bool)))
  | (j,c)=>bif decide (c<(f.length:Int))then(ix f c).bind fun a=>(b a.f0 a.f1 a.f2 a.f3).bind fun d=>(dF 8 j d).bind fun g=>some (.inl (g,(IntKind.wrap .i64 (c+(1:Int)))))else some (.inr (j,c,false))
def iV(n:Nat)(b:iO)(g:List aA):((List Int)×Int)→Option (((List Int)×Int)⊕(((List Int)×Int×Bool)))
  | (d,c)=>bif decide (c<(g.length:Int))then(ix g c).bind fun a=>(b a.f0 a.f1 a.f2 a.f3).bind fun f=>(dF 8 d f).bind fun j=>some (.inl (j,(IntKind.wrap .i64 (c+(1:Int)))))else some (.inr (d,c,false))
def lZ(n:Nat)(a:iO)(j:Int)(b:Int)(s:List UInt8)(c:List aA):Option ((List Int)):=
  (bif decide (j=(3:Int))then some (!decide (b=((-1):Int)))else some false).bind fun d=>bif d then(dF 8 ([]:List Int) ([b]:List Int)).bind fun f=>(loopN (iW n a c) n (f,(0:Int))).bind fun(l,t,o)=>some l else(loopN (iV n a c) n (([]:List Int),(0:Int))).bind fun(g,p,m)=>some g
theorem Bp{n:Nat}{b:iO}(a:pL b):pL (lZ n b):=by
 intro J v K M r h; unfold lZ at h; refine bF Tryz.func143 rfl rfl<|gco 3 rfl<|wAe (Li aR []) rfl rfl rfl rfl<|oRs<|cQ (L:=([]:List Int)) (f:=aR) rfl rfl rfl rfl rfl rfl rfl<|goo 5 rfl<|oJn h [(6,13)] [] (fun d=>(.n,[(13,Bo d)],[])) (fun _ h=> ?_) (fun d h=> ?_)
 refine goo 4 rfl<|oIf 9 h rfl (fun H h=> ?_) (fun H h=> ?_)
 exact geo; exact geo; refine cIf h rfl (fun I h=> ?_) (fun I h=> ?_)
 refine gco 4 rfl<|cQ (L:=([v]:List Int)) (f:=aR) rfl rfl rfl rfl rfl rfl rfl<|wAp (f:=aR) h rfl rfl rfl rfl rfl rfl rfl rfl rfl (fun _=>rfl) rfl (fun G h=> ?_)
 refine goc 7 rfl<|cLp h [(3,4),(19,33)] [] (fun(p,t)=>([(3,Li aR p),(4,I64 t)],[])) (fun(s,u,g)=>(.e 0,[(3,Li aR s),(4,I64 u),(23,Bo g)],[])) rfl (fun st _ h=> ?_) (fun q h=> ?_)
 obtain⟨p,t⟩:=st; unfold iW at h; refine gco 6 rfl<|xLn rfl<|goc 2 rfl<|cIf h rfl (fun B h=> ?_) (fun B h=> ?_)
 refine gco 8 rfl<|xIx h aQ rfl (fun z h=> ?_)
 refine xLd rfl<|xC0 h (a ·) rfl (fun w h=> ?_)
 refine wAp (f:=aR) h rfl rfl rfl rfl rfl rfl rfl rfl rfl (fun _=>rfl) rfl (fun D h=> ?_)
 exact geo; exact gec; obtain⟨s,u,g⟩:=q; exact gec; refine gcc 6 rfl<|cLp h [(3,4),(19,33)] [] (fun(j,m)=>([(3,Li aR j),(4,I64 m)],[])) (fun(l,o,c)=>(.e 0,[(3,Li aR l),(4,I64 o),(23,Bo c)],[])) rfl (fun st _ h=> ?_) (fun q h=> ?_)
 obtain⟨j,m⟩:=st; unfold iV at h; refine gco 6 rfl<|xLn rfl<|goc 2 rfl<|cIf h rfl (fun C h=> ?_) (fun C h=> ?_)
 refine gco 8 rfl<|xIx h aQ rfl (fun A h=> ?_)
 refine xLd rfl<|xC0 h (a ·) rfl (fun y h=> ?_)
 refine wAp (f:=aR) h rfl rfl rfl rfl rfl rfl rfl rfl rfl (fun _=>rfl) rfl (fun E h=> ?_)
 exact geo; exact gec; obtain⟨l,o,c⟩:=q; exact gec
def yO:Nat→(iO)
  | 0=>(fun _ _ _ _=>none)
  | n+1=>lZ n (yO n)
def fC(n:Nat):iO:=yO n
theorem Bu(n:Nat):pL (fC n):=by
  induction n with
  | zero=>exact(fun h=>nomatch h)
  | succ n ih=>exact Bp (n:=n) ih
theorem DL{n:Nat}:pL (fC n):=(Bu n)
theorem zT(n:Nat):fC (n+1)=lZ n (fC n):=rfl
abbrev GL(p:Int→Int→(List UInt8)→(List aA)→Int→Option (Bool)):Prop:= ∀ {a b:Int} {d:List UInt8} {f:List aA} {g:Int} {r:Bool},p a b d f g=some r→Big Tryz.prog τ An (.fn 107 [.one (.ag [.int .i64 a, .int .i64 b, .str d, .sl (f.map aF)]), .one (.c (.int .i64 g))] [] (.one (.c (.bool r))) none [] none)
def iZ(n:Nat)(b:(List Int))(f:Int):(Int)→Option ((Int)⊕((Bool)⊕(Int×Bool)))
  | a=>bif decide (a<f)then(ix b a).bind fun c=>(ix b f).bind fun d=>bif decide (c=d)then some (.inr (.inl false))else some (.inl (IntKind.wrap .i64 (a+(1:Int))))else some (.inr (.inr (a,false)))
def lR(n:Nat)(b:(List Int)):(Int)→Option ((Int)⊕((Bool)⊕(Int×Bool)))
  | a=>bif decide (a<(b.length:Int))then(loopN (iZ n b a) n (0:Int)).bind fun q=>(match q with | .inl c=>some (.inr (.inl c)) | .inr (f,d)=>some (.inl (IntKind.wrap .i64 (a+(1:Int)))))else some (.inr (.inr (a,false)))
def iL(n:Nat)(a:Int)(b:Int)(c:List UInt8)(d:List aA)(f:Int):Option (Bool):=
  ((aW n f (0:Int) (400:Int)).bind fun m=>bif !m then some true else(gB n a b c d f (10:Int) (300:Int)).bind fun g=>some (decide (g<(0:Int)))).bind fun l=>bif l then some false else(fC n a b c d).bind fun j=>(loopN (lR n j) n (0:Int)).bind fun q=>(match q with | .inl o=>some o | .inr (s,p)=>some true)
theorem vG{n:Nat}:GL (iL n):=by
 intro B C D E G r h; unfold iL at h; refine bF Tryz.func107 rfl rfl<|gco 8 rfl<|oJn h [(8,16)] [] (fun c=>(.n,[(16,Bo c)],[])) (fun _ h=> ?_) (fun c h=> ?_)
 refine xMv rfl<|xC0 h (aZ ·) rfl (fun y h=> ?_)
 refine goo 2 rfl<|oIf 11 h rfl (fun z h=> ?_) (fun z h=> ?_)
 exact geo; refine goo 2 rfl<|xC0 h (Ez ·) rfl (fun v h=> ?_)
 exact geo; refine cIf h rfl (fun A h=> ?_) (fun A h=> ?_)
 exact gec; refine gco 4 rfl<|xC0 h (DL ·) rfl (fun w h=> ?_)
 refine goc 7 rfl<|cLp h [(4,4),(6,7),(19,38)] [] (fun l=>([(6,I64 l)],[])) (fun q=>match q with | .inl j=>(.r,[(4,Bo j)],[]) | .inr (m,a)=>(.e 0,[(6,I64 m),(22,Bo a)],[])) rfl (fun l _ h=> ?_) (fun q h=> ?_)
 unfold lR at h; refine gco 5 rfl<|xLn rfl<|goc 2 rfl<|cIf h rfl (fun s h=> ?_) (fun s h=> ?_)
 refine gcc 7 rfl<|cLp h [(4,4),(7,7),(25,38)] [] (fun f=>([(7,I64 f)],[])) (fun q=>match q with | .inl d=>(.r,[(4,Bo d)],[]) | .inr (g,b)=>(.e 2,[(7,I64 g),(27,Bo b)],[])) rfl (fun f _ h=> ?_) (fun q h=> ?_)
 unfold iZ at h; refine gcc 7 rfl<|cIf h rfl (fun t h=> ?_) (fun t h=> ?_)
 refine gco 7 rfl<|xIx h gW rfl (fun o h=> ?_)
 refine goo 3 rfl<|xIx h gW rfl (fun p h=> ?_)
 refine goc 3 rfl<|cIf h rfl (fun u h=> ?_) (fun u h=> ?_)
 exact gec; exact gec; exact gec; rcases q with d | ⟨g,b⟩; exact en; exact gec; exact gec; rcases q with j | ⟨m,a⟩; exact en; exact gec
abbrev KG(p:(List aD)→(List aA)→(List UInt8)→Int→Int→(List aE)→Int→Option (Bool)):Prop:= ∀ {a:List aD} {b:List aA} {d:List UInt8} {f g:Int} {j:List aE} {l:Int} {r:Bool},p a b d f g j l=some r→Big Tryz.prog τ An (.fn 110 [.one (.ag [.sl (a.map aJ), .sl (b.map aF)]), .one (.ag [.str d, .int .i64 f, .int .i64 g, .sl (j.map aL)]), .one (.c (.int .i64 l))] [] (.one (.c (.bool r))) none [] none)
def nF(n:Nat)(y:List aD)(f:List aA)(T:List UInt8)(U:Int)(z:Int)(A:List aE)(B:Int):Option (Bool):=
  (ix A B).bind fun a=>(bif decide (a.f2=([]:List UInt8))then some (decide (a.f3=(0:Int)))else some false).bind fun c=>(bif decide (a.f2=([]:List UInt8))then(aW n a.f3 (IntKind.wrap .i64 (B+(1:Int))) (IntKind.wrap .i64 ((A.length:Int) - (1:Int)))).bind fun D=>some D else some false).bind fun C=>bif decide (a.f0=(1:Int))then(bif c then(aW n a.f1 (0:Int) (1000000000000:Int)).bind fun o=>some o else some false).bind fun R=>some R else bif decide (a.f0=(2:Int))then((eZ n a.f2).bind fun p=>bif p then bif decide (a.f1=(0:Int))then some (decide (a.f3=(0:Int)))else some false else some false).bind fun E=>some E else bif decide (a.f0=(3:Int))then(bif c then(aW n a.f1 (0:Int) (IntKind.wrap .i64 (z - (1:Int)))).bind fun s=>some s else some false).bind fun G=>some G else bif decide (a.f0=(4:Int))then(bif c then(aW n a.f1 (0:Int) (20:Int)).bind fun t=>some t else some false).bind fun H=>some H else bif decide (a.f0=(5:Int))then(bif c then(aW n a.f1 (0:Int) (20:Int)).bind fun u=>some u else some false).bind fun I=>some I else bif decide (a.f0=(6:Int))then(bif c then(aW n a.f1 (2:Int) (6:Int)).bind fun v=>some v else some false).bind fun J=>some J else bif decide (a.f0=(7:Int))then((oW n a.f2).bind fun w=>bif w then bif decide (a.f1=(0:Int))then some (decide (a.f3=(0:Int)))else some false else some false).bind fun K=>some K else bif decide (a.f0=(8:Int))then(jH n y f a.f2).bind fun d=>(bif decide ((0:Int)≤d)then(ix y d).bind fun m=>bif decide (m.f1=a.f1)then some (decide (a.f3=(0:Int)))else some false else some false).bind fun L=>some L else bif decide (a.f0=(9:Int))then(bif C then(aW n a.f1 (0:Int) (IntKind.wrap .i64 ((f.length:Int) - (1:Int)))).bind fun g=>bif g then(ix f a.f1).bind fun b=>(iL n b.f0 b.f1 b.f2 b.f3 z).bind fun j=>some j else some false else some false).bind fun M=>some M else bif decide (a.f0=(10:Int))then(bif C then some (decide (a.f1=(0:Int)))else some false).bind fun N=>some N else(bif c then bif decide (a.f1=(0:Int))then(aW n a.f0 (11:Int) (12:Int)).bind fun l=>some l else some false else some false).bind fun Q=>some Q
theorem Fu{n:Nat}:KG (nF n):=by
 intro b6 b7 b8 b9 c0 c1 c2 r h; unfold nF at h; refine bF Tryz.func110 rfl rfl<|gco 11 rfl<|xIx h fA rfl (fun b1 h=> ?_)
 refine xLd rfl<|xAc rfl<|goo 4 rfl<|oJn h [(8,8),(16,23)] [] (fun s=>(.n,[(8,Bo s)],[])) (fun _ h=> ?_) (fun s h=> ?_)
 refine goo 4 rfl<|oIf 19 h rfl (fun q3 h=> ?_) (fun q3 h=> ?_)
 exact geo; exact geo; refine cRs<|oJn h [(9,9),(24,37)] [] (fun t=>(.n,[(9,Bo t)],[])) (fun _ h=> ?_) (fun t h=> ?_)
 refine goo 4 rfl<|oIf 27 h rfl (fun q5 h=> ?_) (fun q5 h=> ?_)
 refine goo 6 rfl<|xLn rfl<|RK rfl<|xC0 h (aZ ·) rfl (fun b0 h=> ?_)
 exact geo; exact geo; refine gcc 12 rfl<|cIf h rfl (fun q7 h=> ?_) (fun q7 h=> ?_)
 refine cRs<|oJn h [(6,6),(42,47)] [] (fun p=>(.n,[(6,Bo p)],[])) (fun _ h=> ?_) (fun p h=> ?_)
 refine goo 2 rfl<|oIf 43 h rfl (fun q9 h=> ?_) (fun q9 h=> ?_)
 refine goo 2 rfl<|xC0 h (aZ ·) rfl (fun B h=> ?_)
 exact geo; exact geo; exact gec; refine gcc 5 rfl<|cIf h rfl (fun J h=> ?_) (fun J h=> ?_)
 refine cRs<|oJn h [(6,6),(50,62)] [] (fun a=>(.n,[(6,Bo a)],[])) (fun _ h=> ?_) (fun a h=> ?_)
 refine goo 2 rfl<|xC0 h (lC ·) rfl (fun C h=> ?_)
 refine xMv rfl<|oIf 53 h rfl (fun K h=> ?_) (fun K h=> ?_)
 refine goo 5 rfl<|oIf 58 h rfl (fun L h=> ?_) (fun L h=> ?_)
 exact geo; exact geo; exact geo; exact gec; refine gcc 5 rfl<|cIf h rfl (fun M h=> ?_) (fun M h=> ?_)
 refine cRs<|oJn h [(6,6),(65,73)] [] (fun b=>(.n,[(6,Bo b)],[])) (fun _ h=> ?_) (fun b h=> ?_)
 refine goo 2 rfl<|oIf 66 h rfl (fun N h=> ?_) (fun N h=> ?_)
 refine goo 5 rfl<|xC0 h (aZ ·) rfl (fun D h=> ?_)
 exact geo; exact geo; exact gec; refine gcc 6 rfl<|cIf h rfl (fun Q h=> ?_) (fun Q h=> ?_)
 refine gco 4 rfl<|oJn h [(6,6),(77,82)] [] (fun c=>(.n,[(6,Bo c)],[])) (fun _ h=> ?_) (fun c h=> ?_)
 refine goo 2 rfl<|oIf 78 h rfl (fun R h=> ?_) (fun R h=> ?_)
 refine goo 2 rfl<|xC0 h (aZ ·) rfl (fun E h=> ?_)
 exact geo; exact geo; exact gec; refine gcc 4 rfl<|cIf h rfl (fun T h=> ?_) (fun T h=> ?_)
 refine cRs<|oJn h [(6,6),(77,82)] [] (fun d=>(.n,[(6,Bo d)],[])) (fun _ h=> ?_) (fun d h=> ?_)
 refine goo 2 rfl<|oIf 78 h rfl (fun U h=> ?_) (fun U h=> ?_)
 refine goo 2 rfl<|xC0 h (aZ ·) rfl (fun G h=> ?_)
 exact geo; exact geo; exact gec; refine gcc 5 rfl<|cIf h rfl (fun V h=> ?_) (fun V h=> ?_)
 refine cRs<|oJn h [(6,6),(85,90)] [] (fun f=>(.n,[(6,Bo f)],[])) (fun _ h=> ?_) (fun f h=> ?_)
 refine goo 2 rfl<|oIf 86 h rfl (fun W h=> ?_) (fun W h=> ?_)
 refine goo 2 rfl<|xC0 h (aZ ·) rfl (fun H h=> ?_)
 exact geo; exact geo; exact gec; refine gcc 5 rfl<|cIf h rfl (fun X h=> ?_) (fun X h=> ?_)
 refine cRs<|oJn h [(6,6),(93,105)] [] (fun g=>(.n,[(6,Bo g)],[])) (fun _ h=> ?_) (fun g h=> ?_)
 refine goo 2 rfl<|xC0 h (Al ·) rfl (fun I h=> ?_)
 refine xMv rfl<|oIf 96 h rfl (fun Y h=> ?_) (fun Y h=> ?_)
 refine goo 5 rfl<|oIf 101 h rfl (fun Z h=> ?_) (fun Z h=> ?_)
 exact geo; exact geo; exact geo; exact gec; refine gcc 5 rfl<|cIf h rfl (fun a0 h=> ?_) (fun a0 h=> ?_)
 refine gco 5 rfl<|xC0 h (wT ·) rfl (fun u h=> ?_)
 refine goo 4 rfl<|oJn h [(6,6),(112,129)] [] (fun j=>(.n,[(6,Bo j)],[])) (fun _ h=> ?_) (fun j h=> ?_)
 refine goo 3 rfl<|oIf 114 h rfl (fun a1 h=> ?_) (fun a1 h=> ?_)
 refine goo 3 rfl<|xIx h dI rfl (fun z h=> ?_)
 refine goo 7 rfl<|oIf 125 h rfl (fun a2 h=> ?_) (fun a2 h=> ?_)
 exact geo; exact geo; exact geo; exact gec; refine gcc 5 rfl<|cIf h rfl (fun a3 h=> ?_) (fun a3 h=> ?_)
 refine cRs<|oJn h [(6,6),(132,152)] [] (fun l=>(.n,[(6,Bo l)],[])) (fun _ h=> ?_) (fun l h=> ?_)
 refine goo 2 rfl<|oIf 133 h rfl (fun a4 h=> ?_) (fun a4 h=> ?_)
 refine goo 4 rfl<|xLn rfl<|RK rfl<|xC0 h (aZ ·) rfl (fun v h=> ?_)
 refine goo 2 rfl<|oIf 142 h rfl (fun a5 h=> ?_) (fun a5 h=> ?_)
 refine goo 4 rfl<|xIx h aQ rfl (fun A h=> ?_)
 refine goo 3 rfl<|xC0 h (vG ·) rfl (fun w h=> ?_)
 exact geo; exact geo; exact geo; exact gec; refine gcc 5 rfl<|cIf h rfl (fun a6 h=> ?_) (fun a6 h=> ?_)
 refine cRs<|oJn h [(6,6),(155,160)] [] (fun m=>(.n,[(6,Bo m)],[])) (fun _ h=> ?_) (fun m h=> ?_)
 refine goo 2 rfl<|oIf 156 h rfl (fun a7 h=> ?_) (fun a7 h=> ?_)
 exact geo; exact geo; exact gec; refine gco 3 rfl<|oJn h [(6,6),(161,171)] [] (fun o=>(.n,[(6,Bo o)],[])) (fun _ h=> ?_) (fun o h=> ?_)
 refine goo 2 rfl<|oIf 162 h rfl (fun a8 h=> ?_) (fun a8 h=> ?_)
 refine goo 5 rfl<|oIf 167 h rfl (fun a9 h=> ?_) (fun a9 h=> ?_)
 refine goo 2 rfl<|xC0 h (aZ ·) rfl (fun y h=> ?_)
 exact geo; exact geo; exact geo; exact gec
abbrev Fz(p:Int→Int→(List UInt8)→Int→Option (Int×Int)):Prop:= ∀ {a b:Int} {d:List UInt8} {f:Int} {r:Int×Int},p a b d f=some r→Big Tryz.prog τ An (.fn 146 [.one (.ag [.int .i64 a, .int .i64 b, .str d, .int .i64 f])] [] (.tup [.c (.int .i64 r.1), .c (.int .i64 r.2)]) none [] none)
def mB(n:Nat)(a:Int)(b:Int)(c:List UInt8)(d:Int):Option (Int×Int):=
  bif decide (a=(1:Int))then some ((0:Int),(1:Int))else bif decide (a=(2:Int))then some ((0:Int),(1:Int))else bif decide (a=(3:Int))then some ((0:Int),(1:Int))else bif decide (a=(4:Int))then some (b,(1:Int))else bif decide (a=(5:Int))then some (b,(1:Int))else bif decide (a=(6:Int))then some (b,(1:Int))else bif decide (a=(8:Int))then some (b,(1:Int))else bif decide (a=(7:Int))then some ((2:Int),(1:Int))else bif decide (a=(9:Int))then some ((1:Int),(0:Int))else bif decide (a=(12:Int))then some ((1:Int),(0:Int))else some ((0:Int),(0:Int))
theorem DK{n:Nat}:Fz (mB n):=by
 intro p s t u r h; unfold mB at h; refine bF Tryz.func146 rfl rfl<|gcc 19 rfl<|cIf h rfl (fun b h=> ?_) (fun b h=> ?_)
 exact gec; refine gcc 5 rfl<|cIf h rfl (fun c h=> ?_) (fun c h=> ?_)
 exact gec; refine gcc 4 rfl<|cIf h rfl (fun d h=> ?_) (fun d h=> ?_)
 exact gec; refine gcc 6 rfl<|cIf h rfl (fun f h=> ?_) (fun f h=> ?_)
 exact gec; refine gcc 5 rfl<|cIf h rfl (fun g h=> ?_) (fun g h=> ?_)
 exact gec; refine gcc 5 rfl<|cIf h rfl (fun j h=> ?_) (fun j h=> ?_)
 exact gec; refine gcc 4 rfl<|cIf h rfl (fun l h=> ?_) (fun l h=> ?_)
 exact gec; refine gcc 5 rfl<|cIf h rfl (fun m h=> ?_) (fun m h=> ?_)
 exact gec; refine gcc 6 rfl<|cIf h rfl (fun o h=> ?_) (fun o h=> ?_)
 exact gec; refine gcc 4 rfl<|cIf h rfl (fun a h=> ?_) (fun a h=> ?_)
 exact gec; exact gec
abbrev IE(p:(List Int)→Int→Int→Option (Bool×(List Int))):Prop:= ∀ {a:List Int} {b d:Int} {r:Bool×(List Int)},p a b d=some r→Big Tryz.prog τ An (.fn 147 [.one (.c (.sl (a.map aR))), .one (.c (.int .i64 b)), .one (.c (.int .i64 d))] [] (.one (.c (.bool r.1))) (some (.sl (r.2.map aR))) [] none)
def gC(n:Nat)(a:List Int)(b:Int)(c:Int):Option (Bool×(List Int)):=
  (ix a b).bind fun j=>bif decide (j=((-1):Int))then(ix a b).bind fun l=>(some (a.set (Int.toNat b) c)).bind fun d=>(ix d b).bind fun f=>some ((decide (f=c)),d)else(ix a b).bind fun g=>some ((decide (g=c)),a)
theorem oI{n:Nat}:IE (gC n):=by
 intro l m a r h; unfold gC at h; refine bFi Tryz.func147 rfl rfl<|gco 9 rfl<|xIx h gW rfl (fun g h=> ?_)
 refine goc 3 rfl<|cIf h rfl (fun j h=> ?_) (fun j h=> ?_)
 refine cRg<|wAl rfl rfl rfl rfl<|goo 2 rfl<|wIp (f:=aR) h rfl rfl rfl rfl rfl rfl (fun _=>rfl) rfl (fun b ke15_3 h=> ?_)
 refine Lv (f:=aR) (v':=a) h ke15_3 rfl rfl rfl rfl rfl rfl rfl rfl rfl (fun o h=> ?_)
 refine goo 5 rfl<|xIx h gW rfl (fun c h=> ?_)
 exact geo; refine gco 5 rfl<|xIx h gW rfl (fun d h=> ?_)
 exact geo
abbrev Db(p:(List UInt8)→Int→Int→(List aE)→Option ((List Int)×Bool)):Prop:= ∀ {a:List UInt8} {b d:Int} {f:List aE} {r:(List Int)×Bool},p a b d f=some r→Big Tryz.prog τ An (.fn 111 [.one (.ag [.str a, .int .i64 b, .int .i64 d, .sl (f.map aL)])] [] (.tup [.c (.sl (r.1.map aR)), .c (.bool r.2)]) none [] none)
def eS(n:Nat):((List Int)×Int)→Option (((List Int)×Int)⊕(((List Int)×Int×Bool)))
  | (b,a)=>bif decide (a<(b.length:Int))then(ix b a).bind fun d=>(some (b.set (Int.toNat a) ((-1):Int))).bind fun c=>some (.inl (c,(IntKind.wrap .i64 (a+(1:Int)))))else some (.inr (b,a,false))
def dJ(n:Nat)(z:List aE):((List Int)×Int)→Option (((List Int)×Int)⊕(((List Int)×Bool)⊕((List Int)×Int×Bool)))
  | (b,c)=>bif decide (c<(b.length:Int))then(((ix z c).bind fun a=>(mB n a.f0 a.f1 a.f2 a.f3).bind fun g=>(ix b c).bind fun d=>(bif decide (d<g.1)then some true else bif decide ((300:Int)<d)then some true else bif decide (a.f0=(12:Int))then some (!decide (d=(1:Int)))else some false).bind fun u=>bif u then some (.inl (b,false))else bif decide (a.f0=(11:Int))then bif !true then some (.inl (b,false))else some (.inr (b,false,a.f0,a.f1,a.f2,a.f3))else bif decide (a.f0=(12:Int))then bif !true then some (.inl (b,false))else some (.inr (b,false,a.f0,a.f1,a.f2,a.f3))else bif decide (a.f0=(10:Int))then(gC n b a.f3 d).bind fun j=>bif !j.1 then some (.inl (j.2,false))else some (.inr (j.2,false,a.f0,a.f1,a.f2,a.f3))else bif decide (a.f0=(9:Int))then((gC n b a.f3 d).bind fun f=>bif f.1 then bif decide ((IntKind.wrap .i64 (c+(1:Int)))<(f.2.length:Int))then(gC n f.2 (IntKind.wrap .i64 (c+(1:Int))) (IntKind.wrap .i64 (d - (1:Int)))).bind fun l=>some (l.2,l.1)else some (f.2,false)else some (f.2,false)).bind fun(o,s)=>bif !s then some (.inl (o,false))else some (.inr (o,false,a.f0,a.f1,a.f2,a.f3))else(bif decide ((IntKind.wrap .i64 (c+(1:Int)))<(b.length:Int))then(gC n b (IntKind.wrap .i64 (c+(1:Int))) (IntKind.wrap .i64 ((IntKind.wrap .i64 (d - g.1))+g.2))).bind fun m=>some (m.2,m.1)else some (b,false)).bind fun(p,t)=>bif !t then some (.inl (p,false))else some (.inr (p,false,a.f0,a.f1,a.f2,a.f3)):Option (((List Int)×Bool)⊕((List Int)×Bool×Int×Int×(List UInt8)×Int)))).bind fun q=>(match q with | .inl (v,w)=>some (.inr (.inl (v,w))) | .inr (y,A,B,C,D,E)=>some (.inl (y,(IntKind.wrap .i64 (c+(1:Int))))))else some (.inr (.inr (b,c,false)))
def jW(n:Nat)(m:List UInt8)(o:Int)(p:Int)(a:List aE):Option ((List Int)×Bool):=
  (ck (decide (0≤(a.length:Int)∧(a.length:Int)≤maxLen∧8*(a.length:Int)≤281474976710656))).bind fun _=>(loopN (eS n) n ((List.replicate (Int.toNat (a.length:Int)) (0:Int)),(1:Int))).bind fun(f,s,j)=>(loopN (dJ n a) n (f,(0:Int))).bind fun q=>(match q with | .inl (b,c)=>some (b,c) | .inr (d,l,g)=>some (d,true))
theorem BC{n:Nat}:Db (jW n):=by
 intro b4 b5 b6 b7 r h; unfold jW at h; refine bF Tryz.func111 rfl rfl<|gco 3 rfl<|wAe (Li aR []) rfl rfl rfl rfl<|goo 6 rfl<|xLn rfl<|oCk h (fun Q h=> ?_)
 refine wMk (z:=(0:Int)) (f:=aR) Q rfl rfl rfl rfl rfl rfl rfl<|goc 7 rfl<|cLp h [(4,5),(16,24)] [] (fun(K,M)=>([(4,Li aR K),(5,I64 M)],[])) (fun(L,N,p)=>(.e 0,[(4,Li aR L),(5,I64 N),(19,Bo p)],[])) rfl (fun st _ h=> ?_) (fun q h=> ?_)
 obtain⟨K,M⟩:=st; unfold eS at h; refine gco 5 rfl<|xLn rfl<|goc 2 rfl<|cIf h rfl (fun q7 h=> ?_) (fun q7 h=> ?_)
 refine gco 4 rfl<|wAl rfl rfl rfl rfl<|xMv rfl<|wIp (f:=aR) h rfl rfl rfl rfl rfl rfl (fun _=>rfl) rfl (fun b2 ke24_8 h=> ?_)
 refine Lv (f:=aR) (v':=((-1):Int)) h ke24_8 rfl rfl rfl rfl rfl rfl rfl rfl rfl (fun b8 h=> ?_)
 exact geo; exact gec; obtain⟨L,N,p⟩:=q; refine gcc 5 rfl<|cLp h [(2,4),(6,11),(25,114)] [(7,7)] (fun(w,D)=>([(4,Li aR w),(6,I64 D)],[])) (fun q=>match q with | .inl (s,u)=>(.r,[(2,Li aR s),(3,Bo u)],[]) | .inr (y,E,m)=>(.e 2,[(4,Li aR y),(6,I64 E),(28,Bo m)],[])) rfl (fun st _ h=> ?_) (fun q h=> ?_)
 obtain⟨w,D⟩:=st; unfold dJ at h; refine gco 5 rfl<|xLn rfl<|goc 2 rfl<|cIf h rfl (fun V h=> ?_) (fun V h=> ?_)
 refine gcc 2 rfl<|cJn h [(2,4),(7,11),(31,114)] [(7,7)] (fun q=>match q with | .inl (t,v)=>(.r,[(2,Li aR t),(3,Bo v)],[]) | .inr (A,b,G,H,I,J)=>(.n,[(4,Li aR A),(113,Bo b)],[(7,[.int .i64 G, .int .i64 H, .str I, .int .i64 J])])) (fun _ h=> ?_) (fun q h=> ?_)
 refine gco 6 rfl<|xIx h fA rfl (fun T h=> ?_)
 refine xLd rfl<|xAc rfl<|goo 5 rfl<|xC0 h (DK ·) rfl (fun R h=> ?_)
 refine goo 10 rfl<|xIx h gW rfl (fun U h=> ?_)
 refine goo 6 rfl<|oJn h [(45,60)] [] (fun o=>(.n,[(60,Bo o)],[])) (fun _ h=> ?_) (fun o h=> ?_)
 refine goo 4 rfl<|oIf 48 h rfl (fun W h=> ?_) (fun W h=> ?_)
 exact geo; refine goo 4 rfl<|oIf 52 h rfl (fun X h=> ?_) (fun X h=> ?_)
 exact geo; refine goo 4 rfl<|oIf 56 h rfl (fun Y h=> ?_) (fun Y h=> ?_)
 exact geo; exact geo; refine cIf h rfl (fun Z h=> ?_) (fun Z h=> ?_)
 exact gec; refine gcc 18 rfl<|cIf h rfl (fun a0 h=> ?_) (fun a0 h=> ?_)
 refine gcc 8 rfl<|cIf h rfl (fun a1 h=> ?_) (fun a1 h=> ?_)
 exact gec; exact gec; refine gcc 4 rfl<|cIf h rfl (fun a2 h=> ?_) (fun a2 h=> ?_)
 refine gcc 6 rfl<|cIf h rfl (fun a3 h=> ?_) (fun a3 h=> ?_)
 exact gec; exact gec; refine gcc 5 rfl<|cIf h rfl (fun a4 h=> ?_) (fun a4 h=> ?_)
 refine cRg<|wAl rfl rfl rfl rfl<|goo 3 rfl<|xIo (fun d=> .sl (d.2.map aR)) h (oI ·) rfl (Xx _) (fun _=>Kv _ _) (fun d h=> ?_)
 refine goc 7 rfl<|cIf h rfl (fun a5 h=> ?_) (fun a5 h=> ?_)
 exact gec; exact gec; refine gcc 5 rfl<|cIf h rfl (fun a6 h=> ?_) (fun a6 h=> ?_)
 refine cRg<|oJn h [(4,4),(11,11),(92,111)] [] (fun(B,j)=>(.n,[(4,Li aR B),(11,Bo j)],[])) (fun _ h=> ?_) (fun q h=> ?_)
 refine wAl rfl rfl rfl rfl<|goo 3 rfl<|xIo (fun g=> .sl (g.2.map aR)) h (oI ·) rfl (Xx _) (fun _=>Kv _ _) (fun g h=> ?_)
 refine xMv rfl<|oIf 97 h rfl (fun a7 h=> ?_) (fun a7 h=> ?_)
 refine goo 3 rfl<|xLn rfl<|goo 3 rfl<|oIf 104 h rfl (fun a8 h=> ?_) (fun a8 h=> ?_)
 refine wAl rfl rfl rfl rfl<|goo 4 rfl<|xIo (fun a=> .sl (a.2.map aR)) h (oI ·) rfl (Xx _) (fun _=>Kv _ _) (fun a h=> ?_)
 exact geo; exact geo; exact geo; obtain⟨B,j⟩:=q; refine gcc 5 rfl<|cIf h rfl (fun a9 h=> ?_) (fun a9 h=> ?_)
 exact gec; exact gec; refine cRg<|oJn h [(4,4),(11,11),(64,79)] [] (fun(C,l)=>(.n,[(4,Li aR C),(11,Bo l)],[])) (fun _ h=> ?_) (fun q h=> ?_)
 refine goo 3 rfl<|xLn rfl<|goo 2 rfl<|oIf 69 h rfl (fun b0 h=> ?_) (fun b0 h=> ?_)
 refine wAl rfl rfl rfl rfl<|goo 7 rfl<|xIo (fun c=> .sl (c.2.map aR)) h (oI ·) rfl (Xx _) (fun _=>Kv _ _) (fun c h=> ?_)
 exact geo; exact geo; obtain⟨C,l⟩:=q; refine gcc 5 rfl<|cIf h rfl (fun b1 h=> ?_) (fun b1 h=> ?_)
 exact gec; exact gec; rcases q with⟨t,v⟩ | ⟨A,b,G,H,I,J⟩; exact en; exact gec; exact gec; rcases q with⟨s,u⟩ | ⟨y,E,m⟩; exact en; exact gec
abbrev Hz(p:(List aD)→(List aA)→Int→Option (Bool)):Prop:= ∀ {a:List aD} {b:List aA} {d:Int} {r:Bool},p a b d=some r→Big Tryz.prog τ An (.fn 62 [.one (.ag [.sl (a.map aJ), .sl (b.map aF)]), .one (.c (.int .i64 d))] [] (.one (.c (.bool r))) none [] none)
def mQ(n:Nat)(d:List aD)(a:aD)(f:List aA):(Int)→Option ((Int)⊕((Bool)⊕(Int×Bool)))
  | b=>bif decide (b<(a.f3.length:Int))then(nF n d f a.f0 a.f1 a.f2 a.f3 b).bind fun c=>bif !c then some (.inr (.inl false))else some (.inl (IntKind.wrap .i64 (b+(1:Int))))else some (.inr (.inr (b,false)))
def nS(n:Nat)(c:List aD)(g:List aA)(j:Int):Option (Bool):=
  (ix c j).bind fun a=>((eZ n a.f0).bind fun l=>bif !l then some true else(jH n c g a.f0).bind fun m=>bif !decide (m=j)then some true else(aW n a.f1 (0:Int) (4:Int)).bind fun o=>bif !o then some true else(aW n a.f2 a.f1 (400:Int)).bind fun p=>bif !p then some true else(aW n (a.f3.length:Int) (1:Int) (1500:Int)).bind fun d=>some (!d)).bind fun s=>bif s then some false else(loopN (mQ n c a g) n (0:Int)).bind fun q=>(match q with | .inl t=>some t | .inr (w,v)=>(jW n a.f0 a.f1 a.f2 a.f3).bind fun f=>(ix a.f3 (IntKind.wrap .i64 ((a.f3.length:Int) - (1:Int)))).bind fun b=>(bif f.2 then bif decide (b.f0=(12:Int))then some true else some (decide (b.f0=(11:Int)))else some false).bind fun u=>some u)
theorem FB{n:Nat}:Hz (nS n):=by
 intro H I J r h; unfold nS at h; refine bF Tryz.func62 rfl rfl<|gco 10 rfl<|xIx h dI rfl (fun C h=> ?_)
 refine xLd rfl<|xAz [.str [], .int .i64 0, .int .i64 0, .sl ([].map aL)] rfl<|goo 5 rfl<|oJn h [(15,47)] [] (fun b=>(.n,[(47,Bo b)],[])) (fun _ h=> ?_) (fun b h=> ?_)
 refine goo 2 rfl<|xC0 h (lC ·) rfl (fun y h=> ?_)
 refine goo 2 rfl<|oIf 19 h rfl (fun D h=> ?_) (fun D h=> ?_)
 exact geo; refine goo 3 rfl<|xC0 h (wT ·) rfl (fun z h=> ?_)
 refine goo 4 rfl<|oIf 27 h rfl (fun E h=> ?_) (fun E h=> ?_)
 exact geo; refine goo 2 rfl<|xC0 h (aZ ·) rfl (fun A h=> ?_)
 refine goo 3 rfl<|oIf 33 h rfl (fun G h=> ?_) (fun G h=> ?_)
 exact geo; refine goo 4 rfl<|xC0 h (aZ ·) rfl (fun B h=> ?_)
 refine goo 3 rfl<|oIf 41 h rfl (fun p h=> ?_) (fun p h=> ?_)
 exact geo; refine goo 2 rfl<|xLn rfl<|xC0 h (aZ ·) rfl (fun j h=> ?_)
 exact geo; refine cIf h rfl (fun s h=> ?_) (fun s h=> ?_)
 exact gec; refine gcc 6 rfl<|cLp h [(4,4),(6,6),(48,59)] [] (fun f=>([(6,I64 f)],[])) (fun q=>match q with | .inl c=>(.r,[(4,Bo c)],[]) | .inr (g,a)=>(.e 0,[(6,I64 g),(52,Bo a)],[])) rfl (fun f _ h=> ?_) (fun q h=> ?_)
 unfold mQ at h; refine gco 6 rfl<|xLn rfl<|goc 2 rfl<|cIf h rfl (fun t h=> ?_) (fun t h=> ?_)
 refine gco 8 rfl<|xC0 h (Fu ·) rfl (fun l h=> ?_)
 refine goc 2 rfl<|cIf h rfl (fun u h=> ?_) (fun u h=> ?_)
 exact gec; exact gec; exact gec; rcases q with c | ⟨g,a⟩; exact en; refine gco 3 rfl<|xC0 h (BC ·) rfl (fun m h=> ?_)
 refine goo 12 rfl<|xLn rfl<|RK rfl<|xIx h fA rfl (fun o h=> ?_)
 refine goo 6 rfl<|oJn h [(4,4),(74,82)] [] (fun d=>(.n,[(4,Bo d)],[])) (fun _ h=> ?_) (fun d h=> ?_)
 refine goo 2 rfl<|oIf 75 h rfl (fun v h=> ?_) (fun v h=> ?_)
 refine goo 3 rfl<|oIf 78 h rfl (fun w h=> ?_) (fun w h=> ?_)
 exact geo; exact geo; exact geo; exact gec
abbrev IP(p:(List aD)→(List aA)→Option (Bool)):Prop:= ∀ {a:List aD} {b:List aA} {r:Bool},p a b=some r→Big Tryz.prog τ An (.fn 22 [.one (.ag [.sl (a.map aJ), .sl (b.map aF)])] [] (.one (.c (.bool r))) none [] none)
def mW(n:Nat)(b:List aD)(d:List aA):(Int)→Option ((Int)⊕((Bool)⊕(Int×Bool)))
  | a=>bif decide (a<(b.length:Int))then(nS n b d a).bind fun c=>bif !c then some (.inr (.inl false))else some (.inl (IntKind.wrap .i64 (a+(1:Int))))else some (.inr (.inr (a,false)))
def lG(n:Nat)(a:List aD)(b:List aA):Option (Bool):=
  (bif decide ((12:Int)<(a.length:Int))then some true else some (decide ((2000:Int)<(b.length:Int)))).bind fun c=>bif c then some false else(loopN (mW n a b) n (0:Int)).bind fun q=>(match q with | .inl d=>some d | .inr (g,f)=>some true)
theorem wU{n:Nat}:IP (lG n):=by
 intro p s r h; unfold lG at h; refine bF Tryz.func22 rfl rfl<|gco 8 rfl<|oJn h [(4,13)] [] (fun a=>(.n,[(13,Bo a)],[])) (fun _ h=> ?_) (fun a h=> ?_)
 refine goo 2 rfl<|xLn rfl<|goo 2 rfl<|oIf 8 h rfl (fun l h=> ?_) (fun l h=> ?_)
 exact geo; exact goo 2 rfl<|xLn rfl<|geo
 refine cIf h rfl (fun m h=> ?_) (fun m h=> ?_)
 exact gec; refine gcc 6 rfl<|cLp h [(2,3),(14,24)] [] (fun d=>([(3,I64 d)],[])) (fun q=>match q with | .inl c=>(.r,[(2,Bo c)],[]) | .inr (f,b)=>(.e 0,[(3,I64 f),(18,Bo b)],[])) rfl (fun d _ h=> ?_) (fun q h=> ?_)
 unfold mW at h; refine gco 6 rfl<|xLn rfl<|goc 2 rfl<|cIf h rfl (fun o h=> ?_) (fun o h=> ?_)
 refine gco 7 rfl<|xC0 h (FB ·) rfl (fun j h=> ?_)
 refine goc 2 rfl<|cIf h rfl (fun g h=> ?_) (fun g h=> ?_)
 exact gec; exact gec; exact gec; rcases q with c | ⟨f,b⟩; exact en; exact gec
abbrev GI(p:(List aD)→(List aA)→Option (Bool)):Prop:= ∀ {a:List aD} {b:List aA} {r:Bool},p a b=some r→Big Tryz.prog τ An (.fn 58 [.one (.ag [.sl (a.map aJ), .sl (b.map aF)])] [] (.one (.c (.bool r))) none [] none)
def lQ(n:Nat)(c:List aA):(Int)→Option ((Int)⊕((Bool)⊕(Int×Bool)))
  | b=>bif decide (b<(c.length:Int))then(ix c b).bind fun a=>(iL n a.f0 a.f1 a.f2 a.f3 (400:Int)).bind fun d=>bif !d then some (.inr (.inl false))else some (.inl (IntKind.wrap .i64 (b+(1:Int))))else some (.inr (.inr (b,false)))
def mI(n:Nat)(c:List aD)(a:List aA):Option (Bool):=
  (loopN (lQ n a) n (0:Int)).bind fun q=>(match q with | .inl b=>some b | .inr (d,f)=>some true)
theorem DV{n:Nat}:GI (mI n):=by
 intro m o r h; unfold mI at h; refine bF Tryz.func58 rfl rfl<|gcc 10 rfl<|cLp h [(2,17)] [] (fun b=>([(3,I64 b)],[])) (fun q=>match q with | .inl a=>(.r,[(2,Bo a)],[]) | .inr (c,d)=>(.e 0,[(3,I64 c),(8,Bo d)],[])) rfl (fun b _ h=> ?_) (fun q h=> ?_)
 unfold lQ at h; refine gco 6 rfl<|xLn rfl<|goc 2 rfl<|cIf h rfl (fun j h=> ?_) (fun j h=> ?_)
 refine gco 8 rfl<|xIx h aQ rfl (fun g h=> ?_)
 refine xLd rfl<|xC0 h (vG ·) rfl (fun f h=> ?_)
 refine goc 2 rfl<|cIf h rfl (fun l h=> ?_) (fun l h=> ?_)
 exact gec; exact gec; exact gec; rcases q with a | ⟨c,d⟩; exact en; exact gec
abbrev IM(p:(List Int)→Int→Option ((List Int))):Prop:= ∀ {a:List Int} {b:Int} {r:(List Int)},p a b=some r→Big Tryz.prog τ An (.fn 59 [.one (.c (.sl (a.map rI_u8))), .one (.c (.int .i64 b))] [] (.one (.c (.sl (r.map rI_u8)))) none [] none)
def cK(n:Nat):((List Int)×Int)→Option (((List Int)×Int)⊕(((List Int)×Int×Bool)))
  | (c,a)=>bif decide ((127:Int)<a)then(dF 1 c ([(IntKind.wrap .u8 (bits .or .i64 (bits .and .i64 a (127:Int)) (128:Int)))]:List Int)).bind fun b=>some (.inl (b,(Int.fdiv a (2 ^ 7))))else some (.inr (c,a,false))
def qH(n:Nat):((List Int)×Int)→Option (((List Int)×Int)⊕(((List Int)×Int×Bool)))
  | (b,a)=>bif decide ((127:Int)<a)then(dF 1 b ([(IntKind.wrap .u8 (bits .or .i64 (bits .and .i64 a (127:Int)) (128:Int)))]:List Int)).bind fun c=>some (.inl (c,(Int.fdiv a (2 ^ 7))))else some (.inr (b,a,false))
def qG(n:Nat):((List Int)×Int)→Option (((List Int)×Int)⊕(((List Int)×Int×Bool)))
  | (b,a)=>bif decide ((127:Int)<a)then(dF 1 b ([(IntKind.wrap .u8 (bits .or .i64 (bits .and .i64 a (127:Int)) (128:Int)))]:List Int)).bind fun c=>some (.inl (c,(Int.fdiv a (2 ^ 7))))else some (.inr (b,a,false))
def qF(n:Nat):((List Int)×Int)→Option (((List Int)×Int)⊕(((List Int)×Int×Bool)))
  | (b,a)=>bif decide ((127:Int)<a)then(dF 1 b ([(IntKind.wrap .u8 (bits .or .i64 (bits .and .i64 a (127:Int)) (128:Int)))]:List Int)).bind fun c=>some (.inl (c,(Int.fdiv a (2 ^ 7))))else some (.inr (b,a,false))
def qE(n:Nat):((List Int)×Int)→Option (((List Int)×Int)⊕(((List Int)×Int×Bool)))
  | (b,a)=>bif decide ((127:Int)<a)then(dF 1 b ([(IntKind.wrap .u8 (bits .or .i64 (bits .and .i64 a (127:Int)) (128:Int)))]:List Int)).bind fun c=>some (.inl (c,(Int.fdiv a (2 ^ 7))))else some (.inr (b,a,false))
def qD(n:Nat):((List Int)×Int)→Option (((List Int)×Int)⊕(((List Int)×Int×Bool)))
  | (b,a)=>bif decide ((127:Int)<a)then(dF 1 b ([(IntKind.wrap .u8 (bits .or .i64 (bits .and .i64 a (127:Int)) (128:Int)))]:List Int)).bind fun c=>some (.inl (c,(Int.fdiv a (2 ^ 7))))else some (.inr (b,a,false))
def qC(n:Nat):((List Int)×Int)→Option (((List Int)×Int)⊕(((List Int)×Int×Bool)))
  | (b,a)=>bif decide ((127:Int)<a)then(dF 1 b ([(IntKind.wrap .u8 (bits .or .i64 (bits .and .i64 a (127:Int)) (128:Int)))]:List Int)).bind fun c=>some (.inl (c,(Int.fdiv a (2 ^ 7))))else some (.inr (b,a,false))
def qB(n:Nat):((List Int)×Int)→Option (((List Int)×Int)⊕(((List Int)×Int×Bool)))
  | (b,a)=>bif decide ((127:Int)<a)then(dF 1 b ([(IntKind.wrap .u8 (bits .or .i64 (bits .and .i64 a (127:Int)) (128:Int)))]:List Int)).bind fun c=>some (.inl (c,(Int.fdiv a (2 ^ 7))))else some (.inr (b,a,false))
def bM(n:Nat)(H:List Int)(b:Int):Option ((List Int)):=
  (dF 1 ([]:List Int) H).bind fun a=>bif decide ((1000000000000:Int)<b)then bif decide ((1000000000000:Int)<((-1000000000000):Int))then bif decide (((-1000000000000):Int)<(0:Int))then(loopN (cK n) n (a,(IntKind.wrap .i64 ((IntKind.wrap .i64 (((-2):Int)*((-1000000000000):Int))) - (1:Int))))).bind fun(I,J,U)=>(dF 1 I ([(IntKind.wrap .u8 J)]:List Int)).bind fun c=>some c else(loopN (qH n) n (a,(IntKind.wrap .i64 ((2:Int)*((-1000000000000):Int))))).bind fun(p,z,K)=>(dF 1 p ([(IntKind.wrap .u8 z)]:List Int)).bind fun d=>some d else bif decide ((1000000000000:Int)<(0:Int))then(loopN (qG n) n (a,(IntKind.wrap .i64 ((IntKind.wrap .i64 (((-2):Int)*(1000000000000:Int))) - (1:Int))))).bind fun(s,A,L)=>(dF 1 s ([(IntKind.wrap .u8 A)]:List Int)).bind fun f=>some f else(loopN (qF n) n (a,(IntKind.wrap .i64 ((2:Int)*(1000000000000:Int))))).bind fun(t,B,M)=>(dF 1 t ([(IntKind.wrap .u8 B)]:List Int)).bind fun g=>some g else bif decide (b<((-1000000000000):Int))then bif decide (((-1000000000000):Int)<(0:Int))then(loopN (qE n) n (a,(IntKind.wrap .i64 ((IntKind.wrap .i64 (((-2):Int)*((-1000000000000):Int))) - (1:Int))))).bind fun(u,C,N)=>(dF 1 u ([(IntKind.wrap .u8 C)]:List Int)).bind fun j=>some j else(loopN (qD n) n (a,(IntKind.wrap .i64 ((2:Int)*((-1000000000000):Int))))).bind fun(v,D,Q)=>(dF 1 v ([(IntKind.wrap .u8 D)]:List Int)).bind fun l=>some l else bif decide (b<(0:Int))then(loopN (qC n) n (a,(IntKind.wrap .i64 ((IntKind.wrap .i64 (((-2):Int)*b)) - (1:Int))))).bind fun(w,E,R)=>(dF 1 w ([(IntKind.wrap .u8 E)]:List Int)).bind fun m=>some m else(loopN (qB n) n (a,(IntKind.wrap .i64 ((2:Int)*b)))).bind fun(y,G,T)=>(dF 1 y ([(IntKind.wrap .u8 G)]:List Int)).bind fun o=>some o
theorem cI{n:Nat}:IM (bM n):=by
 intro d3 d4 r h; unfold bM at h; refine bF Tryz.func59 rfl rfl<|cRs<|wAe (Li rI_u8 []) rfl rfl rfl rfl<|oRs<|cQ (L:=([]:List Int)) (f:=rI_u8) rfl rfl rfl rfl rfl rfl rfl<|xMv rfl<|wAp (f:=rI_u8) h rfl rfl rfl rfl rfl rfl rfl rfl rfl (fun _=>rfl) rfl (fun d5 h=> ?_)
 refine goc 8 rfl<|cIf h rfl (fun q2 h=> ?_) (fun q2 h=> ?_)
 refine gcc 9 rfl<|cIf h rfl (fun q3 h=> ?_) (fun q3 h=> ?_)
 refine gcc 15 rfl<|cIf h rfl (fun q4 h=> ?_) (fun q4 h=> ?_)
 refine gcc 7 rfl<|cLp h [(5,6),(21,31)] [] (fun(a0,m)=>([(5,Li rI_u8 a0),(6,I64 m)],[])) (fun(a1,G,H)=>(.e 0,[(5,Li rI_u8 a1),(6,I64 G),(22,Bo H)],[])) rfl (fun st _ h=> ?_) (fun q h=> ?_)
 obtain⟨a0,m⟩:=st; unfold cK at h; refine gcc 6 rfl<|cIf h rfl (fun a2 h=> ?_) (fun a2 h=> ?_)
 refine gco 6 rfl<|wBi (.int .i64 (bits .and .i64 m (127:Int))) rfl rfl rfl rfl rfl<|wBi (.int .i64 (bits .or .i64 (bits .and .i64 m (127:Int)) (128:Int))) rfl rfl rfl rfl rfl<|wCv rfl rfl rfl rfl rfl<|cQ (L:=([(IntKind.wrap .u8 (bits .or .i64 (bits .and .i64 m (127:Int)) (128:Int)))]:List Int)) (f:=rI_u8) rfl rfl rfl rfl rfl rfl rfl<|wAp (f:=rI_u8) h rfl rfl rfl rfl rfl rfl rfl rfl rfl (fun _=>rfl) rfl (fun b4 h=> ?_)
 exact goo 4 rfl<|wBi (.int .i64 (Int.fdiv m (2 ^ 7))) rfl rfl rfl rfl rfl<|geo
 exact gec; obtain⟨a1,G,H⟩:=q; refine gco 5 rfl<|cQ (L:=([(IntKind.wrap .u8 G)]:List Int)) (f:=rI_u8) rfl rfl rfl rfl rfl rfl rfl<|wAp (f:=rI_u8) h rfl rfl rfl rfl rfl rfl rfl rfl rfl (fun _=>rfl) rfl (fun c2 h=> ?_)
 exact geo; refine gcc 2 rfl<|cLp h [(5,6),(21,31)] [] (fun(I,a)=>([(5,Li rI_u8 I),(6,I64 a)],[])) (fun(J,o,y)=>(.e 0,[(5,Li rI_u8 J),(6,I64 o),(22,Bo y)],[])) rfl (fun st _ h=> ?_) (fun q h=> ?_)
 obtain⟨I,a⟩:=st; unfold qH at h; refine gcc 6 rfl<|cIf h rfl (fun a3 h=> ?_) (fun a3 h=> ?_)
 refine gco 6 rfl<|wBi (.int .i64 (bits .and .i64 a (127:Int))) rfl rfl rfl rfl rfl<|wBi (.int .i64 (bits .or .i64 (bits .and .i64 a (127:Int)) (128:Int))) rfl rfl rfl rfl rfl<|wCv rfl rfl rfl rfl rfl<|cQ (L:=([(IntKind.wrap .u8 (bits .or .i64 (bits .and .i64 a (127:Int)) (128:Int)))]:List Int)) (f:=rI_u8) rfl rfl rfl rfl rfl rfl rfl<|wAp (f:=rI_u8) h rfl rfl rfl rfl rfl rfl rfl rfl rfl (fun _=>rfl) rfl (fun b5 h=> ?_)
 exact goo 4 rfl<|wBi (.int .i64 (Int.fdiv a (2 ^ 7))) rfl rfl rfl rfl rfl<|geo
 exact gec; obtain⟨J,o,y⟩:=q; refine gco 5 rfl<|cQ (L:=([(IntKind.wrap .u8 o)]:List Int)) (f:=rI_u8) rfl rfl rfl rfl rfl rfl rfl<|wAp (f:=rI_u8) h rfl rfl rfl rfl rfl rfl rfl rfl rfl (fun _=>rfl) rfl (fun c3 h=> ?_)
 exact geo; refine gcc 13 rfl<|cIf h rfl (fun a4 h=> ?_) (fun a4 h=> ?_)
 refine gcc 7 rfl<|cLp h [(5,6),(21,31)] [] (fun(K,b)=>([(5,Li rI_u8 K),(6,I64 b)],[])) (fun(M,p,z)=>(.e 0,[(5,Li rI_u8 M),(6,I64 p),(22,Bo z)],[])) rfl (fun st _ h=> ?_) (fun q h=> ?_)
 obtain⟨K,b⟩:=st; unfold qG at h; refine gcc 6 rfl<|cIf h rfl (fun a5 h=> ?_) (fun a5 h=> ?_)
 refine gco 6 rfl<|wBi (.int .i64 (bits .and .i64 b (127:Int))) rfl rfl rfl rfl rfl<|wBi (.int .i64 (bits .or .i64 (bits .and .i64 b (127:Int)) (128:Int))) rfl rfl rfl rfl rfl<|wCv rfl rfl rfl rfl rfl<|cQ (L:=([(IntKind.wrap .u8 (bits .or .i64 (bits .and .i64 b (127:Int)) (128:Int)))]:List Int)) (f:=rI_u8) rfl rfl rfl rfl rfl rfl rfl<|wAp (f:=rI_u8) h rfl rfl rfl rfl rfl rfl rfl rfl rfl (fun _=>rfl) rfl (fun b6 h=> ?_)
 exact goo 4 rfl<|wBi (.int .i64 (Int.fdiv b (2 ^ 7))) rfl rfl rfl rfl rfl<|geo
 exact gec; obtain⟨M,p,z⟩:=q; refine gco 5 rfl<|cQ (L:=([(IntKind.wrap .u8 p)]:List Int)) (f:=rI_u8) rfl rfl rfl rfl rfl rfl rfl<|wAp (f:=rI_u8) h rfl rfl rfl rfl rfl rfl rfl rfl rfl (fun _=>rfl) rfl (fun c4 h=> ?_)
 exact geo; refine gcc 2 rfl<|cLp h [(5,6),(21,31)] [] (fun(N,c)=>([(5,Li rI_u8 N),(6,I64 c)],[])) (fun(Q,s,A)=>(.e 0,[(5,Li rI_u8 Q),(6,I64 s),(22,Bo A)],[])) rfl (fun st _ h=> ?_) (fun q h=> ?_)
 obtain⟨N,c⟩:=st; unfold qF at h; refine gcc 6 rfl<|cIf h rfl (fun a6 h=> ?_) (fun a6 h=> ?_)
 refine gco 6 rfl<|wBi (.int .i64 (bits .and .i64 c (127:Int))) rfl rfl rfl rfl rfl<|wBi (.int .i64 (bits .or .i64 (bits .and .i64 c (127:Int)) (128:Int))) rfl rfl rfl rfl rfl<|wCv rfl rfl rfl rfl rfl<|cQ (L:=([(IntKind.wrap .u8 (bits .or .i64 (bits .and .i64 c (127:Int)) (128:Int)))]:List Int)) (f:=rI_u8) rfl rfl rfl rfl rfl rfl rfl<|wAp (f:=rI_u8) h rfl rfl rfl rfl rfl rfl rfl rfl rfl (fun _=>rfl) rfl (fun b7 h=> ?_)
 exact goo 4 rfl<|wBi (.int .i64 (Int.fdiv c (2 ^ 7))) rfl rfl rfl rfl rfl<|geo
 exact gec; obtain⟨Q,s,A⟩:=q; refine gco 5 rfl<|cQ (L:=([(IntKind.wrap .u8 s)]:List Int)) (f:=rI_u8) rfl rfl rfl rfl rfl rfl rfl<|wAp (f:=rI_u8) h rfl rfl rfl rfl rfl rfl rfl rfl rfl (fun _=>rfl) rfl (fun c5 h=> ?_)
 exact geo; refine gcc 7 rfl<|cIf h rfl (fun a7 h=> ?_) (fun a7 h=> ?_)
 refine gcc 15 rfl<|cIf h rfl (fun a8 h=> ?_) (fun a8 h=> ?_)
 refine gcc 7 rfl<|cLp h [(5,6),(21,31)] [] (fun(R,d)=>([(5,Li rI_u8 R),(6,I64 d)],[])) (fun(T,t,B)=>(.e 0,[(5,Li rI_u8 T),(6,I64 t),(22,Bo B)],[])) rfl (fun st _ h=> ?_) (fun q h=> ?_)
 obtain⟨R,d⟩:=st; unfold qE at h; refine gcc 6 rfl<|cIf h rfl (fun a9 h=> ?_) (fun a9 h=> ?_)
 refine gco 6 rfl<|wBi (.int .i64 (bits .and .i64 d (127:Int))) rfl rfl rfl rfl rfl<|wBi (.int .i64 (bits .or .i64 (bits .and .i64 d (127:Int)) (128:Int))) rfl rfl rfl rfl rfl<|wCv rfl rfl rfl rfl rfl<|cQ (L:=([(IntKind.wrap .u8 (bits .or .i64 (bits .and .i64 d (127:Int)) (128:Int)))]:List Int)) (f:=rI_u8) rfl rfl rfl rfl rfl rfl rfl<|wAp (f:=rI_u8) h rfl rfl rfl rfl rfl rfl rfl rfl rfl (fun _=>rfl) rfl (fun b8 h=> ?_)
 exact goo 4 rfl<|wBi (.int .i64 (Int.fdiv d (2 ^ 7))) rfl rfl rfl rfl rfl<|geo
 exact gec; obtain⟨T,t,B⟩:=q; refine gco 5 rfl<|cQ (L:=([(IntKind.wrap .u8 t)]:List Int)) (f:=rI_u8) rfl rfl rfl rfl rfl rfl rfl<|wAp (f:=rI_u8) h rfl rfl rfl rfl rfl rfl rfl rfl rfl (fun _=>rfl) rfl (fun c6 h=> ?_)
 exact geo; refine gcc 2 rfl<|cLp h [(5,6),(21,31)] [] (fun(U,g)=>([(5,Li rI_u8 U),(6,I64 g)],[])) (fun(V,u,C)=>(.e 0,[(5,Li rI_u8 V),(6,I64 u),(22,Bo C)],[])) rfl (fun st _ h=> ?_) (fun q h=> ?_)
 obtain⟨U,g⟩:=st; unfold qD at h; refine gcc 6 rfl<|cIf h rfl (fun b0 h=> ?_) (fun b0 h=> ?_)
 refine gco 6 rfl<|wBi (.int .i64 (bits .and .i64 g (127:Int))) rfl rfl rfl rfl rfl<|wBi (.int .i64 (bits .or .i64 (bits .and .i64 g (127:Int)) (128:Int))) rfl rfl rfl rfl rfl<|wCv rfl rfl rfl rfl rfl<|cQ (L:=([(IntKind.wrap .u8 (bits .or .i64 (bits .and .i64 g (127:Int)) (128:Int)))]:List Int)) (f:=rI_u8) rfl rfl rfl rfl rfl rfl rfl<|wAp (f:=rI_u8) h rfl rfl rfl rfl rfl rfl rfl rfl rfl (fun _=>rfl) rfl (fun b9 h=> ?_)
 exact goo 4 rfl<|wBi (.int .i64 (Int.fdiv g (2 ^ 7))) rfl rfl rfl rfl rfl<|geo
 exact gec; obtain⟨V,u,C⟩:=q; refine gco 5 rfl<|cQ (L:=([(IntKind.wrap .u8 u)]:List Int)) (f:=rI_u8) rfl rfl rfl rfl rfl rfl rfl<|wAp (f:=rI_u8) h rfl rfl rfl rfl rfl rfl rfl rfl rfl (fun _=>rfl) rfl (fun c7 h=> ?_)
 exact geo; refine gcc 13 rfl<|cIf h rfl (fun b1 h=> ?_) (fun b1 h=> ?_)
 refine gcc 7 rfl<|cLp h [(5,6),(21,31)] [] (fun(W,j)=>([(5,Li rI_u8 W),(6,I64 j)],[])) (fun(X,v,D)=>(.e 0,[(5,Li rI_u8 X),(6,I64 v),(22,Bo D)],[])) rfl (fun st _ h=> ?_) (fun q h=> ?_)
 obtain⟨W,j⟩:=st; unfold qC at h; refine gcc 6 rfl<|cIf h rfl (fun b2 h=> ?_) (fun b2 h=> ?_)
 refine gco 6 rfl<|wBi (.int .i64 (bits .and .i64 j (127:Int))) rfl rfl rfl rfl rfl<|wBi (.int .i64 (bits .or .i64 (bits .and .i64 j (127:Int)) (128:Int))) rfl rfl rfl rfl rfl<|wCv rfl rfl rfl rfl rfl<|cQ (L:=([(IntKind.wrap .u8 (bits .or .i64 (bits .and .i64 j (127:Int)) (128:Int)))]:List Int)) (f:=rI_u8) rfl rfl rfl rfl rfl rfl rfl<|wAp (f:=rI_u8) h rfl rfl rfl rfl rfl rfl rfl rfl rfl (fun _=>rfl) rfl (fun c0 h=> ?_)
 exact goo 4 rfl<|wBi (.int .i64 (Int.fdiv j (2 ^ 7))) rfl rfl rfl rfl rfl<|geo
 exact gec; obtain⟨X,v,D⟩:=q; refine gco 5 rfl<|cQ (L:=([(IntKind.wrap .u8 v)]:List Int)) (f:=rI_u8) rfl rfl rfl rfl rfl rfl rfl<|wAp (f:=rI_u8) h rfl rfl rfl rfl rfl rfl rfl rfl rfl (fun _=>rfl) rfl (fun c8 h=> ?_)
 exact geo; refine gcc 2 rfl<|cLp h [(5,6),(21,31)] [] (fun(Y,l)=>([(5,Li rI_u8 Y),(6,I64 l)],[])) (fun(Z,w,E)=>(.e 0,[(5,Li rI_u8 Z),(6,I64 w),(22,Bo E)],[])) rfl (fun st _ h=> ?_) (fun q h=> ?_)
 obtain⟨Y,l⟩:=st; unfold qB at h; refine gcc 6 rfl<|cIf h rfl (fun b3 h=> ?_) (fun b3 h=> ?_)
 refine gco 6 rfl<|wBi (.int .i64 (bits .and .i64 l (127:Int))) rfl rfl rfl rfl rfl<|wBi (.int .i64 (bits .or .i64 (bits .and .i64 l (127:Int)) (128:Int))) rfl rfl rfl rfl rfl<|wCv rfl rfl rfl rfl rfl<|cQ (L:=([(IntKind.wrap .u8 (bits .or .i64 (bits .and .i64 l (127:Int)) (128:Int)))]:List Int)) (f:=rI_u8) rfl rfl rfl rfl rfl rfl rfl<|wAp (f:=rI_u8) h rfl rfl rfl rfl rfl rfl rfl rfl rfl (fun _=>rfl) rfl (fun c1 h=> ?_)
 exact goo 4 rfl<|wBi (.int .i64 (Int.fdiv l (2 ^ 7))) rfl rfl rfl rfl rfl<|geo
 exact gec; obtain⟨Z,w,E⟩:=q; refine gco 5 rfl<|cQ (L:=([(IntKind.wrap .u8 w)]:List Int)) (f:=rI_u8) rfl rfl rfl rfl rfl rfl rfl<|wAp (f:=rI_u8) h rfl rfl rfl rfl rfl rfl rfl rfl rfl (fun _=>rfl) rfl (fun c9 h=> ?_)
 exact geo
abbrev GJ(p:(List Int)→(List UInt8)→Option ((List Int))):Prop:= ∀ {a:List Int} {b:List UInt8} {r:(List Int)},p a b=some r→Big Tryz.prog τ An (.fn 60 [.one (.c (.sl (a.map rI_u8))), .one (.c (.str b))] [] (.one (.c (.sl (r.map rI_u8)))) none [] none)
def iK(n:Nat)(f:List Int)(a:List UInt8):Option ((List Int)):=
  (bM n f (a.length:Int)).bind fun d=>(dF 1 d (a.map fun c=>((c.toNat:Nat):Int))).bind fun b=>some b
theorem qJ{n:Nat}:GJ (iK n):=by
 intro c d r h; unfold iK at h; refine bF Tryz.func60 rfl rfl<|cRs<|wAe (Li rI_u8 []) rfl rfl rfl rfl<|goo 5 rfl<|xLs rfl<|xC0 h (cI ·) rfl (fun b h=> ?_)
 refine xMv rfl<|wAps (f:=rI_u8) h rfl rfl rfl rfl rfl (fun _=>rfl) rfl (fun _=>rfl) rfl (fun a h=> ?_)
 exact geo
abbrev iB:Type:=(List Int)→Int→Int→(List UInt8)→(List aA)→Option ((List Int))
abbrev nB(p:iB):Prop:= ∀ {a:List Int} {b d:Int} {f:List UInt8} {g:List aA} {r:(List Int)},p a b d f g=some r→Big Tryz.prog τ An (.fn 61 [.one (.c (.sl (a.map rI_u8))), .one (.ag [.int .i64 b, .int .i64 d, .str f, .sl (g.map aF)])] [] (.one (.c (.sl (r.map rI_u8)))) none [] none)
def gN(n:Nat)(a:iB)(f:List aA):((List Int)×Int)→Option (((List Int)×Int)⊕(((List Int)×Int×Bool)))
  | (g,c)=>bif decide (c<(f.length:Int))then(ix f c).bind fun b=>(a g b.f0 b.f1 b.f2 b.f3).bind fun d=>some (.inl (d,(IntKind.wrap .i64 (c+(1:Int)))))else some (.inr (g,c,false))
def jU(n:Nat)(a:iB)(j:List Int)(l:Int)(m:Int)(o:List UInt8)(b:List aA):Option ((List Int)):=
  (bM n j l).bind fun g=>(bM n g m).bind fun c=>(iK n c o).bind fun d=>(bM n d (b.length:Int)).bind fun f=>(loopN (gN n a b) n (f,(0:Int))).bind fun(p,t,s)=>some p
theorem zR{n:Nat}{a:iB}(b:nB a):nB (jU n a):=by
 intro v w y z A r h; unfold jU at h; refine bF Tryz.func61 rfl rfl<|gco 3 rfl<|wAe (Li rI_u8 []) rfl rfl rfl rfl<|goo 6 rfl<|xC0 h (cI ·) rfl (fun u h=> ?_)
 refine goo 2 rfl<|xC0 h (cI ·) rfl (fun p h=> ?_)
 refine goo 2 rfl<|xC0 h (qJ ·) rfl (fun s h=> ?_)
 refine goo 2 rfl<|xLn rfl<|xC0 h (cI ·) rfl (fun t h=> ?_)
 refine goc 7 rfl<|cLp h [(0,0),(5,5),(20,33)] [] (fun(d,g)=>([(0,Li rI_u8 d),(5,I64 g)],[])) (fun(f,j,c)=>(.e 0,[(0,Li rI_u8 f),(5,I64 j),(24,Bo c)],[])) rfl (fun st _ h=> ?_) (fun q h=> ?_)
 obtain⟨d,g⟩:=st; unfold gN at h; refine gco 6 rfl<|xLn rfl<|goc 2 rfl<|cIf h rfl (fun o h=> ?_) (fun o h=> ?_)
 refine gco 8 rfl<|xIx h aQ rfl (fun m h=> ?_)
 refine xLd rfl<|xC0 h (b ·) rfl (fun l h=> ?_)
 exact geo; exact gec; obtain⟨f,j,c⟩:=q; exact gec
def uZ:Nat→(iB)
  | 0=>(fun _ _ _ _ _=>none)
  | n+1=>jU n (uZ n)
def fV(n:Nat):iB:=uZ n
theorem zW(n:Nat):nB (fV n):=by
  induction n with
  | zero=>exact(fun h=>nomatch h)
  | succ n ih=>exact zR (n:=n) ih
theorem BF{n:Nat}:nB (fV n):=(zW n)
theorem xM(n:Nat):fV (n+1)=jU n (fV n):=rfl
abbrev GK(p:(List aD)→(List aA)→Option ((List Int))):Prop:= ∀ {a:List aD} {b:List aA} {r:(List Int)},p a b=some r→Big Tryz.prog τ An (.fn 21 [.one (.ag [.sl (a.map aJ), .sl (b.map aF)])] [] (.one (.c (.sl (r.map rI_u8)))) none [] none)
def iX(n:Nat)(c:aD):((List Int)×Int)→Option (((List Int)×Int)⊕(((List Int)×Int×Bool)))
  | (d,b)=>bif decide (b<(c.f3.length:Int))then(ix c.f3 b).bind fun a=>(bM n d a.f0).bind fun f=>(bM n f a.f1).bind fun g=>(iK n g a.f2).bind fun j=>(bM n j a.f3).bind fun l=>some (.inl (l,(IntKind.wrap .i64 (b+(1:Int)))))else some (.inr (d,b,false))
def iY(n:Nat)(j:List aD):((List Int)×Int)→Option (((List Int)×Int)⊕(((List Int)×Int×Bool)))
  | (l,b)=>bif decide (b<(j.length:Int))then(ix j b).bind fun a=>(iK n l a.f0).bind fun c=>(bM n c a.f1).bind fun d=>(bM n d a.f2).bind fun f=>(bM n f (a.f3.length:Int)).bind fun g=>(loopN (iX n a) n (g,(0:Int))).bind fun(m,p,o)=>some (.inl (m,(IntKind.wrap .i64 (b+(1:Int)))))else some (.inr (l,b,false))
def gK(n:Nat)(f:List aA):((List Int)×Int)→Option (((List Int)×Int)⊕(((List Int)×Int×Bool)))
  | (c,b)=>bif decide (b<(f.length:Int))then(ix f b).bind fun a=>(fV n c a.f0 a.f1 a.f2 a.f3).bind fun d=>some (.inl (d,(IntKind.wrap .i64 (b+(1:Int)))))else some (.inr (c,b,false))
def mJ(n:Nat)(a:List aD)(b:List aA):Option ((List Int)):=
  ((lG n a b).bind fun d=>bif !d then some true else(mI n a b).bind fun f=>some (!f)).bind fun j=>bif j then some ([]:List Int)else(bM n ([]:List Int) (a.length:Int)).bind fun g=>(loopN (iY n a) n (g,(0:Int))).bind fun(m,s,o)=>(bM n m (b.length:Int)).bind fun c=>(loopN (gK n b) n (c,(0:Int))).bind fun(l,t,p)=>some l
theorem DW{n:Nat}:GK (mJ n):=by
 intro Z a0 r h; unfold mJ at h; refine bF Tryz.func21 rfl rfl<|gco 3 rfl<|wAe (Li rI_u8 []) rfl rfl rfl rfl<|goo 4 rfl<|oJn h [(9,16)] [] (fun d=>(.n,[(16,Bo d)],[])) (fun _ h=> ?_) (fun d h=> ?_)
 refine xLd rfl<|xC0 h (wU ·) rfl (fun U h=> ?_)
 refine goo 2 rfl<|oIf 12 h rfl (fun X h=> ?_) (fun X h=> ?_)
 exact geo; refine xLd rfl<|xC0 h (DV ·) rfl (fun V h=> ?_)
 exact geo; refine cIf h rfl (fun Y h=> ?_) (fun Y h=> ?_)
 exact cRs<|cQ (L:=([]:List Int)) (f:=rI_u8) rfl rfl rfl rfl rfl rfl rfl<|geo
 refine gco 3 rfl<|cQ (L:=([]:List Int)) (f:=rI_u8) rfl rfl rfl rfl rfl rfl rfl<|goo 2 rfl<|xLn rfl<|xC0 h (cI ·) rfl (fun W h=> ?_)
 refine goc 7 rfl<|cLp h [(3,7),(23,73)] [(5,5),(7,7)] (fun(v,y)=>([(3,Li rI_u8 v),(4,I64 y)],[])) (fun(w,o,a)=>(.e 0,[(3,Li rI_u8 w),(4,I64 o),(27,Bo a)],[])) rfl (fun st _ h=> ?_) (fun q h=> ?_)
 obtain⟨v,y⟩:=st; unfold iY at h; refine gco 6 rfl<|xLn rfl<|goc 2 rfl<|cIf h rfl (fun Q h=> ?_) (fun Q h=> ?_)
 refine gco 8 rfl<|xIx h dI rfl (fun K h=> ?_)
 refine xLd rfl<|xAz [.str [], .int .i64 0, .int .i64 0, .sl ([].map aL)] rfl<|goo 7 rfl<|xC0 h (qJ ·) rfl (fun z h=> ?_)
 refine goo 2 rfl<|xC0 h (cI ·) rfl (fun A h=> ?_)
 refine goo 2 rfl<|xC0 h (cI ·) rfl (fun B h=> ?_)
 refine goo 2 rfl<|xLn rfl<|xC0 h (cI ·) rfl (fun C h=> ?_)
 refine goc 6 rfl<|cLp h [(3,3),(6,7),(49,73)] [(7,7)] (fun(g,p)=>([(3,Li rI_u8 g),(6,I64 p)],[])) (fun(j,s,b)=>(.e 2,[(3,Li rI_u8 j),(6,I64 s),(53,Bo b)],[])) rfl (fun st _ h=> ?_) (fun q h=> ?_)
 obtain⟨g,p⟩:=st; unfold iX at h; refine gco 6 rfl<|xLn rfl<|goc 2 rfl<|cIf h rfl (fun R h=> ?_) (fun R h=> ?_)
 refine gco 8 rfl<|xIx h fA rfl (fun M h=> ?_)
 refine xLd rfl<|xAc rfl<|goo 6 rfl<|xC0 h (cI ·) rfl (fun D h=> ?_)
 refine goo 2 rfl<|xC0 h (cI ·) rfl (fun E h=> ?_)
 refine goo 2 rfl<|xC0 h (qJ ·) rfl (fun G h=> ?_)
 refine goo 2 rfl<|xC0 h (cI ·) rfl (fun H h=> ?_)
 exact geo; exact gec; obtain⟨j,s,b⟩:=q; exact gec; exact gec; obtain⟨w,o,a⟩:=q; refine gco 5 rfl<|xLn rfl<|xC0 h (cI ·) rfl (fun I h=> ?_)
 refine goc 7 rfl<|cLp h [(3,3),(8,8),(79,92)] [] (fun(l,t)=>([(3,Li rI_u8 l),(8,I64 t)],[])) (fun(m,u,c)=>(.e 4,[(3,Li rI_u8 m),(8,I64 u),(83,Bo c)],[])) rfl (fun st _ h=> ?_) (fun q h=> ?_)
 obtain⟨l,t⟩:=st; unfold gK at h; refine gco 6 rfl<|xLn rfl<|goc 2 rfl<|cIf h rfl (fun T h=> ?_) (fun T h=> ?_)
 refine gco 8 rfl<|xIx h aQ rfl (fun N h=> ?_)
 refine xLd rfl<|xC0 h (BF ·) rfl (fun J h=> ?_)
 exact geo; exact gec; obtain⟨m,u,c⟩:=q; exact gec
abbrev IT(p:(List Int)→Int→Option (Int×Int×Bool)):Prop:= ∀ {a:List Int} {b:Int} {r:Int×Int×Bool},p a b=some r→Big Tryz.prog τ An (.fn 148 [.one (.c (.sl (a.map rI_u8))), .one (.c (.int .i64 b))] [] (.tup [.c (.int .i64 r.1), .c (.int .i64 r.2.1), .c (.bool r.2.2)]) none [] none)
def fX(n:Nat)(m:List Int):(Int×Int×Int)→Option ((Int×Int×Int)⊕((Int×Int×Bool)⊕(Int×Int×Int×Bool)))
  | (d,c,b)=>(bif decide (b<(6:Int))then some (decide (d<(m.length:Int)))else some false).bind fun o=>bif o then(ix m d).bind fun a=>(ck (decide (0≤(IntKind.wrap .u64 (IntKind.wrap .i64 ((7:Int)*b)))))).bind fun _=>bif decide ((128:Int)≤(IntKind.wrap .i64 a))then some (.inl ((IntKind.wrap .i64 (d+(1:Int))),(bits .or .i64 c (IntKind.wrap .i64 ((bits .and .i64 (IntKind.wrap .i64 a) (127:Int))*2 ^ min (Int.toNat (IntKind.wrap .u64 (IntKind.wrap .i64 ((7:Int)*b)))) 64))),(IntKind.wrap .i64 (b+(1:Int)))))else bif decide ((Int.tmod (bits .or .i64 c (IntKind.wrap .i64 ((bits .and .i64 (IntKind.wrap .i64 a) (127:Int))*2 ^ min (Int.toNat (IntKind.wrap .u64 (IntKind.wrap .i64 ((7:Int)*b)))) 64))) (2:Int))=(1:Int))then(bif decide ((IntKind.wrap .i64 a)=(0:Int))then bif decide ((0:Int)<b)then some true else(aS n (IntKind.wrap .i64 (Int.tdiv (IntKind.wrap .i64 (0 - (IntKind.wrap .i64 ((bits .or .i64 c (IntKind.wrap .i64 ((bits .and .i64 (IntKind.wrap .i64 a) (127:Int))*2 ^ min (Int.toNat (IntKind.wrap .u64 (IntKind.wrap .i64 ((7:Int)*b)))) 64)))+(1:Int))))) (2:Int))) ((-1000000000000):Int) (1000000000000:Int)).bind fun f=>some (!f)else(aS n (IntKind.wrap .i64 (Int.tdiv (IntKind.wrap .i64 (0 - (IntKind.wrap .i64 ((bits .or .i64 c (IntKind.wrap .i64 ((bits .and .i64 (IntKind.wrap .i64 a) (127:Int))*2 ^ min (Int.toNat (IntKind.wrap .u64 (IntKind.wrap .i64 ((7:Int)*b)))) 64)))+(1:Int))))) (2:Int))) ((-1000000000000):Int) (1000000000000:Int)).bind fun g=>some (!g)).bind fun p=>bif p then some (.inr (.inl ((0:Int),(0:Int),false)))else some (.inr (.inl ((IntKind.wrap .i64 (Int.tdiv (IntKind.wrap .i64 (0 - (IntKind.wrap .i64 ((bits .or .i64 c (IntKind.wrap .i64 ((bits .and .i64 (IntKind.wrap .i64 a) (127:Int))*2 ^ min (Int.toNat (IntKind.wrap .u64 (IntKind.wrap .i64 ((7:Int)*b)))) 64)))+(1:Int))))) (2:Int))),(IntKind.wrap .i64 (d+(1:Int))),true)))else(bif decide ((IntKind.wrap .i64 a)=(0:Int))then bif decide ((0:Int)<b)then some true else(aS n (IntKind.wrap .i64 (Int.tdiv (bits .or .i64 c (IntKind.wrap .i64 ((bits .and .i64 (IntKind.wrap .i64 a) (127:Int))*2 ^ min (Int.toNat (IntKind.wrap .u64 (IntKind.wrap .i64 ((7:Int)*b)))) 64))) (2:Int))) ((-1000000000000):Int) (1000000000000:Int)).bind fun j=>some (!j)else(aS n (IntKind.wrap .i64 (Int.tdiv (bits .or .i64 c (IntKind.wrap .i64 ((bits .and .i64 (IntKind.wrap .i64 a) (127:Int))*2 ^ min (Int.toNat (IntKind.wrap .u64 (IntKind.wrap .i64 ((7:Int)*b)))) 64))) (2:Int))) ((-1000000000000):Int) (1000000000000:Int)).bind fun l=>some (!l)).bind fun s=>bif s then some (.inr (.inl ((0:Int),(0:Int),false)))else some (.inr (.inl ((IntKind.wrap .i64 (Int.tdiv (bits .or .i64 c (IntKind.wrap .i64 ((bits .and .i64 (IntKind.wrap .i64 a) (127:Int))*2 ^ min (Int.toNat (IntKind.wrap .u64 (IntKind.wrap .i64 ((7:Int)*b)))) 64))) (2:Int))),(IntKind.wrap .i64 (d+(1:Int))),true)))else some (.inr (.inr (d,c,b,false)))
def lH(n:Nat)(a:List Int)(b:Int):Option (Int×Int×Bool):=
  (aS n b (0:Int) (IntKind.wrap .i64 ((a.length:Int) - (1:Int)))).bind fun c=>bif !c then some ((0:Int),(0:Int),false)else(loopN (fX n a) n (b,(0:Int),(0:Int))).bind fun q=>(match q with | .inl (d,f,g)=>some (d,f,g) | .inr (o,l,m,j)=>some ((0:Int),(0:Int),false))
theorem wV{n:Nat}:IT (lH n):=by
 intro Q R r h; unfold lH at h; refine bF Tryz.func148 rfl rfl<|gco 11 rfl<|xLn rfl<|RK rfl<|xC0 h (aU ·) rfl (fun M h=> ?_)
 refine goc 2 rfl<|cIf h rfl (fun N h=> ?_) (fun N h=> ?_)
 exact gec; refine gcc 10 rfl<|cLp h [(1,1),(4,10),(17,65)] [] (fun(p,b,c)=>([(1,I64 p),(7,I64 b),(8,I64 c)],[])) (fun q=>match q with | .inl (t,u,v)=>(.r,[(4,I64 t),(5,I64 u),(6,Bo v)],[]) | .inr (s,l,m,d)=>(.e 0,[(1,I64 s),(7,I64 l),(8,I64 m),(24,Bo d)],[])) rfl (fun st _ h=> ?_) (fun q h=> ?_)
 obtain⟨p,b,c⟩:=st; unfold fX at h; refine gco 3 rfl<|oJn h [(17,24)] [] (fun f=>(.n,[(24,Bo f)],[])) (fun _ h=> ?_) (fun f h=> ?_)
 refine goo 3 rfl<|oIf 19 h rfl (fun B h=> ?_) (fun B h=> ?_)
 exact goo 2 rfl<|xLn rfl<|geo
 exact geo; refine cIf h rfl (fun C h=> ?_) (fun C h=> ?_)
 refine gco 7 rfl<|xIx h wC rfl (fun a h=> ?_)
 refine goo 14 rfl<|wBi (.int .i64 (bits .and .i64 (IntKind.wrap .i64 a) (127:Int))) rfl rfl rfl rfl rfl<|goo 3 rfl<|oCk h (fun o h=> ?_)
 refine wShl o rfl rfl rfl rfl<|wBi (.int .i64 (bits .or .i64 b (IntKind.wrap .i64 ((bits .and .i64 (IntKind.wrap .i64 a) (127:Int))*2 ^ min (Int.toNat (IntKind.wrap .u64 (IntKind.wrap .i64 ((7:Int)*c)))) 64)))) rfl rfl rfl rfl rfl<|goc 8 rfl<|cIf h rfl (fun D h=> ?_) (fun D h=> ?_)
 exact gec; refine gco 4 rfl<|wBi (.int .i64 (IntKind.wrap .i64 (Int.tdiv (bits .or .i64 b (IntKind.wrap .i64 ((bits .and .i64 (IntKind.wrap .i64 a) (127:Int))*2 ^ min (Int.toNat (IntKind.wrap .u64 (IntKind.wrap .i64 ((7:Int)*c)))) 64))) (2:Int)))) rfl rfl rfl rfl rfl<|goo 6 rfl<|wBi (.int .i64 (Int.tmod (bits .or .i64 b (IntKind.wrap .i64 ((bits .and .i64 (IntKind.wrap .i64 a) (127:Int))*2 ^ min (Int.toNat (IntKind.wrap .u64 (IntKind.wrap .i64 ((7:Int)*c)))) 64))) (2:Int))) rfl rfl rfl rfl rfl<|goc 2 rfl<|cIf h rfl (fun E h=> ?_) (fun E h=> ?_)
 refine gco 3 rfl<|wNeg rfl rfl rfl<|wBi (.int .i64 (IntKind.wrap .i64 (Int.tdiv (IntKind.wrap .i64 (0 - (IntKind.wrap .i64 ((bits .or .i64 b (IntKind.wrap .i64 ((bits .and .i64 (IntKind.wrap .i64 a) (127:Int))*2 ^ min (Int.toNat (IntKind.wrap .u64 (IntKind.wrap .i64 ((7:Int)*c)))) 64)))+(1:Int))))) (2:Int)))) rfl rfl rfl rfl rfl<|goo 5 rfl<|oJn h [(53,63)] [] (fun g=>(.n,[(63,Bo g)],[])) (fun _ h=> ?_) (fun g h=> ?_)
 refine goo 3 rfl<|oIf 55 h rfl (fun G h=> ?_) (fun G h=> ?_)
 refine goo 4 rfl<|oIf 59 h rfl (fun H h=> ?_) (fun H h=> ?_)
 exact geo; refine xMv rfl<|xC0 h (aU ·) rfl (fun w h=> ?_)
 exact geo; refine goo 5 rfl<|xC0 h (aU ·) rfl (fun y h=> ?_)
 exact geo; refine cIf h rfl (fun I h=> ?_) (fun I h=> ?_)
 exact gec; exact gec; refine gco 4 rfl<|oJn h [(53,63)] [] (fun j=>(.n,[(63,Bo j)],[])) (fun _ h=> ?_) (fun j h=> ?_)
 refine goo 3 rfl<|oIf 55 h rfl (fun J h=> ?_) (fun J h=> ?_)
 refine goo 4 rfl<|oIf 59 h rfl (fun K h=> ?_) (fun K h=> ?_)
 exact geo; refine xMv rfl<|xC0 h (aU ·) rfl (fun z h=> ?_)
 exact geo; refine goo 5 rfl<|xC0 h (aU ·) rfl (fun A h=> ?_)
 exact geo; refine cIf h rfl (fun L h=> ?_) (fun L h=> ?_)
 exact gec; exact gec; exact gec; rcases q with⟨t,u,v⟩ | ⟨s,l,m,d⟩; exact en; exact gec
abbrev CA(p:(List Int)→Int→Bool→Option (Int×(List Int)×Int×Bool)):Prop:= ∀ {a:List Int} {b:Int} {d:Bool} {r:Int×(List Int)×Int×Bool},p a b d=some r→Big Tryz.prog τ An (.fn 112 [.one (.ptr 1000000 0)] [[.sl (a.map rI_u8), .int .i64 b, .bool d]] (.one (.c (.int .i64 r.1))) none [[.sl (r.2.1.map rI_u8), .int .i64 r.2.2.1, .bool r.2.2.2]] none)
def bU(n:Nat)(b:List Int)(c:Int)(d:Bool):Option (Int×(List Int)×Int×Bool):=
  (lH n b c).bind fun a=>(bif d then some true else some (!a.2.2)).bind fun f=>bif f then some ((0:Int),b,c,true)else some (a.1,b,a.2.1,d)
theorem cY{n:Nat}:CA (bU n):=by
 intro c d f r h; unfold bU at h; refine bF Tryz.func112 rfl rfl<|gco 14 rfl<|xC0 h (wV ·) rfl (fun b h=> ?_)
 refine goo 11 rfl<|oJn h [(19,26)] [] (fun a=>(.n,[(26,Bo a)],[])) (fun _ h=> ?_) (fun a h=> ?_)
 refine goo 5 rfl<|oIf 23 h rfl (fun g h=> ?_) (fun g h=> ?_)
 exact geo; exact geo; refine cIf h rfl (fun j h=> ?_) (fun j h=> ?_)
 exact gec; exact gec
abbrev AD(p:Int→(List Int)→Int→Bool→Option (Int×(List Int)×Int×Bool)):Prop:= ∀ {f:Int} {a:List Int} {b:Int} {d:Bool} {r:Int×(List Int)×Int×Bool},p f a b d=some r→Big Tryz.prog τ An (.fn 63 [.one (.ptr 1000000 0), .one (.c (.int .i64 f))] [[.sl (a.map rI_u8), .int .i64 b, .bool d]] (.one (.c (.int .i64 r.1))) none [[.sl (r.2.1.map rI_u8), .int .i64 r.2.2.1, .bool r.2.2.2]] none)
def bD(n:Nat)(g:Int)(c:List Int)(d:Int)(f:Bool):Option (Int×(List Int)×Int×Bool):=
  (bU n c d f).bind fun a=>(aS n a.1 (0:Int) g).bind fun b=>bif !b then some ((0:Int),a.2.1,a.2.2.1,true)else some (a.1,a.2.1,a.2.2.1,a.2.2.2)
theorem fK{n:Nat}:AD (bD n):=by
 intro j c d f r h; unfold bD at h; refine bF Tryz.func63 rfl rfl<|gco 7 rfl<|xC1 h (cY ·) rfl (fun b h=> ?_)
 refine goo 7 rfl<|xC0 h (aU ·) rfl (fun a h=> ?_)
 refine goc 2 rfl<|cIf h rfl (fun g h=> ?_) (fun g h=> ?_)
 exact gec; exact gec
abbrev GW(p:(List Int)→Int→Option ((List UInt8)×Int×Bool)):Prop:= ∀ {a:List Int} {b:Int} {r:(List UInt8)×Int×Bool},p a b=some r→Big Tryz.prog τ An (.fn 149 [.one (.c (.sl (a.map rI_u8))), .one (.c (.int .i64 b))] [] (.tup [.c (.str r.1), .c (.int .i64 r.2.1), .c (.bool r.2.2)]) none [] none)
def pJ(n:Nat)(b:List Int)(g:Int):Option ((List UInt8)×Int×Bool):=
  (lH n b g).bind fun a=>(bif !a.2.2 then some true else bif decide (a.1<(0:Int))then some true else some (decide ((IntKind.wrap .i64 ((b.length:Int) - a.2.1))<a.1))).bind fun c=>bif c then some (([]:List UInt8),(0:Int),false)else(sub b (some a.2.1) (some (IntKind.wrap .i64 (a.2.1+a.1)))).bind fun d=>(uQ d).bind fun f=>some (f,(IntKind.wrap .i64 (a.2.1+a.1)),true)
theorem DZ{n:Nat}:GW (pJ n):=by
 intro l m r h; unfold pJ at h; refine bF Tryz.func149 rfl rfl<|gco 10 rfl<|xC0 h (wV ·) rfl (fun b h=> ?_)
 refine goo 11 rfl<|oJn h [(17,30)] [] (fun a=>(.n,[(30,Bo a)],[])) (fun _ h=> ?_) (fun a h=> ?_)
 refine goo 3 rfl<|oIf 19 h rfl (fun f h=> ?_) (fun f h=> ?_)
 exact geo; refine goo 4 rfl<|oIf 23 h rfl (fun g h=> ?_) (fun g h=> ?_)
 exact geo; exact goo 2 rfl<|xLn rfl<|geo
 refine cIf h rfl (fun j h=> ?_) (fun j h=> ?_)
 exact gec; refine gco 8 rfl<|wSl (rf:=rI_u8) h rfl rfl rfl rfl (.so rfl) (.so rfl) (fun _=>rfl) rfl (fun c h=> ?_)
 refine wTs h rfl rfl ⟨rfl,rfl⟩ rfl wC rfl (fun d h=> ?_)
 exact geo
abbrev BK(p:(List Int)→Int→Bool→Option ((List UInt8)×(List Int)×Int×Bool)):Prop:= ∀ {a:List Int} {b:Int} {d:Bool} {r:(List UInt8)×(List Int)×Int×Bool},p a b d=some r→Big Tryz.prog τ An (.fn 113 [.one (.ptr 1000000 0)] [[.sl (a.map rI_u8), .int .i64 b, .bool d]] (.one (.c (.str r.1))) none [[.sl (r.2.1.map rI_u8), .int .i64 r.2.2.1, .bool r.2.2.2]] none)
def dV(n:Nat)(b:List Int)(c:Int)(d:Bool):Option ((List UInt8)×(List Int)×Int×Bool):=
  (pJ n b c).bind fun a=>(bif d then some true else some (!a.2.2)).bind fun f=>bif f then some (([]:List UInt8),b,c,true)else some (a.1,b,a.2.1,d)
theorem lY{n:Nat}:BK (dV n):=by
 intro c d f r h; unfold dV at h; refine bF Tryz.func113 rfl rfl<|gco 14 rfl<|xC0 h (DZ ·) rfl (fun b h=> ?_)
 refine goo 11 rfl<|oJn h [(19,26)] [] (fun a=>(.n,[(26,Bo a)],[])) (fun _ h=> ?_) (fun a h=> ?_)
 refine goo 5 rfl<|oIf 23 h rfl (fun g h=> ?_) (fun g h=> ?_)
 exact geo; exact geo; refine cIf h rfl (fun j h=> ?_) (fun j h=> ?_)
 exact gec; exact gec
abbrev De(p:(List Int)→Int→Bool→Option ((List UInt8)×Int×Int×(List aE)×(List Int)×Int×Bool)):Prop:= ∀ {a:List Int} {b:Int} {c:Bool} {r:(List UInt8)×Int×Int×(List aE)×(List Int)×Int×Bool},p a b c=some r→Big Tryz.prog τ An (.fn 64 [.one (.ptr 1000000 0)] [[.sl (a.map rI_u8), .int .i64 b, .bool c]] (.one (.ag [.str r.1, .int .i64 r.2.1, .int .i64 r.2.2.1, .sl (r.2.2.2.1.map aL)])) none [[.sl (r.2.2.2.2.1.map rI_u8), .int .i64 r.2.2.2.2.2.1, .bool r.2.2.2.2.2.2]] none)
def eW(n:Nat)(u:Int×(List Int)×Int×Bool):(Int×(List UInt8)×Int×Int×(List aE)×(List Int)×Int×Bool)→Option ((Int×(List UInt8)×Int×Int×(List aE)×(List Int)×Int×Bool)⊕((Int×(List UInt8)×Int×Int×(List aE)×(List Int)×Int×Bool)))
  | (l,m,o,p,s,b,c,a)=>bif decide (l<u.1)then bif a then some (.inr (l,m,o,p,s,b,c,a))else(bU n b c a).bind fun d=>(bU n d.2.1 d.2.2.1 d.2.2.2).bind fun f=>(dV n f.2.1 f.2.2.1 f.2.2.2).bind fun g=>(bU n g.2.1 g.2.2.1 g.2.2.2).bind fun j=>(dF 40 s ([aE.mk d.1 f.1 g.1 j.1]:List aE)).bind fun t=>some (.inl ((IntKind.wrap .i64 (l+(1:Int))),m,o,p,t,j.2.1,j.2.2.1,j.2.2.2))else some (.inr (l,m,o,p,s,b,c,a))
def kD(n:Nat)(s:List Int)(t:Int)(u:Bool):Option ((List UInt8)×Int×Int×(List aE)×(List Int)×Int×Bool):=
  (dV n s t u).bind fun g=>(bU n g.2.1 g.2.2.1 g.2.2.2).bind fun j=>(bU n j.2.1 j.2.2.1 j.2.2.2).bind fun a=>(bD n (1500:Int) a.2.1 a.2.2.1 a.2.2.2).bind fun b=>(loopN (eW n b) n ((0:Int),g.1,j.1,a.1,([]:List aE),b.2.1,b.2.2.1,b.2.2.2)).bind fun(v,l,m,o,p,c,d,f)=>some (l,m,o,p,c,d,f)
theorem BH{n:Nat}:De (kD n):=by
 intro M N Q r h; unfold kD at h; refine bF Tryz.func64 rfl rfl<|cRs<|xAz [.str [], .int .i64 0, .int .i64 0, .sl ([].map aL)] rfl<|goo 4 rfl<|xC1 h (lY ·) rfl (fun D h=> ?_)
 refine wBd [.str D.1, .int .i64 0, .int .i64 0, .sl ([].map aL)] rfl rfl rfl rfl rfl rfl<|xAz [.str [], .int .i64 0, .int .i64 0, .sl ([].map aL)] rfl<|goo 5 rfl<|xC1 h (cY ·) rfl (fun K h=> ?_)
 refine goo 6 rfl<|xC1 h (cY ·) rfl (fun I h=> ?_)
 refine goo 7 rfl<|xC1 h (fK ·) rfl (fun J h=> ?_)
 refine goc 2 rfl<|cLp h [(4,4),(16,40)] [(3,4),(1000000,1000000)] (fun(o,z,A,B,C,a,b,c)=>([(16,I64 o)],[(3,[.str z, .int .i64 A, .int .i64 B, .sl (C.map aL)]),(1000000,[.sl (a.map rI_u8), .int .i64 b, .bool c])])) (fun(m,p,s,t,u,d,g,j)=>(.e 0,[(16,I64 m)],[(3,[.str p, .int .i64 s, .int .i64 t, .sl (u.map aL)]),(1000000,[.sl (d.map rI_u8), .int .i64 g, .bool j])])) rfl (fun st _ h=> ?_) (fun q h=> ?_)
 obtain⟨o,z,A,B,C,a,b,c⟩:=st; unfold eW at h; refine gcc 5 rfl<|cIf h rfl (fun E h=> ?_) (fun E h=> ?_)
 refine gcc 11 rfl<|cIf h rfl (fun G h=> ?_) (fun G h=> ?_)
 exact gec; refine gco 4 rfl<|xC1 h (cY ·) rfl (fun l h=> ?_)
 refine wBd [.int .i64 l.1, .int .i64 0, .str [], .int .i64 0] rfl rfl rfl rfl rfl rfl<|xAc rfl<|goo 5 rfl<|xC1 h (cY ·) rfl (fun v h=> ?_)
 refine goo 6 rfl<|xC1 h (lY ·) rfl (fun w h=> ?_)
 refine goo 6 rfl<|xC1 h (cY ·) rfl (fun y h=> ?_)
 refine goo 7 rfl<|cQ (L:=([aE.mk l.1 v.1 w.1 y.1]:List aE)) (f:=aL) rfl rfl rfl rfl rfl rfl rfl<|wAp (f:=aL) h rfl rfl rfl rfl rfl rfl rfl rfl rfl (fun _=>rfl) rfl (fun H h=> ?_)
 exact geo; exact gec; obtain⟨m,p,s,t,u,d,g,j⟩:=q; exact gec
abbrev eQ:Type:=Int→(List Int)→Int→Bool→Option (Int×Int×(List UInt8)×(List aA)×(List Int)×Int×Bool)
abbrev lT(p:eQ):Prop:= ∀ {f:Int} {a:List Int} {b:Int} {d:Bool} {r:Int×Int×(List UInt8)×(List aA)×(List Int)×Int×Bool},p f a b d=some r→Big Tryz.prog τ An (.fn 65 [.one (.ptr 1000000 0), .one (.c (.int .i64 f))] [[.sl (a.map rI_u8), .int .i64 b, .bool d]] (.one (.ag [.int .i64 r.1, .int .i64 r.2.1, .str r.2.2.1, .sl (r.2.2.2.1.map aF)])) none [[.sl (r.2.2.2.2.1.map rI_u8), .int .i64 r.2.2.2.2.2.1, .bool r.2.2.2.2.2.2]] none)
def qR(n:Nat)(f:eQ)(t:Int)(s:Int×(List Int)×Int×Bool):(Int×Int×Int×(List UInt8)×(List aA)×(List Int)×Int×Bool)→Option ((Int×Int×Int×(List UInt8)×(List aA)×(List Int)×Int×Bool)⊕((Int×Int×Int×(List UInt8)×(List aA)×(List Int)×Int×Bool)))
  | (g,l,m,o,j,c,d,a)=>bif decide (g<s.1)then bif a then some (.inr (g,l,m,o,j,c,d,a))else(f (IntKind.wrap .i64 (t+(1:Int))) c d a).bind fun b=>(dF 56 j ([aA.mk b.1 b.2.1 b.2.2.1 b.2.2.2.1]:List aA)).bind fun p=>some (.inl ((IntKind.wrap .i64 (g+(1:Int))),l,m,o,p,b.2.2.2.2.1,b.2.2.2.2.2.1,b.2.2.2.2.2.2))else some (.inr (g,l,m,o,j,c,d,a))
def fZ(n:Nat)(f:eQ)(t:Int)(p:Int×(List Int)×Int×Bool):(Int×Int×Int×(List UInt8)×(List aA)×(List Int)×Int×Bool)→Option ((Int×Int×Int×(List UInt8)×(List aA)×(List Int)×Int×Bool)⊕((Int×Int×Int×(List UInt8)×(List aA)×(List Int)×Int×Bool)))
  | (g,j,l,m,o,c,d,a)=>bif decide (g<p.1)then bif a then some (.inr (g,j,l,m,o,c,d,a))else(f (IntKind.wrap .i64 (t+(1:Int))) c d a).bind fun b=>(dF 56 o ([aA.mk b.1 b.2.1 b.2.2.1 b.2.2.2.1]:List aA)).bind fun s=>some (.inl ((IntKind.wrap .i64 (g+(1:Int))),j,l,m,s,b.2.2.2.2.1,b.2.2.2.2.2.1,b.2.2.2.2.2.2))else some (.inr (g,j,l,m,o,c,d,a))
def iU(n:Nat)(a:eQ)(t:Int)(D:List Int)(E:Int)(G:Bool):Option (Int×Int×(List UInt8)×(List aA)×(List Int)×Int×Bool):=
  (bU n D E G).bind fun g=>(bU n g.2.1 g.2.2.1 g.2.2.2).bind fun c=>(dV n c.2.1 c.2.2.1 c.2.2.2).bind fun b=>bif decide ((10:Int)<t)then(bD n (20:Int) b.2.1 b.2.2.1 true).bind fun f=>(loopN (qR n a t f) n ((0:Int),g.1,c.1,b.1,([]:List aA),f.2.1,f.2.2.1,f.2.2.2)).bind fun(H,u,v,w,y,j,l,m)=>some (u,v,w,y,j,l,m)else(bD n (20:Int) b.2.1 b.2.2.1 b.2.2.2).bind fun d=>(loopN (fZ n a t d) n ((0:Int),g.1,c.1,b.1,([]:List aA),d.2.1,d.2.2.1,d.2.2.2)).bind fun(I,z,A,B,C,o,p,s)=>some (z,A,B,C,o,p,s)
theorem yG{n:Nat}{c:eQ}(b:lT c):lT (iU n c):=by
 intro b4 b0 b1 b2 r h; unfold iU at h; refine bF Tryz.func65 rfl rfl<|cRs<|xAz [.int .i64 0, .int .i64 0, .str [], .sl ([].map aF)] rfl<|goo 4 rfl<|xC1 h (cY ·) rfl (fun Z h=> ?_)
 refine wBd [.int .i64 Z.1, .int .i64 0, .str [], .sl ([].map aF)] rfl rfl rfl rfl rfl rfl<|xAz [.int .i64 0, .int .i64 0, .str [], .sl ([].map aF)] rfl<|goo 5 rfl<|xC1 h (cY ·) rfl (fun a7 h=> ?_)
 refine goo 6 rfl<|xC1 h (lY ·) rfl (fun a8 h=> ?_)
 refine goc 9 rfl<|cIf h rfl (fun q4 h=> ?_) (fun q4 h=> ?_)
 refine gco 10 rfl<|xC1 h (fK ·) rfl (fun a9 h=> ?_)
 refine goc 2 rfl<|cLp h [(6,6),(23,39)] [(5,6),(1000000,1000000)] (fun(D,W,X,Y,E,d,g,j)=>([(23,I64 D)],[(5,[.int .i64 W, .int .i64 X, .str Y, .sl (E.map aF)]),(1000000,[.sl (d.map rI_u8), .int .i64 g, .bool j])])) (fun(A,G,H,I,J,l,m,o)=>(.e 0,[(23,I64 A)],[(5,[.int .i64 G, .int .i64 H, .str I, .sl (J.map aF)]),(1000000,[.sl (l.map rI_u8), .int .i64 m, .bool o])])) rfl (fun st _ h=> ?_) (fun q h=> ?_)
 obtain⟨D,W,X,Y,E,d,g,j⟩:=st; unfold qR at h; refine gcc 5 rfl<|cIf h rfl (fun a1 h=> ?_) (fun a1 h=> ?_)
 refine gcc 11 rfl<|cIf h rfl (fun a2 h=> ?_) (fun a2 h=> ?_)
 exact gec; refine gco 6 rfl<|xC1 h (b ·) rfl (fun y h=> ?_)
 refine xAz [.int .i64 0, .int .i64 0, .str [], .sl ([].map aF)] rfl<|goo 6 rfl<|cQ (L:=([aA.mk y.1 y.2.1 y.2.2.1 y.2.2.2.1]:List aA)) (f:=aF) rfl rfl rfl rfl (by simp only[List.map,dG]<;>rfl) rfl rfl<|wAp (f:=aF) h rfl rfl rfl rfl rfl rfl rfl rfl rfl (fun a=>by rw[aQ]; rfl) rfl (fun a5 h=> ?_)
 exact geo; exact gec; obtain⟨A,G,H,I,J,l,m,o⟩:=q; exact gec; refine gco 5 rfl<|xC1 h (fK ·) rfl (fun a0 h=> ?_)
 refine goc 2 rfl<|cLp h [(6,6),(23,39)] [(5,6),(1000000,1000000)] (fun(B,K,M,N,Q,p,s,t)=>([(23,I64 B)],[(5,[.int .i64 K, .int .i64 M, .str N, .sl (Q.map aF)]),(1000000,[.sl (p.map rI_u8), .int .i64 s, .bool t])])) (fun(C,R,T,U,V,u,v,w)=>(.e 0,[(23,I64 C)],[(5,[.int .i64 R, .int .i64 T, .str U, .sl (V.map aF)]),(1000000,[.sl (u.map rI_u8), .int .i64 v, .bool w])])) rfl (fun st _ h=> ?_) (fun q h=> ?_)
 obtain⟨B,K,M,N,Q,p,s,t⟩:=st; unfold fZ at h; refine gcc 5 rfl<|cIf h rfl (fun a3 h=> ?_) (fun a3 h=> ?_)
 refine gcc 11 rfl<|cIf h rfl (fun a4 h=> ?_) (fun a4 h=> ?_)
 exact gec; refine gco 6 rfl<|xC1 h (b ·) rfl (fun z h=> ?_)
 refine xAz [.int .i64 0, .int .i64 0, .str [], .sl ([].map aF)] rfl<|goo 6 rfl<|cQ (L:=([aA.mk z.1 z.2.1 z.2.2.1 z.2.2.2.1]:List aA)) (f:=aF) rfl rfl rfl rfl (by simp only[List.map,dG]<;>rfl) rfl rfl<|wAp (f:=aF) h rfl rfl rfl rfl rfl rfl rfl rfl rfl (fun a=>by rw[aQ]; rfl) rfl (fun a6 h=> ?_)
 exact geo; exact gec; obtain⟨C,R,T,U,V,u,v,w⟩:=q; exact gec
def uD:Nat→(eQ)
  | 0=>(fun _ _ _ _=>none)
  | n+1=>iU n (uD n)
def dL(n:Nat):eQ:=uD n
theorem yH(n:Nat):lT (dL n):=by
  induction n with
  | zero=>exact(fun h=>nomatch h)
  | succ n ih=>exact yG (n:=n) ih
theorem zZ{n:Nat}:lT (dL n):=(yH n)
theorem vR(n:Nat):dL (n+1)=iU n (dL n):=rfl
abbrev IW(p:(List Int)→(List Int)→Option (Bool)):Prop:= ∀ {a b:List Int} {r:Bool},p a b=some r→Big Tryz.prog τ An (.fn 66 [.one (.c (.sl (a.map rI_u8))), .one (.c (.sl (b.map rI_u8)))] [] (.one (.c (.bool r))) none [] none)
def oA(n:Nat)(a:List Int)(b:List Int):Option (Bool):=
  (uQ a).bind fun c=>(uQ b).bind fun d=>some (decide (c=d))
theorem FP{n:Nat}:IW (oA n):=by
 intro a b r h; unfold oA at h; refine bF Tryz.func66 rfl rfl<|gco 7 rfl<|wTs h rfl rfl ⟨rfl,rfl⟩ rfl wC rfl (fun c h=> ?_)
 refine xMv rfl<|wTs h rfl rfl ⟨rfl,rfl⟩ rfl wC rfl (fun d h=> ?_)
 exact geo
abbrev GX(p:(List Int)→Option ((List aD)×(List aA)×Bool)):Prop:= ∀ {a:List Int} {r:(List aD)×(List aA)×Bool},p a=some r→Big Tryz.prog τ An (.fn 23 [.one (.c (.sl (a.map rI_u8)))] [] (.tup [.ag [.sl (r.1.map aJ), .sl (r.2.1.map aF)], .c (.bool r.2.2)]) none [] none)
def jD(n:Nat)(m:Int×(List Int)×Int×Bool):(Int×(List Int)×Int×Bool×(List aD)×(List aA))→Option ((Int×(List Int)×Int×Bool×(List aD)×(List aA))⊕((Int×Bool×(List Int)×Int×Bool×(List aD)×(List aA))))
  | (b,d,f,g,j,l)=>bif decide (b<m.1)then(kD n d f g).bind fun a=>(dF 56 j ([aD.mk a.1 a.2.1 a.2.2.1 a.2.2.2.1]:List aD)).bind fun c=>some (.inl ((IntKind.wrap .i64 (b+(1:Int))),a.2.2.2.2.1,a.2.2.2.2.2.1,a.2.2.2.2.2.2,c,l))else some (.inr (b,false,d,f,g,j,l))
def jC(n:Nat)(l:Int×(List Int)×Int×Bool):(Int×(List Int)×Int×Bool×(List aD)×(List aA))→Option ((Int×(List Int)×Int×Bool×(List aD)×(List aA))⊕((Int×(List Int)×Int×Bool×(List aD)×(List aA))))
  | (b,d,f,c,g,j)=>bif decide (b<l.1)then bif c then some (.inr (b,d,f,c,g,j))else(dL n (1:Int) d f c).bind fun a=>(dF 56 j ([aA.mk a.1 a.2.1 a.2.2.1 a.2.2.2.1]:List aA)).bind fun m=>some (.inl ((IntKind.wrap .i64 (b+(1:Int))),a.2.2.2.2.1,a.2.2.2.2.2.1,a.2.2.2.2.2.2,g,m))else some (.inr (b,d,f,c,g,j))
def mM(n:Nat)(j:List Int):Option ((List aD)×(List aA)×Bool):=
  (bD n (12:Int) j (0:Int) false).bind fun b=>(loopN (jD n b) n ((0:Int),b.2.1,b.2.2.1,b.2.2.2,([]:List aD),([]:List aA))).bind fun(w,y,m,o,p,t,u)=>(bD n (2000:Int) m o p).bind fun a=>(loopN (jC n a) n ((0:Int),a.2.1,a.2.2.1,a.2.2.2,t,u)).bind fun(v,z,A,s,d,f)=>bif s then some (([]:List aD),([]:List aA),false)else(gF n d f).bind fun c=>(bif decide ((c.length:Int)=(0:Int))then some true else(oA n c j).bind fun g=>some (!g)).bind fun l=>bif l then some (([]:List aD),([]:List aA),false)else some (d,f,true)
theorem Da{n:Nat}:GX (mM n):=by
 intro Q r h; unfold mM at h; refine bF Tryz.func23 rfl rfl<|cRs<|xAz [.sl ([].map aJ), .sl ([].map aF)] rfl<|goo 5 rfl<|wBd [.sl (Q.map rI_u8), .int .i64 0, .bool false] rfl rfl rfl rfl rfl rfl<|xAz [.sl ([].map rI_u8), .int .i64 0, .bool false] rfl<|goo 4 rfl<|xAz [.sl ([].map aJ), .sl ([].map aF)] rfl<|goo 4 rfl<|xC1 h (fK ·) rfl (fun a3 h=> ?_)
 refine goc 2 rfl<|cLp h [(6,6),(12,21)] [(4,6)] (fun(l,I,J,K,M,N)=>([(12,I64 l)],[(4,[.sl (I.map rI_u8), .int .i64 J, .bool K]),(5,[.sl (M.map aJ), .sl (N.map aF)])])) (fun(m,o,p,s,t,B,C)=>(.e 0,[(12,I64 m),(13,Bo o)],[(4,[.sl (p.map rI_u8), .int .i64 s, .bool t]),(5,[.sl (B.map aJ), .sl (C.map aF)])])) rfl (fun st _ h=> ?_) (fun q h=> ?_)
 obtain⟨l,I,J,K,M,N⟩:=st; unfold jD at h; refine gcc 5 rfl<|cIf h rfl (fun V h=> ?_) (fun V h=> ?_)
 refine gco 5 rfl<|xC1 h (BH ·) rfl (fun b h=> ?_)
 refine xAz [.str [], .int .i64 0, .int .i64 0, .sl ([].map aL)] rfl<|goo 6 rfl<|cQ (L:=([aD.mk b.1 b.2.1 b.2.2.1 b.2.2.2.1]:List aD)) (f:=aJ) rfl rfl rfl rfl rfl rfl rfl<|wAp (f:=aJ) h rfl rfl rfl rfl rfl rfl rfl rfl rfl (fun _=>rfl) rfl (fun a1 h=> ?_)
 exact geo; exact gec; obtain⟨m,o,p,s,t,B,C⟩:=q; refine gco 3 rfl<|xC1 h (fK ·) rfl (fun R h=> ?_)
 refine goc 2 rfl<|cLp h [(7,7),(23,34)] [(4,5),(7,7)] (fun(d,u,v,w,D,E)=>([(23,I64 d)],[(4,[.sl (u.map rI_u8), .int .i64 v, .bool w]),(5,[.sl (D.map aJ), .sl (E.map aF)])])) (fun(g,y,z,A,G,H)=>(.e 2,[(23,I64 g)],[(4,[.sl (y.map rI_u8), .int .i64 z, .bool A]),(5,[.sl (G.map aJ), .sl (H.map aF)])])) rfl (fun st _ h=> ?_) (fun q h=> ?_)
 obtain⟨d,u,v,w,D,E⟩:=st; unfold jC at h; refine gcc 5 rfl<|cIf h rfl (fun W h=> ?_) (fun W h=> ?_)
 refine gcc 9 rfl<|cIf h rfl (fun X h=> ?_) (fun X h=> ?_)
 exact gec; refine gco 3 rfl<|xC1 h (zZ ·) rfl (fun c h=> ?_)
 refine xAz [.int .i64 0, .int .i64 0, .str [], .sl ([].map aF)] rfl<|goo 6 rfl<|cQ (L:=([aA.mk c.1 c.2.1 c.2.2.1 c.2.2.2.1]:List aA)) (f:=aF) rfl rfl rfl rfl (by simp only[List.map,dG]<;>rfl) rfl rfl<|wAp (f:=aF) h rfl rfl rfl rfl rfl rfl rfl rfl rfl (fun a=>by rw[aQ]; rfl) rfl (fun a2 h=> ?_)
 exact geo; exact gec; obtain⟨g,y,z,A,G,H⟩:=q; refine gcc 6 rfl<|cIf h rfl (fun Y h=> ?_) (fun Y h=> ?_)
 exact cRs<|wBd [.sl ([].map aJ), .sl ([].map aF)] rfl rfl rfl rfl rfl rfl<|geo
 refine gco 4 rfl<|xC0 h (vL ·) rfl (fun T h=> ?_)
 refine goo 5 rfl<|oJn h [(40,48)] [] (fun j=>(.n,[(48,Bo j)],[])) (fun _ h=> ?_) (fun j h=> ?_)
 refine xMv rfl<|xLn rfl<|goo 2 rfl<|oIf 43 h rfl (fun Z h=> ?_) (fun Z h=> ?_)
 exact geo; refine goo 2 rfl<|xC0 h (FP ·) rfl (fun U h=> ?_)
 exact geo; refine cIf h rfl (fun a0 h=> ?_) (fun a0 h=> ?_)
 exact cRs<|wBd [.sl ([].map aJ), .sl ([].map aF)] rfl rfl rfl rfl rfl rfl<|geo
 exact gec
abbrev AC(p:(List aE)→(List aE)→Option (Bool)):Prop:= ∀ {a b:List aE} {r:Bool},p a b=some r→Big Tryz.prog τ An (.fn 69 [.one (.c (.sl (a.map aL))), .one (.c (.sl (b.map aL)))] [] (.one (.c (.bool r))) none [] none)
def gQ(n:Nat)(d:List aE)(f:List aE):(Int)→Option ((Int)⊕((Bool)⊕(Int×Bool)))
  | a=>bif decide (a<(d.length:Int))then(ix d a).bind fun b=>(ix f a).bind fun c=>bif !(decide (b.f0=c.f0)&&(decide (b.f1=c.f1)&&(decide (b.f2=c.f2)&&(decide (b.f3=c.f3)&&true))))then some (.inr (.inl false))else some (.inl (IntKind.wrap .i64 (a+(1:Int))))else some (.inr (.inr (a,false)))
def gP(n:Nat)(a:List aE)(b:List aE):Option (Bool):=
  bif !decide ((a.length:Int)=(b.length:Int))then some false else(loopN (gQ n a b) n (0:Int)).bind fun q=>(match q with | .inl c=>some c | .inr (d,f)=>some true)
theorem xP{n:Nat}:AC (gP n):=by
 intro o p r h; unfold gP at h; refine bF Tryz.func69 rfl rfl<|gco 8 rfl<|xLn rfl<|xMv rfl<|xLn rfl<|goc 2 rfl<|cIf h rfl (fun j h=> ?_) (fun j h=> ?_)
 exact gec; refine gco 5 rfl<|xLn rfl<|goc 2 rfl<|cLp h [(4,5),(13,25)] [] (fun c=>([(13,I64 c)],[])) (fun q=>match q with | .inl g=>(.r,[(4,Bo g)],[]) | .inr (d,f)=>(.e 0,[(13,I64 d),(14,Bo f)],[])) rfl (fun c _ h=> ?_) (fun q h=> ?_)
 unfold gQ at h; refine gcc 5 rfl<|cIf h rfl (fun l h=> ?_) (fun l h=> ?_)
 refine gco 12 rfl<|xIx h fA rfl (fun a h=> ?_)
 refine goo 3 rfl<|xIx h fA rfl (fun b h=> ?_)
 refine xLd rfl<|wBi (.bool (!(decide (a.f0=b.f0)&&(decide (a.f1=b.f1)&&(decide (a.f2=b.f2)&&(decide (a.f3=b.f3)&&true)))))) rfl rfl rfl rfl rfl<|oNl<|cIf h rfl (fun m h=> ?_) (fun m h=> ?_)
 exact gec; exact gec; exact gec; rcases q with g | ⟨d,f⟩; exact en; exact gec
abbrev CC(p:(List UInt8)→Int→Int→(List aE)→(List UInt8)→Int→Int→(List aE)→Option (Bool)):Prop:= ∀ {a:List UInt8} {b d:Int} {f:List aE} {g:List UInt8} {j l:Int} {m:List aE} {r:Bool},p a b d f g j l m=some r→Big Tryz.prog τ An (.fn 68 [.one (.ag [.str a, .int .i64 b, .int .i64 d, .sl (f.map aL)]), .one (.ag [.str g, .int .i64 j, .int .i64 l, .sl (m.map aL)])] [] (.one (.c (.bool r))) none [] none)
def jB(n:Nat)(b:List UInt8)(c:Int)(d:Int)(f:List aE)(g:List UInt8)(j:Int)(l:Int)(m:List aE):Option (Bool):=
  (bif decide (b=g)then bif decide (c=j)then bif decide (d=l)then(gP n f m).bind fun a=>some a else some false else some false else some false).bind fun o=>some o
theorem AA{n:Nat}:CC (jB n):=by
 intro g j l m o p s t r h; unfold jB at h; refine bF Tryz.func68 rfl rfl<|gco 8 rfl<|oJn h [(4,30)] [] (fun a=>(.n,[(4,Bo a)],[])) (fun _ h=> ?_) (fun a h=> ?_)
 refine goo 6 rfl<|oIf 10 h rfl (fun c h=> ?_) (fun c h=> ?_)
 refine goo 7 rfl<|oIf 17 h rfl (fun d h=> ?_) (fun d h=> ?_)
 refine goo 7 rfl<|oIf 24 h rfl (fun f h=> ?_) (fun f h=> ?_)
 refine goo 4 rfl<|xC0 h (xP ·) rfl (fun b h=> ?_)
 exact geo; exact geo; exact geo; exact geo; exact gec
abbrev uX(p:(List aD)→(List aD)→Option (Bool)):Prop:= ∀ {a b:List aD} {r:Bool},p a b=some r→Big Tryz.prog τ An (.fn 67 [.one (.c (.sl (a.map aJ))), .one (.c (.sl (b.map aJ))), .one (.fn 68 [])] [] (.one (.c (.bool r))) none [] none)
def eF(n:Nat)(d:List aD)(g:List aD):(Int)→Option ((Int)⊕((Bool)⊕(Int×Bool)))
  | a=>bif decide (a<(d.length:Int))then(ix d a).bind fun b=>(ix g a).bind fun c=>(jB n b.f0 b.f1 b.f2 b.f3 c.f0 c.f1 c.f2 c.f3).bind fun f=>bif !f then some (.inr (.inl false))else some (.inl (IntKind.wrap .i64 (a+(1:Int))))else some (.inr (.inr (a,false)))
def dX(n:Nat)(a:List aD)(b:List aD):Option (Bool):=
  bif !decide ((a.length:Int)=(b.length:Int))then some false else(loopN (eF n a b) n (0:Int)).bind fun q=>(match q with | .inl c=>some c | .inr (d,f)=>some true)
theorem tJ{n:Nat}:uX (dX n):=by
 intro p s r h; unfold dX at h; refine bF Tryz.func67 rfl rfl<|gco 8 rfl<|xLn rfl<|xMv rfl<|xLn rfl<|goc 2 rfl<|cIf h rfl (fun m h=> ?_) (fun m h=> ?_)
 exact gec; refine gco 5 rfl<|xLn rfl<|goc 2 rfl<|cLp h [(6,9),(17,31)] [(8,9)] (fun a=>([(17,I64 a)],[])) (fun q=>match q with | .inl d=>(.r,[(6,Bo d)],[]) | .inr (b,c)=>(.e 0,[(17,I64 b),(18,Bo c)],[])) rfl (fun a _ h=> ?_) (fun q h=> ?_)
 unfold eF at h; refine gcc 5 rfl<|cIf h rfl (fun o h=> ?_) (fun o h=> ?_)
 refine gco 6 rfl<|xIx h dI rfl (fun j h=> ?_)
 refine xLd rfl<|xAz [.str [], .int .i64 0, .int .i64 0, .sl ([].map aL)] rfl<|goo 7 rfl<|xIx h dI rfl (fun l h=> ?_)
 refine xLd rfl<|xAz [.str [], .int .i64 0, .int .i64 0, .sl ([].map aL)] rfl<|goo 7 rfl<|xC0 h (AA ·) rfl (fun g h=> ?_)
 refine goc 2 rfl<|cIf h rfl (fun f h=> ?_) (fun f h=> ?_)
 exact gec; exact gec; exact gec; rcases q with d | ⟨b,c⟩; exact en; exact gec
abbrev gG:Type:=Int→Int→(List UInt8)→(List aA)→Int→Int→(List UInt8)→(List aA)→Option (Bool)
abbrev mN(p:gG):Prop:= ∀ {a b:Int} {d:List UInt8} {f:List aA} {g j:Int} {l:List UInt8} {m:List aA} {r:Bool},p a b d f g j l m=some r→Big Tryz.prog τ An (.fn 71 [.one (.ag [.int .i64 a, .int .i64 b, .str d, .sl (f.map aF)]), .one (.ag [.int .i64 g, .int .i64 j, .str l, .sl (m.map aF)])] [] (.one (.c (.bool r))) none [] none)
abbrev cG:Type:=(List aA)→(List aA)→Option (Bool)
abbrev dZ(p:cG):Prop:= ∀ {a b:List aA} {r:Bool},p a b=some r→Big Tryz.prog τ An (.fn 70 [.one (.c (.sl (a.map aF))), .one (.c (.sl (b.map aF))), .one (.fn 71 [])] [] (.one (.c (.bool r))) none [] none)
def mA(n:Nat)(a:cG)(b:gG)(d:Int)(f:Int)(g:List UInt8)(j:List aA)(l:Int)(m:Int)(o:List UInt8)(p:List aA):Option (Bool):=
  (bif decide (d=l)then bif decide (f=m)then bif decide (g=o)then(a j p).bind fun c=>some c else some false else some false else some false).bind fun s=>some s
theorem Bq{n:Nat}{a:cG}(b:dZ a){c:gG}(d:mN c):mN (mA n a c):=by
 intro o p s t u v w y r h; unfold mA at h; refine bF Tryz.func71 rfl rfl<|gco 8 rfl<|oJn h [(4,30)] [] (fun f=>(.n,[(4,Bo f)],[])) (fun _ h=> ?_) (fun f h=> ?_)
 refine goo 6 rfl<|oIf 10 h rfl (fun j h=> ?_) (fun j h=> ?_)
 refine goo 7 rfl<|oIf 17 h rfl (fun l h=> ?_) (fun l h=> ?_)
 refine goo 7 rfl<|oIf 24 h rfl (fun m h=> ?_) (fun m h=> ?_)
 refine goo 4 rfl<|xC0 h (b ·) rfl (fun g h=> ?_)
 exact geo; exact geo; exact geo; exact geo; exact gec
def eG(n:Nat)(b:gG)(f:List aA)(j:List aA):(Int)→Option ((Int)⊕((Bool)⊕(Int×Bool)))
  | a=>bif decide (a<(f.length:Int))then(ix f a).bind fun c=>(ix j a).bind fun d=>(b c.f0 c.f1 c.f2 c.f3 d.f0 d.f1 d.f2 d.f3).bind fun g=>bif !g then some (.inr (.inl false))else some (.inl (IntKind.wrap .i64 (a+(1:Int))))else some (.inr (.inr (a,false)))
def dW(n:Nat)(b:cG)(a:gG)(c:List aA)(d:List aA):Option (Bool):=
  bif !decide ((c.length:Int)=(d.length:Int))then some false else(loopN (eG n a c d) n (0:Int)).bind fun q=>(match q with | .inl f=>some f | .inr (g,j)=>some true)
theorem sQ{n:Nat}{a:cG}(d:dZ a){b:gG}(c:mN b):dZ (dW n a b):=by
 intro v w r h; unfold dW at h; refine bF Tryz.func70 rfl rfl<|gco 8 rfl<|xLn rfl<|xMv rfl<|xLn rfl<|goc 2 rfl<|cIf h rfl (fun t h=> ?_) (fun t h=> ?_)
 exact gec; refine gco 5 rfl<|xLn rfl<|goc 2 rfl<|cLp h [(6,9),(17,31)] [(8,9)] (fun f=>([(17,I64 f)],[])) (fun q=>match q with | .inl l=>(.r,[(6,Bo l)],[]) | .inr (g,j)=>(.e 0,[(17,I64 g),(18,Bo j)],[])) rfl (fun f _ h=> ?_) (fun q h=> ?_)
 unfold eG at h; refine gcc 5 rfl<|cIf h rfl (fun u h=> ?_) (fun u h=> ?_)
 refine gco 6 rfl<|xIx h aQ rfl (fun p h=> ?_)
 refine xLd rfl<|xAz [.int .i64 0, .int .i64 0, .str [], .sl ([].map aF)] rfl<|goo 7 rfl<|xIx h aQ rfl (fun s h=> ?_)
 refine xLd rfl<|xAz [.int .i64 0, .int .i64 0, .str [], .sl ([].map aF)] rfl<|goo 7 rfl<|xC0 h (c ·) rfl (fun o h=> ?_)
 refine goc 2 rfl<|cIf h rfl (fun m h=> ?_) (fun m h=> ?_)
 exact gec; exact gec; exact gec; rcases q with l | ⟨g,j⟩; exact en; exact gec
def dC:Nat→(cG)×(gG)
  | 0=>((fun _ _=>none),(fun _ _ _ _ _ _ _ _=>none))
  | n+1=>(dW n ((dC n).1) ((dC n).2),mA n ((dC n).1) ((dC n).2))
def cE(n:Nat):cG:=(dC n).1
def kG(n:Nat):gG:=(dC n).2
theorem lW(n:Nat):dZ (cE n)∧mN (kG n):=by
  induction n with
  | zero=>exact⟨(fun h=>nomatch h),(fun h=>nomatch h)⟩
  | succ n ih=>exact⟨sQ (n:=n) (ih.1) (ih.2),Bq (n:=n) (ih.1) (ih.2)⟩
theorem tK{n:Nat}:dZ (cE n):=(lW n).1
theorem Oa{n:Nat}:mN (kG n):=(lW n).2
theorem rL(n:Nat):cE (n+1)=dW n (cE n) (kG n):=rfl
theorem zU(n:Nat):kG (n+1)=mA n (cE n) (kG n):=rfl
abbrev FX(p:(List aD)→(List aA)→(List aD)→(List aA)→Option (Bool)):Prop:= ∀ {a:List aD} {b:List aA} {d:List aD} {f:List aA} {r:Bool},p a b d f=some r→Big Tryz.prog τ An (.fn 24 [.one (.ag [.sl (a.map aJ), .sl (b.map aF)]), .one (.ag [.sl (d.map aJ), .sl (f.map aF)])] [] (.one (.c (.bool r))) none [] none)
def lB(n:Nat)(c:List aD)(d:List aA)(f:List aD)(g:List aA):Option (Bool):=
  (dX n c f).bind fun a=>(bif a then(cE n d g).bind fun b=>some b else some false).bind fun j=>some j
theorem Bw{n:Nat}:FX (lB n):=by
 intro f g j l r h; unfold lB at h; refine bF Tryz.func24 rfl rfl<|gco 12 rfl<|xC0 h (tJ ·) rfl (fun b h=> ?_)
 refine goo 4 rfl<|oJn h [(4,4),(11,18)] [] (fun a=>(.n,[(4,Bo a)],[])) (fun _ h=> ?_) (fun a h=> ?_)
 refine goo 2 rfl<|oIf 12 h rfl (fun d h=> ?_) (fun d h=> ?_)
 refine goo 4 rfl<|xC0 h (tK ·) rfl (fun c h=> ?_)
 exact geo; exact geo; exact gec
abbrev BJ(p:(List Int)→Option (Bool)):Prop:= ∀ {a:List Int} {r:Bool},p a=some r→Big Tryz.prog τ An (.fn 5 [.one (.c (.sl (a.map rI_u8)))] [] (.one (.c (.bool r))) none [] none)
def kN(n:Nat)(g:List Int):Option (Bool):=
  (xA n g).bind fun o=>bif o then some true else(iH n g).bind fun a=>(gF n a.1 a.2).bind fun c=>(mJ n a.1 a.2).bind fun j=>bif !decide ((c.length:Int)=(j.length:Int))then some false else bif decide ((c.length:Int)=(0:Int))then((lG n a.1 a.2).bind fun l=>bif !l then some true else some (decide ((0:Int)<(a.2.length:Int)))).bind fun p=>some p else(mM n c).bind fun b=>(bif b.2.2 then(lB n b.1 b.2.1 a.1 a.2).bind fun d=>bif d then(lI n b.1 b.2.1).bind fun f=>some f else some false else some false).bind fun m=>some m
theorem yJ{n:Nat}:BJ (kN n):=by
 intro y r h; unfold kN at h; refine bF Tryz.func5 rfl rfl<|gco 8 rfl<|xC0 h (KE ·) rfl (fun t h=> ?_)
 refine oNl<|cIf h rfl (fun u h=> ?_) (fun u h=> ?_)
 exact gec; refine gco 4 rfl<|xC0 h (yI ·) rfl (fun m h=> ?_)
 refine xAz [.sl ([].map aJ), .sl ([].map aF)] rfl<|goo 5 rfl<|xC0 h (vL ·) rfl (fun o h=> ?_)
 refine goo 6 rfl<|xLn rfl<|xLd rfl<|xC0 h (DW ·) rfl (fun p h=> ?_)
 refine xLn rfl<|goc 2 rfl<|cIf h rfl (fun v h=> ?_) (fun v h=> ?_)
 exact gec; refine gco 5 rfl<|xLn rfl<|goc 2 rfl<|cIf h rfl (fun w h=> ?_) (fun w h=> ?_)
 refine cRs<|oJn h [(2,2),(22,30)] [] (fun b=>(.n,[(2,Bo b)],[])) (fun _ h=> ?_) (fun b h=> ?_)
 refine xLd rfl<|xC0 h (wU ·) rfl (fun s h=> ?_)
 refine goo 2 rfl<|oIf 25 h rfl (fun g h=> ?_) (fun g h=> ?_)
 exact geo; exact goo 2 rfl<|xLn rfl<|geo
 exact gec; refine gco 4 rfl<|xC0 h (Da ·) rfl (fun c h=> ?_)
 refine goo 3 rfl<|xAz [.sl ([].map aJ), .sl ([].map aF)] rfl<|goo 5 rfl<|oJn h [(2,2),(36,45)] [] (fun a=>(.n,[(2,Bo a)],[])) (fun _ h=> ?_) (fun a h=> ?_)
 refine goo 2 rfl<|oIf 37 h rfl (fun j h=> ?_) (fun j h=> ?_)
 refine goo 2 rfl<|xC0 h (Bw ·) rfl (fun d h=> ?_)
 refine goo 2 rfl<|oIf 42 h rfl (fun l h=> ?_) (fun l h=> ?_)
 refine xLd rfl<|xC0 h (wW ·) rfl (fun f h=> ?_)
 exact geo; exact geo; exact geo; exact gec
end Go.Own
