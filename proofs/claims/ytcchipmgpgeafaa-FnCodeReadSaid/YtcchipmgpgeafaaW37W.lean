/- Each function on plain data, and its walk. No conditions. -/
import Derived.Test.YtcchipmgpgeafaaW37V
set_option linter.unusedVariables false
set_option linter.unusedSimpArgs false
set_option linter.unnecessarySimpa false
namespace Go.Own
open Go Go.Proofs
def lW(n:Nat)(a:Int)(f:Int)(b:List UInt8)(c:List aB)(s:List aC)(d:Bool):Option (Bool):=
  (bif !decide (a=(9:Int))then bif decide ((0:Int)<(s.length:Int))then some true else bif !decide (a=(1:Int))then some (!decide (f=(0:Int)))else some false else bif !decide (a=(1:Int))then some (!decide (f=(0:Int)))else some false).bind fun u=>bif u then some false else bif decide (a=(1:Int))then((aT n f (0:Int) (1000000000000:Int)).bind fun t=>bif t then bif decide (b=([]:List UInt8))then some (decide ((c.length:Int)=(0:Int)))else some false else some false).bind fun E=>some E else bif decide (a=(2:Int))then((eT n b).bind fun l=>bif l then some (decide ((c.length:Int)=(0:Int)))else some false).bind fun v=>some v else bif decide (a=(3:Int))then((lX n b).bind fun m=>bif m then bif decide ((c.length:Int)=(0:Int))then bif d then some true else some (!decide (b=([95]:List UInt8)))else some false else some false).bind fun w=>some w else bif decide (a=(4:Int))then(bif decide (b=([]:List UInt8))then some (decide ((c.length:Int)≤(20:Int)))else some false).bind fun y=>some y else bif decide (a=(5:Int))then(bif decide (b=([]:List UInt8))then some (decide ((c.length:Int)≤(20:Int)))else some false).bind fun z=>some z else bif decide (a=(6:Int))then(bif decide (b=([]:List UInt8))then(aT n (c.length:Int) (2:Int) (6:Int)).bind fun o=>some o else some false).bind fun A=>some A else bif decide (a=(7:Int))then(bif !d then(oF n b).bind fun p=>bif p then some (decide ((c.length:Int)=(2:Int)))else some false else some false).bind fun B=>some B else bif decide (a=(8:Int))then(bif !d then(eT n b).bind fun g=>bif g then some (decide ((c.length:Int)≤(4:Int)))else some false else some false).bind fun C=>some C else bif decide (a=(9:Int))then(bif !d then bif decide (b=([]:List UInt8))then bif decide ((c.length:Int)=(1:Int))then(aT n (s.length:Int) (1:Int) (6:Int)).bind fun j=>some j else some false else some false else some false).bind fun D=>some D else some false
theorem Cd{n:Nat}:Fd (lW n):=by
 intro a7 a8 a9 b0 b1 b2 r h; unfold lW at h; refine bF Try.func93 rfl rfl<|gco 9 rfl<|xLn rfl<|goo 5 rfl<|oJn h [(9,27)] [] (fun a=>(.n,[(27,Bo a)],[])) (fun _ h=> ?_) (fun a h=> ?_)
 refine goo 4 rfl<|oIf 12 h rfl (fun q2 h=> ?_) (fun q2 h=> ?_)
 refine goo 2 rfl<|xLn rfl<|goo 3 rfl<|oIf 18 h rfl (fun q3 h=> ?_) (fun q3 h=> ?_)
 exact geo; refine goo 4 rfl<|oIf 22 h rfl (fun q4 h=> ?_) (fun q4 h=> ?_)
 exact geo; exact geo; refine goo 10 rfl<|oIf 22 h rfl (fun q5 h=> ?_) (fun q5 h=> ?_)
 exact geo; exact geo; refine cIf h rfl (fun q6 h=> ?_) (fun q6 h=> ?_)
 exact gec; refine gcc 13 rfl<|cIf h rfl (fun q7 h=> ?_) (fun q7 h=> ?_)
 refine cRs<|oJn h [(4,4),(32,43)] [] (fun o=>(.n,[(4,Bo o)],[])) (fun _ h=> ?_) (fun o h=> ?_)
 refine goo 2 rfl<|xC0 h (aV ·) rfl (fun a0 h=> ?_)
 refine xMv rfl<|oIf 35 h rfl (fun y h=> ?_) (fun y h=> ?_)
 refine goo 5 rfl<|oIf 40 h rfl (fun z h=> ?_) (fun z h=> ?_)
 exact geo; exact geo; exact geo; exact gec; refine gcc 5 rfl<|cIf h rfl (fun A h=> ?_) (fun A h=> ?_)
 refine cRs<|oJn h [(4,4),(46,52)] [] (fun b=>(.n,[(4,Bo b)],[])) (fun _ h=> ?_) (fun b h=> ?_)
 refine goo 2 rfl<|xC0 h (kT ·) rfl (fun t h=> ?_)
 refine xMv rfl<|oIf 49 h rfl (fun B h=> ?_) (fun B h=> ?_)
 exact geo; exact geo; exact gec; refine gcc 5 rfl<|cIf h rfl (fun C h=> ?_) (fun C h=> ?_)
 refine cRs<|oJn h [(4,4),(55,69)] [] (fun c=>(.n,[(4,Bo c)],[])) (fun _ h=> ?_) (fun c h=> ?_)
 refine goo 2 rfl<|xC0 h (Ce ·) rfl (fun u h=> ?_)
 refine xMv rfl<|oIf 58 h rfl (fun D h=> ?_) (fun D h=> ?_)
 refine goo 4 rfl<|oIf 62 h rfl (fun E h=> ?_) (fun E h=> ?_)
 refine goo 2 rfl<|oIf 64 h rfl (fun G h=> ?_) (fun G h=> ?_)
 exact geo; exact geo; exact geo; exact geo; exact gec; refine gcc 6 rfl<|cIf h rfl (fun H h=> ?_) (fun H h=> ?_)
 refine gco 4 rfl<|oJn h [(4,4),(73,79)] [] (fun d=>(.n,[(4,Bo d)],[])) (fun _ h=> ?_) (fun d h=> ?_)
 refine goo 4 rfl<|oIf 76 h rfl (fun I h=> ?_) (fun I h=> ?_)
 exact geo; exact geo; exact gec; refine gcc 4 rfl<|cIf h rfl (fun J h=> ?_) (fun J h=> ?_)
 refine cRs<|oJn h [(4,4),(73,79)] [] (fun f=>(.n,[(4,Bo f)],[])) (fun _ h=> ?_) (fun f h=> ?_)
 refine goo 4 rfl<|oIf 76 h rfl (fun K h=> ?_) (fun K h=> ?_)
 exact geo; exact geo; exact gec; refine gcc 5 rfl<|cIf h rfl (fun L h=> ?_) (fun L h=> ?_)
 refine cRs<|oJn h [(4,4),(82,88)] [] (fun g=>(.n,[(4,Bo g)],[])) (fun _ h=> ?_) (fun g h=> ?_)
 refine goo 4 rfl<|oIf 85 h rfl (fun M h=> ?_) (fun M h=> ?_)
 refine xMv rfl<|xC0 h (aV ·) rfl (fun v h=> ?_)
 exact geo; exact geo; exact gec; refine gcc 5 rfl<|cIf h rfl (fun N h=> ?_) (fun N h=> ?_)
 refine cRs<|oJn h [(4,4),(91,101)] [] (fun j=>(.n,[(4,Bo j)],[])) (fun _ h=> ?_) (fun j h=> ?_)
 refine goo 3 rfl<|oIf 93 h rfl (fun Q h=> ?_) (fun Q h=> ?_)
 refine goo 2 rfl<|xC0 h (AH ·) rfl (fun w h=> ?_)
 refine goo 2 rfl<|oIf 98 h rfl (fun R h=> ?_) (fun R h=> ?_)
 exact geo; exact geo; exact geo; exact gec; refine gcc 5 rfl<|cIf h rfl (fun T h=> ?_) (fun T h=> ?_)
 refine cRs<|oJn h [(4,4),(104,114)] [] (fun l=>(.n,[(4,Bo l)],[])) (fun _ h=> ?_) (fun l h=> ?_)
 refine goo 3 rfl<|oIf 106 h rfl (fun U h=> ?_) (fun U h=> ?_)
 refine goo 2 rfl<|xC0 h (kT ·) rfl (fun p h=> ?_)
 refine goo 2 rfl<|oIf 111 h rfl (fun V h=> ?_) (fun V h=> ?_)
 exact geo; exact geo; exact geo; exact gec; refine gcc 5 rfl<|cIf h rfl (fun W h=> ?_) (fun W h=> ?_)
 refine cRs<|oJn h [(4,4),(117,133)] [] (fun m=>(.n,[(4,Bo m)],[])) (fun _ h=> ?_) (fun m h=> ?_)
 refine goo 3 rfl<|oIf 119 h rfl (fun X h=> ?_) (fun X h=> ?_)
 refine goo 5 rfl<|oIf 124 h rfl (fun Y h=> ?_) (fun Y h=> ?_)
 refine goo 4 rfl<|oIf 128 h rfl (fun Z h=> ?_) (fun Z h=> ?_)
 refine goo 2 rfl<|xLn rfl<|xC0 h (aV ·) rfl (fun s h=> ?_)
 exact geo; exact geo; exact geo; exact geo; exact gec; exact gec
abbrev Hq(p:(List (List UInt8))→Option (Bool)):Prop:= ∀ {a:List (List UInt8)} {r:Bool},p a=some r→Big Try.prog τ An (.fn 94 [.one (.c (.sl (a.map fG)))] [] (.one (.c (.bool r))) none [] none)
def mI(n:Nat)(b:List (List UInt8)):(Int)→Option ((Int)⊕((Bool)⊕(Int×Bool)))
  | a=>bif decide (a<(b.length:Int))then(sub b none (some a)).bind fun f=>(ix b a).bind fun d=>(gW n f d).bind fun c=>bif c then some (.inr (.inl false))else some (.inl (IntKind.wrap .i64 (a+(1:Int))))else some (.inr (.inr (a,false)))
def nK(n:Nat)(a:List (List UInt8)):Option (Bool):=
  (loopN (mI n a) n (0:Int)).bind fun q=>(match q with | .inl b=>some b | .inr (c,d)=>some true)
theorem Eb{n:Nat}:Hq (nK n):=by
 intro o r h; unfold nK at h; refine bF Try.func94 rfl rfl<|gcc 9 rfl<|cLp h [(2,17)] [] (fun b=>([(3,I64 b)],[])) (fun q=>match q with | .inl a=>(.r,[(2,Bo a)],[]) | .inr (c,d)=>(.e 0,[(3,I64 c),(7,Bo d)],[])) rfl (fun b _ h=> ?_) (fun q h=> ?_)
 unfold mI at h; refine gco 5 rfl<|xLn rfl<|goc 2 rfl<|cIf h rfl (fun l h=> ?_) (fun l h=> ?_)
 refine gco 7 rfl<|wSl (rf:=fG) h rfl rfl rfl rfl .no (.so rfl) (fun _=>rfl) rfl (fun j h=> ?_)
 refine goo 2 rfl<|xIx h pW rfl (fun g h=> ?_)
 refine xLd rfl<|xC0 h (oU ·) rfl (fun f h=> ?_)
 refine oNl<|cIf h rfl (fun m h=> ?_) (fun m h=> ?_)
 exact gec; exact gec; exact gec; rcases q with a | ⟨c,d⟩; exact en; exact gec
abbrev lD:Type:=Int→Int→(List UInt8)→(List aB)→(List aC)→Option ((List (List UInt8)))
abbrev qO(p:lD):Prop:= ∀ {a b:Int} {d:List UInt8} {f:List aB} {g:List aC} {r:(List (List UInt8))},p a b d f g=some r→Big Try.prog τ An (.fn 95 [.one (.ag [.int .i64 a, .int .i64 b, .str d, .sl (f.map aE), .sl (g.map aD)])] [] (.one (.c (.sl (r.map fG)))) none [] none)
def jU(n:Nat)(b:lD)(f:List aB):((List (List UInt8))×Int)→Option (((List (List UInt8))×Int)⊕(((List (List UInt8))×Int×Bool)))
  | (j,c)=>bif decide (c<(f.length:Int))then(ix f c).bind fun a=>(b a.f0 a.f1 a.f2 a.f3 a.f4).bind fun d=>(dG 16 j d).bind fun g=>some (.inl (g,(IntKind.wrap .i64 (c+(1:Int)))))else some (.inr (j,c,false))
def nF(n:Nat)(a:lD)(d:Int)(l:Int)(b:List UInt8)(f:List aB)(m:List aC):Option ((List (List UInt8))):=
  bif decide (d=(3:Int))then bif !decide (b=([95]:List UInt8))then(dG 16 ([]:List (List UInt8)) ([b]:List (List UInt8))).bind fun c=>some c else some ([]:List (List UInt8))else(loopN (jU n a f) n (([]:List (List UInt8)),(0:Int))).bind fun(g,o,j)=>some g
theorem CQ{n:Nat}{a:lD}(b:qO a):qO (nF n a):=by
 intro y z m A B r h; unfold nF at h; refine bF Try.func95 rfl rfl<|gco 3 rfl<|wAe (Li fG []) rfl rfl rfl rfl<|oRs<|cW (L:=([]:List (List UInt8))) (f:=fG) rfl rfl rfl rfl rfl rfl rfl<|goc 9 rfl<|cIf h rfl (fun u h=> ?_) (fun u h=> ?_)
 refine gcc 7 rfl<|cIf h rfl (fun v h=> ?_) (fun v h=> ?_)
 refine gco 4 rfl<|cW (L:=([m]:List (List UInt8))) (f:=fG) rfl rfl rfl rfl rfl rfl rfl<|wAp (f:=fG) h rfl rfl rfl rfl rfl rfl rfl rfl rfl (fun _=>rfl) rfl (fun t h=> ?_)
 exact geo; exact gec; refine gcc 6 rfl<|cLp h [(3,4),(18,32)] [] (fun(d,j)=>([(3,Li fG d),(4,I64 j)],[])) (fun(g,l,c)=>(.e 0,[(3,Li fG g),(4,I64 l),(22,Bo c)],[])) rfl (fun st _ h=> ?_) (fun q h=> ?_)
 obtain⟨d,j⟩:=st; unfold jU at h; refine gco 6 rfl<|xLn rfl<|goc 2 rfl<|cIf h rfl (fun w h=> ?_) (fun w h=> ?_)
 refine gco 8 rfl<|xIx h bE rfl (fun p h=> ?_)
 refine xLd rfl<|xC0 h (b ·) rfl (fun o h=> ?_)
 refine wAp (f:=fG) h rfl rfl rfl rfl rfl rfl rfl rfl rfl (fun _=>rfl) rfl (fun s h=> ?_)
 exact geo; exact gec; obtain⟨g,l,c⟩:=q; exact gec
def AE:Nat→(lD)
  | 0=>(fun _ _ _ _ _=>none)
  | n+1=>nF n (AE n)
def hH(n:Nat):lD:=AE n
theorem CY(n:Nat):qO (hH n):=by
  induction n with
  | zero=>exact(fun h=>nomatch h)
  | succ n ih=>exact CQ (n:=n) ih
theorem Ef{n:Nat}:qO (hH n):=(CY n)
theorem AW(n:Nat):hH (n+1)=nF n (hH n):=rfl
abbrev jF:Type:=Int→Int→(List UInt8)→(List aB)→(List aC)→Bool→Int→Int→Option (Int)
abbrev qL(p:jF):Prop:= ∀ {a b:Int} {d:List UInt8} {f:List aB} {g:List aC} {j:Bool} {l m:Int} {r:Int},p a b d f g j l m=some r→Big Try.prog τ An (.fn 89 [.one (.ag [.int .i64 a, .int .i64 b, .str d, .sl (f.map aE), .sl (g.map aD)]), .one (.c (.bool j)), .one (.c (.int .i64 l)), .one (.c (.int .i64 m))] [] (.one (.c (.int .i64 r))) none [] none)
def fN(n:Nat)(b:jF)(l:Bool)(m:Int)(g:List aB):(Int×Int)→Option ((Int×Int)⊕((Int×Int×Bool)))
  | (d,c)=>(bif decide (c<(g.length:Int))then some (decide ((0:Int)≤d))else some false).bind fun j=>bif j then(ix g c).bind fun a=>(b a.f0 a.f1 a.f2 a.f3 a.f4 l (IntKind.wrap .i64 (m - (1:Int))) d).bind fun f=>some (.inl (f,(IntKind.wrap .i64 (c+(1:Int)))))else some (.inr (d,c,false))
def fM(n:Nat)(b:jF)(s:Int)(j:List aC):(Int×Int)→Option ((Int×Int)⊕((Int)⊕(Int×Int×Bool)))
  | (l,a)=>(bif decide (a<(j.length:Int))then some (decide ((0:Int)≤l))else some false).bind fun t=>bif t then(((ix j a).bind fun c=>(hH n c.f0 c.f1 c.f2 c.f3 c.f4).bind fun m=>(nK n m).bind fun o=>bif !o then some (.inl ((-1):Int))else(ix j a).bind fun d=>(b d.f0 d.f1 d.f2 d.f3 d.f4 true (IntKind.wrap .i64 (s - (1:Int))) l).bind fun g=>bif decide ((0:Int)≤g)then(ix j a).bind fun f=>(b f.f5 f.f6 f.f7 f.f8 f.f9 false (IntKind.wrap .i64 (s - (1:Int))) g).bind fun p=>some (.inr p)else some (.inr g):Option ((Int)⊕(Int)))).bind fun q=>(match q with | .inl v=>some (.inr (.inl v)) | .inr u=>some (.inl (u,(IntKind.wrap .i64 (a+(1:Int))))))else some (.inr (.inr (l,a,false)))
def nD(n:Nat)(a:jF)(p:Int)(s:Int)(t:List UInt8)(c:List aB)(d:List aC)(f:Bool)(b:Int)(g:Int):Option (Int):=
  (bif decide (b<(1:Int))then some true else bif decide (g<(1:Int))then some true else(lW n p s t c d f).bind fun j=>some (!j)).bind fun l=>bif l then some ((-1):Int)else(loopN (fN n a f b c) n ((IntKind.wrap .i64 (g - (1:Int))),(0:Int))).bind fun(u,z,w)=>(loopN (fM n a b d) n (u,(0:Int))).bind fun q=>(match q with | .inl o=>some o | .inr (m,v,y)=>some m)
theorem CN{n:Nat}{b:jF}(a:qL b):qL (nD n b):=by
 intro X Y Z a0 a1 a2 a3 a4 r h; unfold nD at h; refine bF Try.func89 rfl rfl<|gco 8 rfl<|oJn h [(11,22)] [] (fun m=>(.n,[(22,Bo m)],[])) (fun _ h=> ?_) (fun m h=> ?_)
 refine goo 3 rfl<|oIf 13 h rfl (fun U h=> ?_) (fun U h=> ?_)
 exact geo; refine goo 4 rfl<|oIf 17 h rfl (fun V h=> ?_) (fun V h=> ?_)
 exact geo; refine goo 2 rfl<|xC0 h (Cd ·) rfl (fun T h=> ?_)
 exact geo; refine cIf h rfl (fun W h=> ?_) (fun W h=> ?_)
 exact gec; refine gcc 12 rfl<|cLp h [(3,3),(9,9),(25,45)] [] (fun(v,y)=>([(3,I64 v),(9,I64 y)],[])) (fun(w,z,f)=>(.e 0,[(3,I64 w),(9,I64 z),(33,Bo f)],[])) rfl (fun st _ h=> ?_) (fun q h=> ?_)
 obtain⟨v,y⟩:=st; unfold fN at h; refine gco 3 rfl<|oJn h [(25,33)] [] (fun g=>(.n,[(33,Bo g)],[])) (fun _ h=> ?_) (fun g h=> ?_)
 refine goo 3 rfl<|xLn rfl<|goo 2 rfl<|oIf 30 h rfl (fun K h=> ?_) (fun K h=> ?_)
 exact geo; exact geo; refine cIf h rfl (fun L h=> ?_) (fun L h=> ?_)
 refine gco 7 rfl<|xIx h bE rfl (fun G h=> ?_)
 refine goo 5 rfl<|xC0 h (a ·) rfl (fun A h=> ?_)
 exact geo; exact gec; obtain⟨w,z,f⟩:=q; refine gcc 5 rfl<|cLp h [(3,3),(8,8),(10,10),(46,87)] [] (fun(o,c)=>([(3,I64 o),(10,I64 c)],[])) (fun q=>match q with | .inl t=>(.r,[(8,I64 t)],[]) | .inr (p,d,j)=>(.e 2,[(3,I64 p),(10,I64 d),(54,Bo j)],[])) rfl (fun st _ h=> ?_) (fun q h=> ?_)
 obtain⟨o,c⟩:=st; unfold fM at h; refine gco 3 rfl<|oJn h [(46,54)] [] (fun l=>(.n,[(54,Bo l)],[])) (fun _ h=> ?_) (fun l h=> ?_)
 refine goo 3 rfl<|xLn rfl<|goo 2 rfl<|oIf 51 h rfl (fun M h=> ?_) (fun M h=> ?_)
 exact geo; exact geo; refine cIf h rfl (fun N h=> ?_) (fun N h=> ?_)
 refine gcc 2 rfl<|cJn h [(3,3),(8,8),(57,87)] [] (fun q=>match q with | .inl u=>(.r,[(8,I64 u)],[]) | .inr s=>(.n,[(3,I64 s)],[])) (fun _ h=> ?_) (fun q h=> ?_)
 refine gco 7 rfl<|xIx h cM rfl (fun H h=> ?_)
 refine goo 2 rfl<|xC0 h (Ef ·) rfl (fun B h=> ?_)
 refine xC0 h (Eb ·) rfl (fun C h=> ?_)
 refine goc 2 rfl<|cIf h rfl (fun Q h=> ?_) (fun Q h=> ?_)
 exact gec; refine gco 6 rfl<|xIx h cM rfl (fun I h=> ?_)
 refine goo 5 rfl<|xC0 h (a ·) rfl (fun D h=> ?_)
 refine goc 7 rfl<|cIf h rfl (fun R h=> ?_) (fun R h=> ?_)
 refine gco 4 rfl<|xIx h cM rfl (fun J h=> ?_)
 refine goo 5 rfl<|xC0 h (a ·) rfl (fun E h=> ?_)
 exact geo; exact gec; rcases q with u | s; exact en; exact gec; exact gec; rcases q with t | ⟨p,d,j⟩; exact en; exact gec
def AB:Nat→(jF)
  | 0=>(fun _ _ _ _ _ _ _ _=>none)
  | n+1=>nD n (AB n)
def dD(n:Nat):jF:=AB n
theorem CV(n:Nat):qL (dD n):=by
  induction n with
  | zero=>exact(fun h=>nomatch h)
  | succ n ih=>exact CN (n:=n) ih
theorem Ec{n:Nat}:qL (dD n):=(CV n)
theorem AU(n:Nat):dD (n+1)=nD n (dD n):=rfl
abbrev Hz(p:Int→Int→(List UInt8)→(List aB)→(List aC)→Option (Bool)):Prop:= ∀ {a b:Int} {d:List UInt8} {f:List aB} {g:List aC} {r:Bool},p a b d f g=some r→Big Try.prog τ An (.fn 71 [.one (.ag [.int .i64 a, .int .i64 b, .str d, .sl (f.map aE), .sl (g.map aD)])] [] (.one (.c (.bool r))) none [] none)
def qF(n:Nat)(b:Int)(c:Int)(d:List UInt8)(f:List aB)(g:List aC):Option (Bool):=
  (dD n b c d f g false (10:Int) (300:Int)).bind fun a=>some (decide ((0:Int)≤a))
theorem Eg{n:Nat}:Hz (qF n):=by
 intro b c d f g r h; unfold qF at h; refine bF Try.func71 rfl rfl<|gco 8 rfl<|xC0 h (Ec ·) rfl (fun a h=> ?_)
 exact geo
abbrev Fe(p:(List (List UInt8))→(List Int)→Int→Int→Option (Int×Int×(List UInt8)×(List aB)×(List aC)×(List Int)×Int×Int)):Prop:= ∀ {f:List (List UInt8)} {a:List Int} {b d:Int} {r:Int×Int×(List UInt8)×(List aB)×(List aC)×(List Int)×Int×Int},p f a b d=some r→Big Try.prog τ An (.fn 53 [.one (.ptr 1000000 0), .one (.c (.sl (f.map fG)))] [[.sl (a.map rI_u8), .int .i64 b, .int .i64 d]] (.one (.ag [.int .i64 r.1, .int .i64 r.2.1, .str r.2.2.1, .sl (r.2.2.2.1.map aE), .sl (r.2.2.2.2.1.map aD)])) none [[.sl (r.2.2.2.2.2.1.map rI_u8), .int .i64 r.2.2.2.2.2.2.1, .int .i64 r.2.2.2.2.2.2.2]] none)
def jY(n:Nat)(j:List (List UInt8))(d:List Int)(f:Int)(g:Int):Option (Int×Int×(List UInt8)×(List aB)×(List aC)×(List Int)×Int×Int):=
  (bU n (3:Int) j d f g).bind fun a=>(qF n a.1 a.2.1 a.2.2.1 a.2.2.2.1 a.2.2.2.2.1).bind fun c=>bif !c then(cU n (1:Int)).bind fun b=>some (b.1,b.2.1,b.2.2.1,b.2.2.2.1,b.2.2.2.2,a.2.2.2.2.2.1,a.2.2.2.2.2.2.1,a.2.2.2.2.2.2.2)else some (a.1,a.2.1,a.2.2.1,a.2.2.2.1,a.2.2.2.2.1,a.2.2.2.2.2.1,a.2.2.2.2.2.2.1,a.2.2.2.2.2.2.2)
theorem uQ{n:Nat}:Fe (jY n):=by
 intro l d f g r h; unfold jY at h; refine bF Try.func53 rfl rfl<|cRs<|xAz [.int .i64 0, .int .i64 0, .str [], .sl ([].map aE), .sl ([].map aD)] rfl<|goo 5 rfl<|xC1 h (Ed ·) rfl (fun c h=> ?_)
 refine xAz [.int .i64 0, .int .i64 0, .str [], .sl ([].map aE), .sl ([].map aD)] rfl<|goo 6 rfl<|xC0 h (Eg ·) rfl (fun a h=> ?_)
 refine goc 2 rfl<|cIf h rfl (fun j h=> ?_) (fun j h=> ?_)
 refine cRs<|xC0 h (dX ·) rfl (fun b h=> ?_)
 exact geo; exact gec
abbrev Hp(p:(List Int)→Int→Int→Option ((List bM)×(List Int)×Int×Int)):Prop:= ∀ {a:List Int} {b c:Int} {r:(List bM)×(List Int)×Int×Int},p a b c=some r→Big Try.prog τ An (.fn 35 [.one (.ptr 1000000 0)] [[.sl (a.map rI_u8), .int .i64 b, .int .i64 c]] (.one (.ag [.sl (r.1.map eD)])) none [[.sl (r.2.1.map rI_u8), .int .i64 r.2.2.1, .int .i64 r.2.2.2]] none)
def pK(n:Nat):(Int×(List bM)×(List Int)×Int×Int)→Option ((Int×(List bM)×(List Int)×Int×Int)⊕((Int×Bool×(List bM)×(List Int)×Int×Int)))
  | (j,p,c,d,f)=>bif decide (j<(3:Int))then(((ix ([([102]:List UInt8),([103]:List UInt8),([104]:List UInt8)]:List (List UInt8)) j).bind fun g=>bif decide (j=(1:Int))then(jY n ([([88]:List UInt8),([89]:List UInt8)]:List (List UInt8)) c d f).bind fun a=>(dG 120 p ([bM.mk g ([([88]:List UInt8),([89]:List UInt8)]:List (List UInt8)) a.1 a.2.1 a.2.2.1 a.2.2.2.1 a.2.2.2.2.1]:List bM)).bind fun s=>some (s,g,([([88]:List UInt8),([89]:List UInt8)]:List (List UInt8)),a.1,a.2.1,a.2.2.1,a.2.2.2.1,a.2.2.2.2.1,a.2.2.2.2.2.1,a.2.2.2.2.2.2.1,a.2.2.2.2.2.2.2)else(jY n ([([88]:List UInt8)]:List (List UInt8)) c d f).bind fun b=>(dG 120 p ([bM.mk g ([([88]:List UInt8)]:List (List UInt8)) b.1 b.2.1 b.2.2.1 b.2.2.2.1 b.2.2.2.2.1]:List bM)).bind fun t=>some (t,g,([([88]:List UInt8)]:List (List UInt8)),b.1,b.2.1,b.2.2.1,b.2.2.2.1,b.2.2.2.2.1,b.2.2.2.2.2.1,b.2.2.2.2.2.2.1,b.2.2.2.2.2.2.2):Option (((List bM)×(List UInt8)×(List (List UInt8))×Int×Int×(List UInt8)×(List aB)×(List aC)×(List Int)×Int×Int)))).bind fun(u,v,w,y,z,A,B,C,l,m,o)=>some (.inl ((IntKind.wrap .i64 (j+(1:Int))),u,l,m,o))else some (.inr (j,false,p,c,d,f))
def nJ(n:Nat)(d:List Int)(f:Int)(g:Int):Option ((List bM)×(List Int)×Int×Int):=
  (loopN (pK n) n ((0:Int),([]:List bM),d,f,g)).bind fun(l,m,j,c,a,b)=>some (j,c,a,b)
theorem Ea{n:Nat}:Hp (nJ n):=by
 intro Q R T r h; unfold nJ at h; refine bF Try.func35 rfl rfl<|cRs<|xAz [.sl ([].map eD)] rfl<|oRs<|wBd [.sl ([].map eD)] rfl rfl rfl rfl rfl rfl<|xAz [.sl ([].map eD)] rfl<|goc 7 rfl<|cLp h [(4,5),(7,31)] [(3,3),(5,5),(1000000,1000000)] (fun(D,H,m,o,p)=>([(4,I64 D)],[(3,[.sl (H.map eD)]),(1000000,[.sl (m.map rI_u8), .int .i64 o, .int .i64 p])])) (fun(E,G,I,s,c,d)=>(.e 0,[(4,I64 E),(8,Bo G)],[(3,[.sl (I.map eD)]),(1000000,[.sl (s.map rI_u8), .int .i64 c, .int .i64 d])])) rfl (fun st _ h=> ?_) (fun q h=> ?_)
 obtain⟨D,H,m,o,p⟩:=st; unfold pK at h; refine gcc 6 rfl<|cIf h rfl (fun J h=> ?_) (fun J h=> ?_)
 refine gcc 2 rfl<|cJn h [(5,5),(11,31)] [(3,3),(5,5),(1000000,1000000)] (fun(u,v,w,y,z,A,B,C,g,j,l)=>(.n,[],[(3,[.sl (u.map eD)]),(5,[.str v, .sl (w.map fG), .int .i64 y, .int .i64 z, .str A, .sl (B.map aE), .sl (C.map aD)]),(1000000,[.sl (g.map rI_u8), .int .i64 j, .int .i64 l])])) (fun _ h=> ?_) (fun q h=> ?_)
 refine gco 3 rfl<|cW (L:=([([102]:List UInt8),([103]:List UInt8),([104]:List UInt8)]:List (List UInt8))) (f:=fG) rfl rfl rfl rfl rfl rfl rfl<|xMv rfl<|xIx h pW rfl (fun t h=> ?_)
 refine xLd rfl<|cW (L:=([([88]:List UInt8)]:List (List UInt8))) (f:=fG) rfl rfl rfl rfl rfl rfl rfl<|wBd [.str t, .sl ([([88]:List UInt8)].map fG), .int .i64 0, .int .i64 0, .str [], .sl ([].map aE), .sl ([].map aD)] rfl rfl rfl rfl rfl rfl<|xAz [.str [], .sl ([].map fG), .int .i64 0, .int .i64 0, .str [], .sl ([].map aE), .sl ([].map aD)] rfl<|goc 8 rfl<|cIf h rfl (fun K h=> ?_) (fun K h=> ?_)
 refine cRg<|cW (L:=([([88]:List UInt8),([89]:List UInt8)]:List (List UInt8))) (f:=fG) rfl rfl rfl rfl rfl rfl rfl<|goo 8 rfl<|xC1 h (uQ ·) rfl (fun a h=> ?_)
 refine goo 7 rfl<|cW (L:=([bM.mk t ([([88]:List UInt8),([89]:List UInt8)]:List (List UInt8)) a.1 a.2.1 a.2.2.1 a.2.2.2.1 a.2.2.2.2.1]:List bM)) (f:=eD) rfl rfl rfl rfl rfl rfl rfl<|wAp (f:=eD) h rfl rfl rfl rfl rfl rfl rfl rfl rfl (fun _=>rfl) rfl (fun M h=> ?_)
 exact geo; refine gco 6 rfl<|xC1 h (uQ ·) rfl (fun b h=> ?_)
 refine goo 7 rfl<|cW (L:=([bM.mk t ([([88]:List UInt8)]:List (List UInt8)) b.1 b.2.1 b.2.2.1 b.2.2.2.1 b.2.2.2.2.1]:List bM)) (f:=eD) rfl rfl rfl rfl rfl rfl rfl<|wAp (f:=eD) h rfl rfl rfl rfl rfl rfl rfl rfl rfl (fun _=>rfl) rfl (fun N h=> ?_)
 exact geo; obtain⟨u,v,w,y,z,A,B,C,g,j,l⟩:=q; exact gec; exact gec; obtain⟨E,G,I,s,c,d⟩:=q; exact gec
abbrev Hn(p:(List Int)→Int→Int→Option ((List aF)×(List aA)×(List Int)×Int×Int)):Prop:= ∀ {a:List Int} {b c:Int} {r:(List aF)×(List aA)×(List Int)×Int×Int},p a b c=some r→Big Try.prog τ An (.fn 13 [.one (.ptr 1000000 0)] [[.sl (a.map rI_u8), .int .i64 b, .int .i64 c]] (.one (.ag [.sl (r.1.map aL), .sl (r.2.1.map aH)])) none [[.sl (r.2.2.1.map rI_u8), .int .i64 r.2.2.2.1, .int .i64 r.2.2.2.2]] none)
def nI(n:Nat)(c:List Int)(d:Int)(f:Int):Option ((List aF)×(List aA)×(List Int)×Int×Int):=
  (nJ n c d f).bind fun a=>(jR n a.1).bind fun b=>some (b.1,b.2,a.2.1,a.2.2.1,a.2.2.2)
theorem EZ{n:Nat}:Hn (nI n):=by
 intro c d f r h; unfold nI at h; refine bF Try.func13 rfl rfl<|cRs<|xAz [.sl ([].map aL), .sl ([].map aH)] rfl<|goo 4 rfl<|xC1 h (Ea ·) rfl (fun a h=> ?_)
 refine xC0 h (AY ·) rfl (fun b h=> ?_)
 exact geo
abbrev Ac(p:(List Int)→Option ((List Int))):Prop:= ∀ {a:List Int} {r:(List Int)},p a=some r→Big Try.prog τ An (.fn 5 [.one (.c (.sl (a.map rI_u8)))] [] (.one (.c (.sl (r.map rI_u8)))) none [] none)
def iC(n:Nat)(o:List Int):Option ((List Int)):=
  (pB n o).bind fun f=>(nI n f.1 f.2.1 f.2.2).bind fun d=>(iH n d.1 d.2.1).bind fun b=>bif decide ((b.length:Int)=(0:Int))then some b else(aM n (5:Int) d.2.2.1 d.2.2.2.1 d.2.2.2.2).bind fun a=>bif decide (a.1=(0:Int))then(aM n (b.length:Int) a.2.1 a.2.2.1 a.2.2.2).bind fun c=>(eZ n ([(0:Int),(1:Int),(2:Int),(4:Int),(24:Int),(128:Int)]:List Int) c.2.1 c.2.2.1 c.2.2.2).bind fun l=>(ix b c.1).bind fun p=>(some (b.set (Int.toNat c.1) (IntKind.wrap .u8 l.1))).bind fun m=>some m else bif decide (a.1=(1:Int))then(aM n (b.length:Int) a.2.1 a.2.2.1 a.2.2.2).bind fun g=>(sub b none (some g.1)).bind fun j=>some j else some b
theorem xK{n:Nat}:Ac (iC n):=by
 intro v r h; unfold iC at h; refine bF Try.func5 rfl rfl<|cRs<|wAe (Li rI_u8 []) rfl rfl rfl rfl<|goo 4 rfl<|wCn h (fun _=>(FX ·)) rfl rfl rfl rfl rfl rfl rfl (fun _=>rfl) (fun o h=> ?_)
 refine goo 5 rfl<|xC1 h (EZ ·) rfl (fun p h=> ?_)
 refine xC0 h (uR ·) rfl (fun s h=> ?_)
 refine goo 6 rfl<|xLn rfl<|goc 2 rfl<|cIf h rfl (fun t h=> ?_) (fun t h=> ?_)
 exact gec; refine gco 5 rfl<|xC1 h (aP ·) rfl (fun g h=> ?_)
 refine goc 7 rfl<|cIf h rfl (fun u h=> ?_) (fun u h=> ?_)
 refine cRg<|wAl rfl rfl rfl rfl<|goo 2 rfl<|xLn rfl<|xC1 h (aP ·) rfl (fun j h=> ?_)
 refine xMv rfl<|cW (L:=([(0:Int),(1:Int),(2:Int),(4:Int),(24:Int),(128:Int)]:List Int)) (f:=aR) rfl rfl rfl rfl rfl rfl rfl<|xC1 h (kF ·) rfl (fun a h=> ?_)
 refine wCv rfl rfl rfl rfl rfl<|wIp (f:=rI_u8) h rfl rfl rfl rfl rfl rfl (fun _=>rfl) rfl (fun l ke27_9 h=> ?_)
 refine Qi (f:=rI_u8) (v':=(IntKind.wrap .u8 a.1)) h ke27_9 rfl rfl rfl rfl rfl rfl rfl rfl rfl (fun m h=> ?_)
 exact geo; refine gcc 5 rfl<|cIf h rfl (fun c h=> ?_) (fun c h=> ?_)
 refine gco 4 rfl<|xLn rfl<|xC1 h (aP ·) rfl (fun b h=> ?_)
 refine wSl (rf:=rI_u8) h rfl rfl rfl rfl .no (.so rfl) (fun _=>rfl) rfl (fun d h=> ?_)
 exact geo; exact gec
abbrev ID(p:(List UInt8)→Int→Int→(List aG)→(List UInt8)→Option (Bool×(List UInt8))):Prop:= ∀ {b:List UInt8} {d f:Int} {g:List aG} {a:List UInt8} {r:Bool×(List UInt8)},p b d f g a=some r→Big Try.prog τ An (.fn 44 [.one (.ag [.str b, .int .i64 d, .int .i64 f, .sl (g.map aK)]), .one (.ptr 1000000 0)] [[.str a]] (.one (.c (.bool r.1))) none [[.str r.2]] none)
def qG(n:Nat)(b:List UInt8)(c:Int)(d:Int)(f:List aG)(a:List UInt8):Option (Bool×(List UInt8)):=
  some ((decide (b=a)),a)
theorem El{n:Nat}:ID (qG n):=by
 intro b c d f a r h; unfold qG at h; exact bF Try.func44 rfl rfl<|gec
abbrev uI(p:(List aF)→(List UInt8)→Option (Int×(List UInt8))):Prop:= ∀ {b:List aF} {a:List UInt8} {r:Int×(List UInt8)},p b a=some r→Big Try.prog τ An (.fn 43 [.one (.c (.sl (b.map aL))), .one (.fn 44 [(1000000,0)])] [[.str a]] (.one (.c (.int .i64 r.1))) none [[.str r.2]] none)
def cC(n:Nat)(f:List aF):(Int×(List UInt8))→Option ((Int×(List UInt8))⊕((Int×(List UInt8))⊕(Int×Bool×(List UInt8))))
  | (d,a)=>bif decide (d<(f.length:Int))then(ix f d).bind fun b=>(qG n b.f0 b.f1 b.f2 b.f3 a).bind fun c=>bif c.1 then some (.inr (.inl (d,c.2)))else some (.inl ((IntKind.wrap .i64 (d+(1:Int))),c.2))else some (.inr (.inr (d,false,a)))
def gD(n:Nat)(d:List aF)(c:List UInt8):Option (Int×(List UInt8)):=
  (loopN (cC n d) n ((0:Int),c)).bind fun q=>(match q with | .inl (f,a)=>some (f,a) | .inr (g,j,b)=>some (((-1):Int),b))
theorem sU{n:Nat}:uI (gD n):=by
 intro t p r h; unfold gD at h; refine bF Try.func43 rfl rfl<|gco 8 rfl<|xLn rfl<|goc 2 rfl<|cLp h [(4,5),(8,18)] [(1000000,1000000)] (fun(f,a)=>([(8,I64 f)],[(1000000,[.str a])])) (fun q=>match q with | .inl (d,b)=>(.r,[(4,I64 d)],[(1000000,[.str b])]) | .inr (g,j,c)=>(.e 0,[(8,I64 g),(9,Bo j)],[(1000000,[.str c])])) rfl (fun st _ h=> ?_) (fun q h=> ?_)
 obtain⟨f,a⟩:=st; unfold cC at h; refine gcc 5 rfl<|cIf h rfl (fun s h=> ?_) (fun s h=> ?_)
 refine gco 13 rfl<|xIx h fV rfl (fun o h=> ?_)
 refine xLd rfl<|xC1 h (El ·) rfl (fun l h=> ?_)
 refine oNl<|cIf h rfl (fun m h=> ?_) (fun m h=> ?_)
 exact gec; exact gec; exact gec; rcases q with⟨d,b⟩ | ⟨g,j,c⟩; exact en; exact gec
abbrev Lg(p:(List UInt8)→(List aF)→(List aA)→Option (Int×(List aF)×(List aA))):Prop:= ∀ {d:List UInt8} {a:List aF} {b:List aA} {r:Int×(List aF)×(List aA)},p d a b=some r→Big Try.prog τ An (.fn 23 [.one (.ptr 1000000 0), .one (.c (.str d))] [[.sl (a.map aL), .sl (b.map aH)]] (.one (.c (.int .i64 r.1))) none [[.sl (r.2.1.map aL), .sl (r.2.2.map aH)]] none)
def oH(n:Nat)(d:List UInt8)(a:List aF)(c:List aA):Option (Int×(List aF)×(List aA)):=
  (gD n a d).bind fun b=>some (b.1,a,c)
theorem AJ{n:Nat}:Lg (oH n):=by
 intro d b c r h; unfold oH at h; refine bF Try.func23 rfl rfl<|gco 11 rfl<|wFn rfl rfl rfl<|xC1 h (sU ·) rfl (fun a h=> ?_)
 exact geo
abbrev Fy(p:Int→Int→Int→Option (Bool)):Prop:= ∀ {a b d:Int} {r:Bool},p a b d=some r→Big Try.prog τ An (.fn 38 [.one (.c (.int .i64 a)), .one (.c (.int .i64 b)), .one (.c (.int .i64 d))] [] (.one (.c (.bool r))) none [] none)
def aQ(n:Nat)(a:Int)(b:Int)(c:Int):Option (Bool):=
  (bif decide (b≤a)then some (decide (a≤c))else some false).bind fun d=>some d
theorem aW{n:Nat}:Fy (aQ n):=by
 intro c d f r h; unfold aQ at h; refine bF Try.func38 rfl rfl<|gco 6 rfl<|oJn h [(6,14)] [] (fun a=>(.n,[(6,Bo a)],[])) (fun _ h=> ?_) (fun a h=> ?_)
 refine goo 4 rfl<|oIf 10 h rfl (fun b h=> ?_) (fun b h=> ?_)
 exact geo; exact geo; exact gec
abbrev Fw(p:Int→Option (Bool)):Prop:= ∀ {a:Int} {r:Bool},p a=some r→Big Try.prog τ An (.fn 73 [.one (.c (.int .u8 a))] [] (.one (.c (.bool r))) none [] none)
def iJ(n:Nat)(a:Int):Option (Bool):=
  (bif decide ((97:Int)≤a)then some (decide (a≤(122:Int)))else some false).bind fun b=>some b
theorem uU{n:Nat}:Fw (iJ n):=by
 intro c r h; unfold iJ at h; refine bF Try.func73 rfl rfl<|gco 6 rfl<|oJn h [(2,8)] [] (fun a=>(.n,[(2,Bo a)],[])) (fun _ h=> ?_) (fun a h=> ?_)
 refine goo 3 rfl<|oIf 5 h rfl (fun b h=> ?_) (fun b h=> ?_)
 exact geo; exact geo; exact gec
abbrev Eu(p:Int→Option (Bool)):Prop:= ∀ {a:Int} {r:Bool},p a=some r→Big Try.prog τ An (.fn 74 [.one (.c (.int .u8 a))] [] (.one (.c (.bool r))) none [] none)
def gH(n:Nat)(a:Int):Option (Bool):=
  (bif decide ((48:Int)≤a)then some (decide (a≤(57:Int)))else some false).bind fun b=>some b
theorem tT{n:Nat}:Eu (gH n):=by
 intro c r h; unfold gH at h; refine bF Try.func74 rfl rfl<|gco 6 rfl<|oJn h [(2,8)] [] (fun a=>(.n,[(2,Bo a)],[])) (fun _ h=> ?_) (fun a h=> ?_)
 refine goo 3 rfl<|oIf 5 h rfl (fun b h=> ?_) (fun b h=> ?_)
 exact geo; exact geo; exact gec
abbrev IH(p:(List UInt8)→Option (Bool)):Prop:= ∀ {a:List UInt8} {r:Bool},p a=some r→Big Try.prog τ An (.fn 57 [.one (.c (.str a))] [] (.one (.c (.bool r))) none [] none)
def mP(n:Nat)(b:List UInt8):(Int)→Option ((Int)⊕((Bool)⊕(Int×Bool)))
  | a=>bif decide (a<(b.length:Int))then((ixs b a).bind fun j=>(iJ n j).bind fun g=>bif !g then bif decide (a=(0:Int))then some true else(ixs b a).bind fun d=>(gH n d).bind fun c=>bif !c then(ixs b a).bind fun f=>some (!decide (f=(95:Int)))else some false else some false).bind fun l=>bif l then some (.inr (.inl false))else some (.inl (IntKind.wrap .i64 (a+(1:Int))))else some (.inr (.inr (a,false)))
def nN(n:Nat)(b:List UInt8):Option (Bool):=
  (loopN (mP n b) n (0:Int)).bind fun q=>(match q with | .inl c=>some c | .inr (d,f)=>(aQ n (b.length:Int) (1:Int) (20:Int)).bind fun a=>some a)
theorem Em{n:Nat}:IH (nN n):=by
 intro y r h; unfold nN at h; refine bF Try.func57 rfl rfl<|gcc 9 rfl<|cLp h [(2,31)] [] (fun c=>([(3,I64 c)],[])) (fun q=>match q with | .inl b=>(.r,[(2,Bo b)],[]) | .inr (d,f)=>(.e 0,[(3,I64 d),(7,Bo f)],[])) rfl (fun c _ h=> ?_) (fun q h=> ?_)
 unfold mP at h; refine gco 5 rfl<|xLs rfl<|goc 2 rfl<|cIf h rfl (fun v h=> ?_) (fun v h=> ?_)
 refine gco 5 rfl<|oJn h [(10,31)] [] (fun a=>(.n,[(31,Bo a)],[])) (fun _ h=> ?_) (fun a h=> ?_)
 refine goo 2 rfl<|Nu h rfl rfl rfl rfl rfl (fun u h=> ?_)
 refine xC0 h (uU ·) rfl (fun t h=> ?_)
 refine goo 2 rfl<|oIf 15 h rfl (fun w h=> ?_) (fun w h=> ?_)
 refine goo 3 rfl<|oIf 18 h rfl (fun o h=> ?_) (fun o h=> ?_)
 exact geo; refine goo 2 rfl<|Nu h rfl rfl rfl rfl rfl (fun l h=> ?_)
 refine xC0 h (tT ·) rfl (fun g h=> ?_)
 refine goo 2 rfl<|oIf 24 h rfl (fun p h=> ?_) (fun p h=> ?_)
 refine goo 2 rfl<|Nu h rfl rfl rfl rfl rfl (fun m h=> ?_)
 exact geo; exact geo; exact geo; refine cIf h rfl (fun s h=> ?_) (fun s h=> ?_)
 exact gec; exact gec; exact gec; rcases q with b | ⟨d,f⟩; exact en; refine gco 3 rfl<|xLs rfl<|xC0 h (aW ·) rfl (fun j h=> ?_)
 exact geo
abbrev Fr(p:(List UInt8)→Option (Bool)):Prop:= ∀ {a:List UInt8} {r:Bool},p a=some r→Big Try.prog τ An (.fn 45 [.one (.c (.str a))] [] (.one (.c (.bool r))) none [] none)
def eV(n:Nat)(a:List UInt8):Option (Bool):=
  ((nN n a).bind fun b=>bif b then bif !decide (a=([99,97,115,101]:List UInt8))then bif !decide (a=([111,102]:List UInt8))then some (!decide (a=([101,110,100]:List UInt8)))else some false else some false else some false).bind fun c=>some c
theorem mQ{n:Nat}:Fr (eV n):=by
 intro g r h; unfold eV at h; refine bF Try.func45 rfl rfl<|gco 6 rfl<|oJn h [(2,16)] [] (fun a=>(.n,[(2,Bo a)],[])) (fun _ h=> ?_) (fun a h=> ?_)
 refine xMv rfl<|xC0 h (Em ·) rfl (fun b h=> ?_)
 refine xMv rfl<|oIf 5 h rfl (fun c h=> ?_) (fun c h=> ?_)
 refine goo 4 rfl<|oIf 9 h rfl (fun d h=> ?_) (fun d h=> ?_)
 refine goo 4 rfl<|oIf 13 h rfl (fun f h=> ?_) (fun f h=> ?_)
 exact geo; exact geo; exact geo; exact geo; exact gec
abbrev yW(p:(List Int)→Int→Option (Int)):Prop:= ∀ {a:List Int} {b:Int} {r:Int},p a b=some r→Big Try.prog τ An (.fn 90 [.one (.c (.sl (a.map aR))), .one (.c (.int .i64 b))] [] (.one (.c (.int .i64 r))) none [] none)
def eE(n:Nat)(b:List Int)(d:Int):(Int)→Option ((Int)⊕((Int)⊕(Int×Bool)))
  | a=>bif decide (a<(b.length:Int))then(ix b a).bind fun c=>bif decide (d=c)then some (.inr (.inl a))else some (.inl (IntKind.wrap .i64 (a+(1:Int))))else some (.inr (.inr (a,false)))
def gL(n:Nat)(a:List Int)(b:Int):Option (Int):=
  (loopN (eE n a b) n (0:Int)).bind fun q=>(match q with | .inl c=>some c | .inr (d,f)=>some ((-1):Int))
theorem wP{n:Nat}:yW (gL n):=by
 intro l m r h; unfold gL at h; refine bF Try.func90 rfl rfl<|gco 8 rfl<|xLn rfl<|goc 2 rfl<|cLp h [(4,5),(8,18)] [] (fun b=>([(8,I64 b)],[])) (fun q=>match q with | .inl a=>(.r,[(4,I64 a)],[]) | .inr (c,d)=>(.e 0,[(8,I64 c),(9,Bo d)],[])) rfl (fun b _ h=> ?_) (fun q h=> ?_)
 unfold eE at h; refine gcc 5 rfl<|cIf h rfl (fun g h=> ?_) (fun g h=> ?_)
 refine gco 13 rfl<|xIx h gU rfl (fun f h=> ?_)
 refine goc 3 rfl<|cIf h rfl (fun j h=> ?_) (fun j h=> ?_)
 exact gec; exact gec; exact gec; rcases q with a | ⟨c,d⟩; exact en; exact gec
abbrev uZ(p:(List Int)→Int→Option (Bool)):Prop:= ∀ {a:List Int} {b:Int} {r:Bool},p a b=some r→Big Try.prog τ An (.fn 76 [.one (.c (.sl (a.map aR))), .one (.c (.int .i64 b))] [] (.one (.c (.bool r))) none [] none)
def eF(n:Nat)(b:List Int)(c:Int):Option (Bool):=
  (gL n b c).bind fun a=>some (decide ((0:Int)≤a))
theorem tX{n:Nat}:uZ (eF n):=by
 intro b c r h; unfold eF at h; refine bF Try.func76 rfl rfl<|gco 8 rfl<|xC0 h (wP ·) rfl (fun a h=> ?_)
 exact geo
abbrev Le(p:(List UInt8)→Option (Bool)):Prop:= ∀ {a:List UInt8} {r:Bool},p a=some r→Big Try.prog τ An (.fn 58 [.one (.c (.str a))] [] (.one (.c (.bool r))) none [] none)
def oG(n:Nat)(a:List UInt8):Option (Bool):=
  bif decide (a=([43]:List UInt8))then some true else bif decide (a=([45]:List UInt8))then some true else bif decide (a=([42]:List UInt8))then some true else bif decide (a=([61,61]:List UInt8))then some true else bif decide (a=([60]:List UInt8))then some true else some false
theorem AI{n:Nat}:Le (oG n):=by
 intro g r h; unfold oG at h; refine bF Try.func58 rfl rfl<|gcc 16 rfl<|cIf h rfl (fun a h=> ?_) (fun a h=> ?_)
 exact gec; refine gcc 5 rfl<|cIf h rfl (fun b h=> ?_) (fun b h=> ?_)
 exact gec; refine gcc 5 rfl<|cIf h rfl (fun c h=> ?_) (fun c h=> ?_)
 exact gec; refine gcc 5 rfl<|cIf h rfl (fun d h=> ?_) (fun d h=> ?_)
 exact gec; refine gcc 4 rfl<|cIf h rfl (fun f h=> ?_) (fun f h=> ?_)
 exact gec; exact gec
abbrev Fx(p:Int→Option (Bool)):Prop:= ∀ {a:Int} {r:Bool},p a=some r→Big Try.prog τ An (.fn 97 [.one (.c (.int .u8 a))] [] (.one (.c (.bool r))) none [] none)
def kA(n:Nat)(a:Int):Option (Bool):=
  (bif decide ((65:Int)≤a)then bif decide (a≤(90:Int))then some true else some (decide (a=(95:Int)))else some (decide (a=(95:Int)))).bind fun b=>some b
theorem uV{n:Nat}:Fx (kA n):=by
 intro d r h; unfold kA at h; refine bF Try.func97 rfl rfl<|gco 6 rfl<|oJn h [(2,12)] [] (fun a=>(.n,[(2,Bo a)],[])) (fun _ h=> ?_) (fun a h=> ?_)
 refine goo 3 rfl<|oIf 5 h rfl (fun b h=> ?_) (fun b h=> ?_)
 refine goo 4 rfl<|oIf 9 h rfl (fun c h=> ?_) (fun c h=> ?_)
 exact geo; exact geo; exact geo; exact gec
abbrev BP(p:Int→Option (Bool)):Prop:= ∀ {a:Int} {r:Bool},p a=some r→Big Try.prog τ An (.fn 96 [.one (.c (.int .u8 a))] [] (.one (.c (.bool r))) none [] none)
def iX(n:Nat)(a:Int):Option (Bool):=
  ((iJ n a).bind fun c=>bif c then some true else(kA n a).bind fun d=>bif d then some true else(gH n a).bind fun b=>some b).bind fun f=>some f
theorem yU{n:Nat}:BP (iX n):=by
 intro j r h; unfold iX at h; refine bF Try.func96 rfl rfl<|gco 6 rfl<|oJn h [(2,12)] [] (fun a=>(.n,[(2,Bo a)],[])) (fun _ h=> ?_) (fun a h=> ?_)
 refine xMv rfl<|xC0 h (uU ·) rfl (fun c h=> ?_)
 refine xMv rfl<|oIf 5 h rfl (fun f h=> ?_) (fun f h=> ?_)
 exact geo; refine xMv rfl<|xC0 h (uV ·) rfl (fun d h=> ?_)
 refine goo 2 rfl<|oIf 9 h rfl (fun g h=> ?_) (fun g h=> ?_)
 exact geo; refine xMv rfl<|xC0 h (tT ·) rfl (fun b h=> ?_)
 exact geo; exact gec
abbrev KF(p:(List UInt8)→Option (Bool)):Prop:= ∀ {a:List UInt8} {r:Bool},p a=some r→Big Try.prog τ An (.fn 91 [.one (.c (.str a))] [] (.one (.c (.bool r))) none [] none)
def nT(n:Nat)(b:List UInt8):(Int)→Option ((Int)⊕((Bool)⊕(Int×Bool)))
  | a=>bif decide (a<(b.length:Int))then(ixs b a).bind fun d=>(iX n d).bind fun c=>bif !c then some (.inr (.inl false))else some (.inl (IntKind.wrap .i64 (a+(1:Int))))else some (.inr (.inr (a,false)))
def pD(n:Nat)(a:List UInt8):Option (Bool):=
  (loopN (nT n a) n (0:Int)).bind fun q=>(match q with | .inl f=>some f | .inr (j,l)=>((aQ n (a.length:Int) (1:Int) (20:Int)).bind fun b=>bif b then(ixs a (0:Int)).bind fun d=>(kA n d).bind fun c=>some c else some false).bind fun g=>some g)
theorem FZ{n:Nat}:KF (pD n):=by
 intro u r h; unfold pD at h; refine bF Try.func91 rfl rfl<|gcc 9 rfl<|cLp h [(2,14)] [] (fun c=>([(3,I64 c)],[])) (fun q=>match q with | .inl a=>(.r,[(2,Bo a)],[]) | .inr (d,f)=>(.e 0,[(3,I64 d),(7,Bo f)],[])) rfl (fun c _ h=> ?_) (fun q h=> ?_)
 unfold nT at h; refine gco 5 rfl<|xLs rfl<|goc 2 rfl<|cIf h rfl (fun s h=> ?_) (fun s h=> ?_)
 refine gco 7 rfl<|Nu h rfl rfl rfl rfl rfl (fun p h=> ?_)
 refine xC0 h (yU ·) rfl (fun o h=> ?_)
 refine goc 2 rfl<|cIf h rfl (fun t h=> ?_) (fun t h=> ?_)
 exact gec; exact gec; exact gec; rcases q with a | ⟨d,f⟩; exact en; refine cRs<|oJn h [(2,2),(15,22)] [] (fun b=>(.n,[(2,Bo b)],[])) (fun _ h=> ?_) (fun b h=> ?_)
 refine xMv rfl<|xLs rfl<|xC0 h (aW ·) rfl (fun g h=> ?_)
 refine xMv rfl<|oIf 18 h rfl (fun m h=> ?_) (fun m h=> ?_)
 refine xMv rfl<|Nu h rfl rfl rfl rfl rfl (fun l h=> ?_)
 refine xC0 h (uV ·) rfl (fun j h=> ?_)
 exact geo; exact geo; exact gec
abbrev Ft(p:Int→Int→(List UInt8)→Int→Option (Bool)):Prop:= ∀ {a b:Int} {d:List UInt8} {f:Int} {r:Bool},p a b d f=some r→Big Try.prog τ An (.fn 77 [.one (.c (.int .i64 a)), .one (.c (.int .i64 b)), .one (.c (.str d)), .one (.c (.int .i64 f))] [] (.one (.c (.bool r))) none [] none)
def mD(n:Nat)(a:Int)(b:Int)(c:List UInt8)(d:Int):Option (Bool):=
  bif decide (a=(1:Int))then((aQ n b (0:Int) (1000000000000:Int)).bind fun m=>bif m then bif decide (c=([]:List UInt8))then some (decide (d=(0:Int)))else some false else some false).bind fun z=>some z else bif decide (a=(2:Int))then(bif decide (b=(0:Int))then(eV n c).bind fun o=>bif o then some (decide (d=(0:Int)))else some false else some false).bind fun A=>some A else bif decide (a=(3:Int))then(bif decide (b=(0:Int))then(pD n c).bind fun f=>bif f then some (decide (d=(0:Int)))else some false else some false).bind fun p=>some p else bif decide (a=(4:Int))then(bif decide (b=(0:Int))then bif decide (c=([]:List UInt8))then some (decide (d≤(20:Int)))else some false else some false).bind fun s=>some s else bif decide (a=(5:Int))then(bif decide (b=(0:Int))then bif decide (c=([]:List UInt8))then some (decide (d≤(20:Int)))else some false else some false).bind fun t=>some t else bif decide (a=(6:Int))then(bif decide (b=(0:Int))then bif decide (c=([]:List UInt8))then(aQ n d (2:Int) (6:Int)).bind fun g=>some g else some false else some false).bind fun u=>some u else bif decide (a=(7:Int))then(bif decide (b=(0:Int))then(oG n c).bind fun j=>bif j then some (decide (d=(2:Int)))else some false else some false).bind fun v=>some v else bif decide (a=(8:Int))then(bif decide (b=(0:Int))then(eV n c).bind fun l=>bif l then some (decide (d≤(4:Int)))else some false else some false).bind fun w=>some w else bif decide (a=(9:Int))then(bif decide (b=(0:Int))then bif decide (c=([]:List UInt8))then some (decide (d=(1:Int)))else some false else some false).bind fun y=>some y else some false
theorem Cm{n:Nat}:Ft (mD n):=by
 intro a2 a3 a4 a5 r h; unfold mD at h; refine bF Try.func77 rfl rfl<|gcc 15 rfl<|cIf h rfl (fun X h=> ?_) (fun X h=> ?_)
 refine cRs<|oJn h [(8,8),(12,21)] [] (fun l=>(.n,[(8,Bo l)],[])) (fun _ h=> ?_) (fun l h=> ?_)
 refine xMv rfl<|xC0 h (aW ·) rfl (fun V h=> ?_)
 refine xMv rfl<|oIf 14 h rfl (fun Y h=> ?_) (fun Y h=> ?_)
 refine goo 4 rfl<|oIf 18 h rfl (fun Z h=> ?_) (fun Z h=> ?_)
 exact geo; exact geo; exact geo; exact gec; refine gcc 5 rfl<|cIf h rfl (fun q6 h=> ?_) (fun q6 h=> ?_)
 refine cRs<|oJn h [(8,8),(24,33)] [] (fun m=>(.n,[(8,Bo m)],[])) (fun _ h=> ?_) (fun m h=> ?_)
 refine goo 3 rfl<|oIf 26 h rfl (fun q8 h=> ?_) (fun q8 h=> ?_)
 refine xMv rfl<|xC0 h (mQ ·) rfl (fun W h=> ?_)
 refine goo 2 rfl<|oIf 30 h rfl (fun u h=> ?_) (fun u h=> ?_)
 exact geo; exact geo; exact geo; exact gec; refine gcc 5 rfl<|cIf h rfl (fun v h=> ?_) (fun v h=> ?_)
 refine cRs<|oJn h [(8,8),(36,45)] [] (fun a=>(.n,[(8,Bo a)],[])) (fun _ h=> ?_) (fun a h=> ?_)
 refine goo 3 rfl<|oIf 38 h rfl (fun w h=> ?_) (fun w h=> ?_)
 refine xMv rfl<|xC0 h (FZ ·) rfl (fun o h=> ?_)
 refine goo 2 rfl<|oIf 42 h rfl (fun y h=> ?_) (fun y h=> ?_)
 exact geo; exact geo; exact geo; exact gec; refine gcc 6 rfl<|cIf h rfl (fun z h=> ?_) (fun z h=> ?_)
 refine gco 4 rfl<|oJn h [(8,8),(49,58)] [] (fun b=>(.n,[(8,Bo b)],[])) (fun _ h=> ?_) (fun b h=> ?_)
 refine goo 3 rfl<|oIf 51 h rfl (fun A h=> ?_) (fun A h=> ?_)
 refine goo 4 rfl<|oIf 55 h rfl (fun B h=> ?_) (fun B h=> ?_)
 exact geo; exact geo; exact geo; exact gec; refine gcc 4 rfl<|cIf h rfl (fun C h=> ?_) (fun C h=> ?_)
 refine cRs<|oJn h [(8,8),(49,58)] [] (fun c=>(.n,[(8,Bo c)],[])) (fun _ h=> ?_) (fun c h=> ?_)
 refine goo 3 rfl<|oIf 51 h rfl (fun D h=> ?_) (fun D h=> ?_)
 refine goo 4 rfl<|oIf 55 h rfl (fun E h=> ?_) (fun E h=> ?_)
 exact geo; exact geo; exact geo; exact gec; refine gcc 5 rfl<|cIf h rfl (fun G h=> ?_) (fun G h=> ?_)
 refine cRs<|oJn h [(8,8),(61,70)] [] (fun d=>(.n,[(8,Bo d)],[])) (fun _ h=> ?_) (fun d h=> ?_)
 refine goo 3 rfl<|oIf 63 h rfl (fun H h=> ?_) (fun H h=> ?_)
 refine goo 4 rfl<|oIf 67 h rfl (fun I h=> ?_) (fun I h=> ?_)
 refine xMv rfl<|xC0 h (aW ·) rfl (fun p h=> ?_)
 exact geo; exact geo; exact geo; exact gec; refine gcc 5 rfl<|cIf h rfl (fun J h=> ?_) (fun J h=> ?_)
 refine cRs<|oJn h [(8,8),(73,82)] [] (fun f=>(.n,[(8,Bo f)],[])) (fun _ h=> ?_) (fun f h=> ?_)
 refine goo 3 rfl<|oIf 75 h rfl (fun K h=> ?_) (fun K h=> ?_)
 refine xMv rfl<|xC0 h (AI ·) rfl (fun s h=> ?_)
 refine goo 2 rfl<|oIf 79 h rfl (fun L h=> ?_) (fun L h=> ?_)
 exact geo; exact geo; exact geo; exact gec; refine gcc 5 rfl<|cIf h rfl (fun M h=> ?_) (fun M h=> ?_)
 refine cRs<|oJn h [(8,8),(85,94)] [] (fun g=>(.n,[(8,Bo g)],[])) (fun _ h=> ?_) (fun g h=> ?_)
 refine goo 3 rfl<|oIf 87 h rfl (fun N h=> ?_) (fun N h=> ?_)
 refine xMv rfl<|xC0 h (mQ ·) rfl (fun t h=> ?_)
 refine goo 2 rfl<|oIf 91 h rfl (fun Q h=> ?_) (fun Q h=> ?_)
 exact geo; exact geo; exact geo; exact gec; refine gcc 5 rfl<|cIf h rfl (fun R h=> ?_) (fun R h=> ?_)
 refine cRs<|oJn h [(8,8),(97,106)] [] (fun j=>(.n,[(8,Bo j)],[])) (fun _ h=> ?_) (fun j h=> ?_)
 refine goo 3 rfl<|oIf 99 h rfl (fun T h=> ?_) (fun T h=> ?_)
 refine goo 4 rfl<|oIf 103 h rfl (fun U h=> ?_) (fun U h=> ?_)
 exact geo; exact geo; exact geo; exact gec; exact gec
abbrev fH:Type:=Int→Int→(List UInt8)→(List aA)→Int→Int→Int→(List Int)→Option (Bool×Int×Int×(List Int))
abbrev kK(p:fH):Prop:= ∀ {f g:Int} {j:List UInt8} {l:List aA} {m a b:Int} {d:List Int} {r:Bool×Int×Int×(List Int)},p f g j l m a b d=some r→Big Try.prog τ An (.fn 61 [.one (.ptr 1000000 0), .one (.ag [.int .i64 f, .int .i64 g, .str j, .sl (l.map aH)]), .one (.c (.int .i64 m))] [[.int .i64 a, .int .i64 b, .sl (d.map aR)]] (.one (.c (.bool r.1))) none [[.int .i64 r.2.1, .int .i64 r.2.2.1, .sl (r.2.2.2.map aR)]] none)
def dT(n:Nat)(b:fH)(m:Int)(l:List aA):(Int×Int×Int×(List Int))→Option ((Int×Int×Int×(List Int))⊕((Bool×Int×Int×(List Int))⊕(Int×Bool×Int×Int×(List Int))))
  | (j,c,d,f)=>bif decide (j<(l.length:Int))then(ix l j).bind fun g=>(b g.f0 g.f1 g.f2 g.f3 (IntKind.wrap .i64 (m+(1:Int))) c d f).bind fun a=>bif !a.1 then some (.inr (.inl (false,a.2.1,a.2.2.1,a.2.2.2)))else some (.inl ((IntKind.wrap .i64 (j+(1:Int))),a.2.1,a.2.2.1,a.2.2.2))else some (.inr (.inr (j,false,c,d,f)))
def iB(n:Nat)(a:fH)(s:Int)(f:Int)(w:List UInt8)(t:List aA)(y:Int)(b:Int)(c:Int)(d:List Int):Option (Bool×Int×Int×(List Int)):=
  (bif decide ((10:Int)<y)then some true else some (decide ((300:Int)<(IntKind.wrap .i64 (c+(1:Int)))))).bind fun C=>bif C then some (false,b,(IntKind.wrap .i64 (c+(1:Int))),d)else bif decide (s=(3:Int))then((aQ n f ((-1):Int) (IntKind.wrap .i64 (b - (1:Int)))).bind fun B=>bif !B then some true else bif !decide (w=([]:List UInt8))then some true else bif decide ((0:Int)<(t.length:Int))then some true else bif decide ((0:Int)≤f)then(eF n d f).bind fun u=>some u else some false).bind fun D=>bif D then some (false,b,(IntKind.wrap .i64 (c+(1:Int))),d)else(dG 8 d ([f]:List Int)).bind fun z=>some (true,b,(IntKind.wrap .i64 (c+(1:Int))),z)else(bif decide ((6:Int)<s)then some true else(mD n s f w (t.length:Int)).bind fun v=>some (!v)).bind fun A=>bif A then some (false,b,(IntKind.wrap .i64 (c+(1:Int))),d)else(loopN (dT n a y t) n ((0:Int),b,(IntKind.wrap .i64 (c+(1:Int))),d)).bind fun q=>(match q with | .inl (E,g,j,l)=>some (E,g,j,l) | .inr (G,H,m,o,p)=>some (true,m,o,p))
theorem wL{n:Nat}{a:fH}(b:kK a):kK (iB n a):=by
 intro a2 B a3 a4 a5 T U V r h; unfold iB at h; refine bF Try.func61 rfl rfl<|gco 19 rfl<|oJn h [(16,24)] [] (fun y=>(.n,[(24,Bo y)],[])) (fun _ h=> ?_) (fun y h=> ?_)
 refine goo 3 rfl<|oIf 18 h rfl (fun W h=> ?_) (fun W h=> ?_)
 exact geo; exact geo; refine cIf h rfl (fun X h=> ?_) (fun X h=> ?_)
 exact gec; refine gcc 8 rfl<|cIf h rfl (fun Y h=> ?_) (fun Y h=> ?_)
 refine gco 3 rfl<|oJn h [(28,61)] [] (fun z=>(.n,[(61,Bo z)],[])) (fun _ h=> ?_) (fun z h=> ?_)
 refine goo 7 rfl<|xC0 h (aW ·) rfl (fun R h=> ?_)
 refine goo 2 rfl<|oIf 37 h rfl (fun Z h=> ?_) (fun Z h=> ?_)
 exact geo; refine goo 5 rfl<|oIf 42 h rfl (fun q8 h=> ?_) (fun q8 h=> ?_)
 exact geo; refine goo 2 rfl<|xLn rfl<|goo 3 rfl<|oIf 48 h rfl (fun q9 h=> ?_) (fun q9 h=> ?_)
 exact geo; refine goo 4 rfl<|oIf 52 h rfl (fun H h=> ?_) (fun H h=> ?_)
 refine goo 6 rfl<|xC0 h (tX ·) rfl (fun D h=> ?_)
 exact geo; exact geo; refine cIf h rfl (fun I h=> ?_) (fun I h=> ?_)
 exact gec; refine gco 10 rfl<|cW (L:=([B]:List Int)) (f:=aR) rfl rfl rfl rfl rfl rfl rfl<|wAp (f:=aR) h rfl rfl rfl rfl rfl rfl rfl rfl rfl (fun _=>rfl) rfl (fun Q h=> ?_)
 exact geo; refine gco 4 rfl<|oJn h [(73,88)] [] (fun t=>(.n,[(88,Bo t)],[])) (fun _ h=> ?_) (fun t h=> ?_)
 refine goo 4 rfl<|oIf 76 h rfl (fun J h=> ?_) (fun J h=> ?_)
 exact geo; refine goo 8 rfl<|xLn rfl<|xC0 h (Cm ·) rfl (fun E h=> ?_)
 exact geo; refine cIf h rfl (fun K h=> ?_) (fun K h=> ?_)
 exact gec; refine gco 6 rfl<|xLn rfl<|goc 2 rfl<|cLp h [(6,6),(8,8),(92,102)] [(8,8),(1000000,1000000)] (fun(u,c,d,g)=>([(92,I64 u)],[(1000000,[.int .i64 c, .int .i64 d, .sl (g.map aR)])])) (fun q=>match q with | .inl (A,j,l,m)=>(.r,[(6,Bo A)],[(1000000,[.int .i64 j, .int .i64 l, .sl (m.map aR)])]) | .inr (v,w,o,p,s)=>(.e 0,[(92,I64 v),(93,Bo w)],[(1000000,[.int .i64 o, .int .i64 p, .sl (s.map aR)])])) rfl (fun st _ h=> ?_) (fun q h=> ?_)
 obtain⟨u,c,d,g⟩:=st; unfold dT at h; refine gcc 5 rfl<|cIf h rfl (fun M h=> ?_) (fun M h=> ?_)
 refine gco 5 rfl<|xIx h aX rfl (fun G h=> ?_)
 refine xLd rfl<|xAz [.int .i64 0, .int .i64 0, .str [], .sl ([].map aH)] rfl<|goo 8 rfl<|xC1 h (b ·) rfl (fun C h=> ?_)
 refine goc 2 rfl<|cIf h rfl (fun N h=> ?_) (fun N h=> ?_)
 exact gec; exact gec; exact gec; rcases q with⟨A,j,l,m⟩ | ⟨v,w,o,p,s⟩; exact en; exact gec
def sD:Nat→(fH)
  | 0=>(fun _ _ _ _ _ _ _ _=>none)
  | n+1=>iB n (sD n)
def cQ(n:Nat):fH:=sD n
theorem wN(n:Nat):kK (cQ n):=by
  induction n with
  | zero=>exact(fun h=>nomatch h)
  | succ n ih=>exact wL (n:=n) ih
theorem xL{n:Nat}:kK (cQ n):=(wN n)
theorem uD(n:Nat):cQ (n+1)=iB n (cQ n):=rfl
abbrev GA(p:Int→Int→(List UInt8)→(List aA)→Int→Option (Bool)):Prop:= ∀ {a b:Int} {d:List UInt8} {f:List aA} {g:Int} {r:Bool},p a b d f g=some r→Big Try.prog τ An (.fn 48 [.one (.ag [.int .i64 a, .int .i64 b, .str d, .sl (f.map aH)]), .one (.c (.int .i64 g))] [] (.one (.c (.bool r))) none [] none)
def iK(n:Nat)(d:Int)(f:Int)(g:List UInt8)(j:List aA)(b:Int):Option (Bool):=
  ((aQ n b (0:Int) (400:Int)).bind fun c=>bif c then(cQ n d f g j (1:Int) b (0:Int) ([]:List Int)).bind fun a=>some (a.1,a.2.1,a.2.2.1,a.2.2.2)else some (false,b,(0:Int),([]:List Int))).bind fun(l,m,o,p)=>some l
theorem uW{n:Nat}:GA (iK n):=by
 intro m o p s f r h; unfold iK at h; refine bF Try.func48 rfl rfl<|gco 8 rfl<|wBd [.int .i64 f, .int .i64 0, .sl ([].map aR)] rfl rfl rfl rfl rfl rfl<|xAz [.int .i64 0, .int .i64 0, .sl ([].map aR)] rfl<|goo 4 rfl<|oJn h [(4,4),(8,13)] [(5,5)] (fun(a,b,c,d)=>(.n,[(4,Bo a)],[(5,[.int .i64 b, .int .i64 c, .sl (d.map aR)])])) (fun _ h=> ?_) (fun q h=> ?_)
 refine xMv rfl<|xC0 h (aW ·) rfl (fun j h=> ?_)
 refine xMv rfl<|oIf 10 h rfl (fun l h=> ?_) (fun l h=> ?_)
 refine xLd rfl<|xC1 h (xL ·) rfl (fun g h=> ?_)
 exact geo; exact geo; obtain⟨a,b,c,d⟩:=q; exact gec
abbrev KG(p:(List UInt8)→Int→Int→(List aG)→Int→Int→(List UInt8)→Int→(List aF)→(List aA)→Option (Bool×(List aF)×(List aA))):Prop:= ∀ {d:List UInt8} {f g:Int} {j:List aG} {l m:Int} {o:List UInt8} {s:Int} {a:List aF} {b:List aA} {r:Bool×(List aF)×(List aA)},p d f g j l m o s a b=some r→Big Try.prog τ An (.fn 46 [.one (.ptr 1000000 0), .one (.cp [.str d, .int .i64 f, .int .i64 g, .sl (j.map aK)]), .one (.ag [.int .i64 l, .int .i64 m, .str o, .int .i64 s])] [[.sl (a.map aL), .sl (b.map aH)]] (.one (.c (.bool r.1))) none [[.sl (r.2.1.map aL), .sl (r.2.2.map aH)]] none)
def mW(n:Nat)(U:List UInt8)(V:Int)(B:Int)(Q:List aG)(d:Int)(c:Int)(l:List UInt8)(m:Int)(b:List aF)(a:List aA):Option (Bool×(List aF)×(List aA)):=
  (bif decide (l=([]:List UInt8))then some (decide (m=(0:Int)))else some false).bind fun j=>(aQ n m (0:Int) (IntKind.wrap .i64 ((Q.length:Int) - (1:Int)))).bind fun o=>bif decide (d=(1:Int))then(bif j then(aQ n c (0:Int) (1000000000000:Int)).bind fun C=>some C else some false).bind fun R=>some (R,b,a)else bif decide (d=(2:Int))then(bif decide (c=(0:Int))then(eV n l).bind fun u=>bif u then some (decide (m=(0:Int)))else some false else some false).bind fun T=>some (T,b,a)else bif decide (d=(3:Int))then(bif j then(aQ n c (0:Int) (IntKind.wrap .i64 (B - (1:Int)))).bind fun v=>some v else some false).bind fun D=>some (D,b,a)else bif decide (d=(4:Int))then(bif j then(aQ n c (0:Int) (20:Int)).bind fun w=>some w else some false).bind fun E=>some (E,b,a)else bif decide (d=(5:Int))then(bif j then(aQ n c (0:Int) (20:Int)).bind fun y=>some y else some false).bind fun G=>some (G,b,a)else bif decide (d=(6:Int))then(bif j then(aQ n c (2:Int) (6:Int)).bind fun z=>some z else some false).bind fun H=>some (H,b,a)else bif decide (d=(7:Int))then(bif decide (c=(0:Int))then(oG n l).bind fun A=>bif A then some (decide (m=(0:Int)))else some false else some false).bind fun I=>some (I,b,a)else bif decide (d=(8:Int))then(oH n l b a).bind fun f=>(bif decide ((0:Int)≤f.1)then(ix f.2.1 f.1).bind fun t=>bif decide (t.f1=c)then some (decide (m=(0:Int)))else some false else some false).bind fun J=>some (J,f.2.1,f.2.2)else bif decide (d=(9:Int))then(bif decide (l=([]:List UInt8))then bif o then(aQ n c (0:Int) (IntKind.wrap .i64 ((a.length:Int) - (1:Int)))).bind fun p=>bif p then(ix a c).bind fun g=>(iK n g.f0 g.f1 g.f2 g.f3 B).bind fun s=>some s else some false else some false else some false).bind fun K=>some (K,b,a)else bif decide (d=(10:Int))then(bif decide (l=([]:List UInt8))then bif decide (c=(0:Int))then some o else some false else some false).bind fun L=>some (L,b,a)else bif decide (d=(11:Int))then(bif j then some (decide (c=(0:Int)))else some false).bind fun M=>some (M,b,a)else bif decide (d=(12:Int))then(bif j then some (decide (c=(0:Int)))else some false).bind fun N=>some (N,b,a)else some (false,b,a)
theorem Fa{n:Nat}:KG (mW n):=by
 intro b9 c0 c1 c2 c3 c4 c5 c6 b3 b4 r h; unfold mW at h; refine bF Try.func46 rfl rfl<|gco 7 rfl<|oJn h [(7,7),(10,17)] [] (fun t=>(.n,[(7,Bo t)],[])) (fun _ h=> ?_) (fun t h=> ?_)
 refine goo 4 rfl<|oIf 13 h rfl (fun q2 h=> ?_) (fun q2 h=> ?_)
 exact geo; exact geo; refine gco 8 rfl<|xLn rfl<|RL rfl<|xC0 h (aW ·) rfl (fun b1 h=> ?_)
 refine goc 14 rfl<|cIf h rfl (fun q4 h=> ?_) (fun q4 h=> ?_)
 refine cRs<|oJn h [(6,6),(31,36)] [] (fun p=>(.n,[(6,Bo p)],[])) (fun _ h=> ?_) (fun p h=> ?_)
 refine goo 2 rfl<|oIf 32 h rfl (fun q6 h=> ?_) (fun q6 h=> ?_)
 refine goo 2 rfl<|xC0 h (aW ·) rfl (fun b2 h=> ?_)
 exact geo; exact geo; exact gec; refine gcc 5 rfl<|cIf h rfl (fun q8 h=> ?_) (fun q8 h=> ?_)
 refine cRs<|oJn h [(6,6),(39,51)] [] (fun s=>(.n,[(6,Bo s)],[])) (fun _ h=> ?_) (fun s h=> ?_)
 refine goo 4 rfl<|oIf 42 h rfl (fun H h=> ?_) (fun H h=> ?_)
 refine goo 2 rfl<|xC0 h (mQ ·) rfl (fun A h=> ?_)
 refine goo 2 rfl<|oIf 47 h rfl (fun I h=> ?_) (fun I h=> ?_)
 exact geo; exact geo; exact geo; exact gec; refine gcc 5 rfl<|cIf h rfl (fun J h=> ?_) (fun J h=> ?_)
 refine cRs<|oJn h [(6,6),(54,64)] [] (fun a=>(.n,[(6,Bo a)],[])) (fun _ h=> ?_) (fun a h=> ?_)
 refine goo 2 rfl<|oIf 55 h rfl (fun K h=> ?_) (fun K h=> ?_)
 refine goo 7 rfl<|xC0 h (aW ·) rfl (fun B h=> ?_)
 exact geo; exact geo; exact gec; refine gcc 6 rfl<|cIf h rfl (fun L h=> ?_) (fun L h=> ?_)
 refine gco 4 rfl<|oJn h [(6,6),(68,73)] [] (fun b=>(.n,[(6,Bo b)],[])) (fun _ h=> ?_) (fun b h=> ?_)
 refine goo 2 rfl<|oIf 69 h rfl (fun M h=> ?_) (fun M h=> ?_)
 refine goo 2 rfl<|xC0 h (aW ·) rfl (fun C h=> ?_)
 exact geo; exact geo; exact gec; refine gcc 4 rfl<|cIf h rfl (fun N h=> ?_) (fun N h=> ?_)
 refine cRs<|oJn h [(6,6),(68,73)] [] (fun c=>(.n,[(6,Bo c)],[])) (fun _ h=> ?_) (fun c h=> ?_)
 refine goo 2 rfl<|oIf 69 h rfl (fun Q h=> ?_) (fun Q h=> ?_)
 refine goo 2 rfl<|xC0 h (aW ·) rfl (fun D h=> ?_)
 exact geo; exact geo; exact gec; refine gcc 5 rfl<|cIf h rfl (fun R h=> ?_) (fun R h=> ?_)
 refine cRs<|oJn h [(6,6),(76,81)] [] (fun d=>(.n,[(6,Bo d)],[])) (fun _ h=> ?_) (fun d h=> ?_)
 refine goo 2 rfl<|oIf 77 h rfl (fun T h=> ?_) (fun T h=> ?_)
 refine goo 2 rfl<|xC0 h (aW ·) rfl (fun E h=> ?_)
 exact geo; exact geo; exact gec; refine gcc 5 rfl<|cIf h rfl (fun U h=> ?_) (fun U h=> ?_)
 refine cRs<|oJn h [(6,6),(84,96)] [] (fun f=>(.n,[(6,Bo f)],[])) (fun _ h=> ?_) (fun f h=> ?_)
 refine goo 4 rfl<|oIf 87 h rfl (fun V h=> ?_) (fun V h=> ?_)
 refine goo 2 rfl<|xC0 h (AI ·) rfl (fun G h=> ?_)
 refine goo 2 rfl<|oIf 92 h rfl (fun W h=> ?_) (fun W h=> ?_)
 exact geo; exact geo; exact geo; exact gec; refine gcc 5 rfl<|cIf h rfl (fun X h=> ?_) (fun X h=> ?_)
 refine gco 5 rfl<|xC1 h (AJ ·) rfl (fun u h=> ?_)
 refine goo 4 rfl<|oJn h [(6,6),(103,122)] [] (fun g=>(.n,[(6,Bo g)],[])) (fun _ h=> ?_) (fun g h=> ?_)
 refine goo 3 rfl<|oIf 105 h rfl (fun Y h=> ?_) (fun Y h=> ?_)
 refine goo 5 rfl<|xIx h fV rfl (fun y h=> ?_)
 refine goo 7 rfl<|oIf 118 h rfl (fun Z h=> ?_) (fun Z h=> ?_)
 exact geo; exact geo; exact geo; exact gec; refine gcc 5 rfl<|cIf h rfl (fun a0 h=> ?_) (fun a0 h=> ?_)
 refine cRs<|oJn h [(6,6),(125,156)] [] (fun j=>(.n,[(6,Bo j)],[])) (fun _ h=> ?_) (fun j h=> ?_)
 refine goo 4 rfl<|oIf 128 h rfl (fun a1 h=> ?_) (fun a1 h=> ?_)
 refine goo 3 rfl<|oIf 131 h rfl (fun a2 h=> ?_) (fun a2 h=> ?_)
 refine goo 6 rfl<|xLn rfl<|RL rfl<|xC0 h (aW ·) rfl (fun v h=> ?_)
 refine goo 2 rfl<|oIf 142 h rfl (fun a3 h=> ?_) (fun a3 h=> ?_)
 refine goo 6 rfl<|xIx h aX rfl (fun z h=> ?_)
 refine goo 5 rfl<|xC0 h (uW ·) rfl (fun w h=> ?_)
 exact geo; exact geo; exact geo; exact geo; exact gec; refine gcc 5 rfl<|cIf h rfl (fun a4 h=> ?_) (fun a4 h=> ?_)
 refine cRs<|oJn h [(6,6),(159,169)] [] (fun l=>(.n,[(6,Bo l)],[])) (fun _ h=> ?_) (fun l h=> ?_)
 refine goo 4 rfl<|oIf 162 h rfl (fun a5 h=> ?_) (fun a5 h=> ?_)
 refine goo 5 rfl<|oIf 167 h rfl (fun a6 h=> ?_) (fun a6 h=> ?_)
 exact geo; exact geo; exact geo; exact gec; refine gcc 6 rfl<|cIf h rfl (fun a7 h=> ?_) (fun a7 h=> ?_)
 refine gco 4 rfl<|oJn h [(6,6),(173,178)] [] (fun m=>(.n,[(6,Bo m)],[])) (fun _ h=> ?_) (fun m h=> ?_)
 refine goo 2 rfl<|oIf 174 h rfl (fun a8 h=> ?_) (fun a8 h=> ?_)
 exact geo; exact geo; exact gec; refine gcc 4 rfl<|cIf h rfl (fun a9 h=> ?_) (fun a9 h=> ?_)
 refine cRs<|oJn h [(6,6),(173,178)] [] (fun o=>(.n,[(6,Bo o)],[])) (fun _ h=> ?_) (fun o h=> ?_)
 refine goo 2 rfl<|oIf 174 h rfl (fun b0 h=> ?_) (fun b0 h=> ?_)
 exact geo; exact geo; exact gec; exact gec
abbrev xM(p:Int→Int→(List Int)→Bool→Option ((List Int)×Bool)):Prop:= ∀ {d f:Int} {a:List Int} {b:Bool} {r:(List Int)×Bool},p d f a b=some r→Big Try.prog τ An (.fn 59 [.one (.ptr 1000000 0), .one (.c (.int .i64 d)), .one (.c (.int .i64 f))] [[.sl (a.map aR), .bool b]] (.tup []) none [[.sl (r.1.map aR), .bool r.2]] none)
def bJ(n:Nat)(b:Int)(d:Int)(a:List Int)(f:Bool):Option ((List Int)×Bool):=
  (bif decide ((a.length:Int)≤b)then some true else some (decide ((300:Int)<d))).bind fun l=>bif l then some (a,true)else(ix a b).bind fun g=>bif decide (g<(0:Int))then(ix a b).bind fun m=>(some (a.set (Int.toNat b) d)).bind fun c=>some (c,f)else(ix a b).bind fun j=>bif !decide (j=d)then some (a,true)else some (a,f)
theorem eG{n:Nat}:xM (bJ n):=by
 intro u c l m r h; unfold bJ at h; refine bF Try.func59 rfl rfl<|gco 3 rfl<|oJn h [(6,17)] [] (fun a=>(.n,[(6,Bo a)],[])) (fun _ h=> ?_) (fun a h=> ?_)
 refine goo 5 rfl<|xLn rfl<|goo 2 rfl<|oIf 14 h rfl (fun o h=> ?_) (fun o h=> ?_)
 exact geo; exact geo; refine cIf h rfl (fun p h=> ?_) (fun p h=> ?_)
 exact gec; refine gco 7 rfl<|xIx h gU rfl (fun d h=> ?_)
 refine goc 4 rfl<|cIf h rfl (fun s h=> ?_) (fun s h=> ?_)
 refine gco 4 rfl<|wLa rfl rfl rfl rfl rfl rfl rfl<|goo 2 rfl<|wIp (f:=aR) h rfl rfl rfl rfl rfl rfl (fun _=>rfl) rfl (fun g ke36_6 h=> ?_)
 refine Qi (f:=aR) (v':=c) h ke36_6 rfl rfl rfl rfl rfl rfl rfl rfl rfl (fun b h=> ?_)
 exact geo; refine gco 7 rfl<|xIx h gU rfl (fun j h=> ?_)
 refine goc 5 rfl<|cIf h rfl (fun t h=> ?_) (fun t h=> ?_)
 exact gec; exact gec
abbrev Fs(p:Int→Int→(List UInt8)→Int→Option (Int)):Prop:= ∀ {a b:Int} {d:List UInt8} {f:Int} {r:Int},p a b d f=some r→Big Try.prog τ An (.fn 75 [.one (.ag [.int .i64 a, .int .i64 b, .str d, .int .i64 f])] [] (.one (.c (.int .i64 r))) none [] none)
def jZ(n:Nat)(a:Int)(b:Int)(c:List UInt8)(d:Int):Option (Int):=
  bif decide (a=(4:Int))then some b else bif decide (a=(5:Int))then some b else bif decide (a=(6:Int))then some b else bif decide (a=(8:Int))then some b else bif decide (a=(7:Int))then some (2:Int)else bif decide (a=(9:Int))then some (1:Int)else bif decide (a=(12:Int))then some (1:Int)else some (0:Int)
theorem uT{n:Nat}:Fs (jZ n):=by
 intro l m o p r h; unfold jZ at h; refine bF Try.func75 rfl rfl<|gcc 18 rfl<|cIf h rfl (fun a h=> ?_) (fun a h=> ?_)
 exact gec; refine gcc 5 rfl<|cIf h rfl (fun b h=> ?_) (fun b h=> ?_)
 exact gec; refine gcc 5 rfl<|cIf h rfl (fun c h=> ?_) (fun c h=> ?_)
 exact gec; refine gcc 4 rfl<|cIf h rfl (fun d h=> ?_) (fun d h=> ?_)
 exact gec; refine gcc 5 rfl<|cIf h rfl (fun f h=> ?_) (fun f h=> ?_)
 exact gec; refine gcc 6 rfl<|cIf h rfl (fun g h=> ?_) (fun g h=> ?_)
 exact gec; refine gcc 4 rfl<|cIf h rfl (fun j h=> ?_) (fun j h=> ?_)
 exact gec; exact gec
abbrev wQ(p:Int→Int→Int→(List UInt8)→Int→(List Int)→Bool→Option ((List Int)×Bool)):Prop:= ∀ {d f g:Int} {j:List UInt8} {l:Int} {a:List Int} {b:Bool} {r:(List Int)×Bool},p d f g j l a b=some r→Big Try.prog τ An (.fn 60 [.one (.ptr 1000000 0), .one (.c (.int .i64 d)), .one (.ag [.int .i64 f, .int .i64 g, .str j, .int .i64 l])] [[.sl (a.map aR), .bool b]] (.tup []) none [[.sl (r.1.map aR), .bool r.2]] none)
def fC(n:Nat)(g:Int)(b:Int)(u:Int)(v:List UInt8)(d:Int)(a:List Int)(f:Bool):Option ((List Int)×Bool):=
  (ix a g).bind fun c=>((jZ n b u v d).bind fun w=>bif decide (c<w)then some true else bif decide (b=(9:Int))then some (decide (d≤g))else bif decide (b=(10:Int))then some (decide (d≤g))else some false).bind fun y=>bif y then some (a,true)else bif decide (b=(9:Int))then(bJ n (IntKind.wrap .i64 (g+(1:Int))) (IntKind.wrap .i64 (c - (1:Int))) a f).bind fun s=>(bJ n d c s.1 s.2).bind fun o=>some (o.1,o.2)else bif decide (b=(10:Int))then(bJ n d c a f).bind fun p=>some (p.1,p.2)else bif decide (b=(11:Int))then some (a,f)else bif decide (b=(12:Int))then(bif f then some (a,true)else some (a,(!decide (c=(1:Int))))).bind fun(j,l)=>some (j,l)else(jZ n b u v d).bind fun t=>(bJ n (IntKind.wrap .i64 (g+(1:Int))) (IntKind.wrap .i64 ((IntKind.wrap .i64 (c - t))+(1:Int))) a f).bind fun m=>some (m.1,m.2)
theorem uH{n:Nat}:wQ (fC n):=by
 intro D E G H I v w r h; unfold fC at h; refine bF Try.func60 rfl rfl<|gco 11 rfl<|xIx h gU rfl (fun u h=> ?_)
 refine goo 6 rfl<|oJn h [(14,33)] [] (fun c=>(.n,[(33,Bo c)],[])) (fun _ h=> ?_) (fun c h=> ?_)
 refine goo 2 rfl<|xC0 h (uT ·) rfl (fun s h=> ?_)
 refine goo 2 rfl<|oIf 18 h rfl (fun y h=> ?_) (fun y h=> ?_)
 exact geo; refine goo 4 rfl<|oIf 22 h rfl (fun z h=> ?_) (fun z h=> ?_)
 exact geo; refine goo 5 rfl<|oIf 27 h rfl (fun A h=> ?_) (fun A h=> ?_)
 exact geo; exact geo; refine cIf h rfl (fun B h=> ?_) (fun B h=> ?_)
 exact gec; refine gcc 12 rfl<|cIf h rfl (fun C h=> ?_) (fun C h=> ?_)
 refine gco 7 rfl<|xC1 h (eG ·) rfl (fun t h=> ?_)
 refine goo 6 rfl<|xC1 h (eG ·) rfl (fun g h=> ?_)
 exact geo; refine gcc 5 rfl<|cIf h rfl (fun l h=> ?_) (fun l h=> ?_)
 refine gco 5 rfl<|xC1 h (eG ·) rfl (fun j h=> ?_)
 exact geo; refine gcc 5 rfl<|cIf h rfl (fun m h=> ?_) (fun m h=> ?_)
 exact gec; refine gcc 5 rfl<|cIf h rfl (fun o h=> ?_) (fun o h=> ?_)
 refine cRg<|oJn h [(72,82)] [(1000000,1000000)] (fun(a,b)=>(.n,[],[(1000000,[.sl (a.map aR), .bool b])])) (fun _ h=> ?_) (fun q h=> ?_)
 refine goo 6 rfl<|oIf 77 h rfl (fun p h=> ?_) (fun p h=> ?_)
 exact geo; exact geo; obtain⟨a,b⟩:=q; exact en; refine gco 6 rfl<|xC0 h (uT ·) rfl (fun d h=> ?_)
 refine goo 2 rfl<|xC1 h (eG ·) rfl (fun f h=> ?_)
 exact geo
abbrev Ct(p:(List UInt8)→Int→Int→(List aG)→Option ((List Int)×Bool)):Prop:= ∀ {a:List UInt8} {b d:Int} {f:List aG} {r:(List Int)×Bool},p a b d f=some r→Big Try.prog τ An (.fn 47 [.one (.cp [.str a, .int .i64 b, .int .i64 d, .sl (f.map aK)])] [] (.tup [.c (.sl (r.1.map aR)), .c (.bool r.2)]) none [] none)
def eS(n:Nat)(f:List aG):(Int×(List Int)×Bool)→Option ((Int×(List Int)×Bool)⊕((Int×Bool×(List Int)×Bool)))
  | (a,b,c)=>bif decide (a<((List.replicate (Int.toNat (f.length:Int)) (0:Int)).length:Int))then(ix b a).bind fun g=>(some (b.set (Int.toNat a) ((-1):Int))).bind fun d=>some (.inl ((IntKind.wrap .i64 (a+(1:Int))),d,c))else some (.inr (a,false,b,c))
def eQ(n:Nat)(j:List aG):(Int×(List Int)×Bool)→Option ((Int×(List Int)×Bool)⊕(((List Int)×Bool)⊕(Int×Bool×(List Int)×Bool)))
  | (a,c,d)=>bif decide (a<(j.length:Int))then(ix j a).bind fun b=>(bif d then some true else(ix c a).bind fun g=>some (decide (g<(0:Int)))).bind fun l=>bif l then some (.inr (.inl (([]:List Int),false)))else(fC n a b.f0 b.f1 b.f2 b.f3 c d).bind fun f=>some (.inl ((IntKind.wrap .i64 (a+(1:Int))),f.1,f.2))else some (.inr (.inr (a,false,c,d)))
def jV(n:Nat)(t:List UInt8)(u:Int)(v:Int)(a:List aG):Option ((List Int)×Bool):=
  (ck (decide (0≤(a.length:Int)∧(a.length:Int)≤maxLen∧8*(a.length:Int)≤281474976710656))).bind fun _=>(loopN (eS n a) n ((0:Int),(List.replicate (Int.toNat (a.length:Int)) (0:Int)),false)).bind fun(p,s,j,l)=>(bJ n (0:Int) (0:Int) j l).bind fun b=>(loopN (eQ n a) n ((0:Int),b.1,b.2)).bind fun q=>(match q with | .inl (c,d)=>some (c,d) | .inr (m,o,f,g)=>some (f,(!g)))
theorem Aa{n:Nat}:Ct (jV n):=by
 intro Q R T C r h; unfold jV at h; refine bF Try.func47 rfl rfl<|cRs<|wAe (Li aR []) rfl rfl rfl rfl<|goo 8 rfl<|xLn rfl<|oCk h (fun B h=> ?_)
 refine wMk (z:=(0:Int)) (f:=aR) B rfl rfl rfl rfl rfl rfl rfl<|wBd [.sl ((List.replicate (Int.toNat (C.length:Int)) (0:Int)).map aR), .bool false] rfl rfl rfl rfl rfl rfl<|xAz [.sl ([].map aR), .bool false] rfl<|goo 7 rfl<|xLn rfl<|goc 2 rfl<|cLp h [(5,5),(18,25)] [(4,4)] (fun(g,v,w)=>([(18,I64 g)],[(4,[.sl (v.map aR), .bool w])])) (fun(j,l,y,A)=>(.e 0,[(18,I64 j),(19,Bo l)],[(4,[.sl (y.map aR), .bool A])])) rfl (fun st _ h=> ?_) (fun q h=> ?_)
 obtain⟨g,v,w⟩:=st; unfold eS at h; refine gcc 5 rfl<|cIf h rfl (fun N h=> ?_) (fun N h=> ?_)
 refine gco 10 rfl<|wLa rfl rfl rfl rfl rfl rfl rfl<|xMv rfl<|wIp (f:=aR) h rfl rfl rfl rfl rfl rfl (fun _=>rfl) rfl (fun G ke24_10 h=> ?_)
 refine Qi (f:=aR) (v':=((-1):Int)) h ke24_10 rfl rfl rfl rfl rfl rfl rfl rfl rfl (fun M h=> ?_)
 exact geo; exact gec; obtain⟨j,l,y,A⟩:=q; refine cRs<|xC1 h (eG ·) rfl (fun D h=> ?_)
 refine goo 8 rfl<|xLn rfl<|goc 2 rfl<|cLp h [(2,3),(6,7),(32,50)] [(4,4),(7,7)] (fun(a,p,s)=>([(32,I64 a)],[(4,[.sl (p.map aR), .bool s])])) (fun q=>match q with | .inl (m,o)=>(.r,[(2,Li aR m),(3,Bo o)],[]) | .inr (b,c,t,u)=>(.e 2,[(32,I64 b),(33,Bo c)],[(4,[.sl (t.map aR), .bool u])])) rfl (fun st _ h=> ?_) (fun q h=> ?_)
 obtain⟨a,p,s⟩:=st; unfold eQ at h; refine gcc 5 rfl<|cIf h rfl (fun J h=> ?_) (fun J h=> ?_)
 refine gco 6 rfl<|xIx h iF rfl (fun H h=> ?_)
 refine xLd rfl<|xAc rfl<|goo 6 rfl<|oJn h [(37,46)] [] (fun d=>(.n,[(46,Bo d)],[])) (fun _ h=> ?_) (fun d h=> ?_)
 refine goo 3 rfl<|oIf 39 h rfl (fun K h=> ?_) (fun K h=> ?_)
 exact geo; refine goo 3 rfl<|xIx h gU rfl (fun I h=> ?_)
 exact geo; refine cIf h rfl (fun L h=> ?_) (fun L h=> ?_)
 exact cRs<|wAe (Li aR []) rfl rfl rfl rfl<|geo
 refine gco 4 rfl<|xC1 h (uH ·) rfl (fun E h=> ?_)
 exact geo; exact gec; rcases q with⟨m,o⟩ | ⟨b,c,t,u⟩; exact en; exact gec
abbrev Lf(p:(List UInt8)→Int→Int→(List aG)→(List aF)→(List aA)→Option (Bool×(List aF)×(List aA))):Prop:= ∀ {d:List UInt8} {f g:Int} {j:List aG} {a:List aF} {b:List aA} {r:Bool×(List aF)×(List aA)},p d f g j a b=some r→Big Try.prog τ An (.fn 24 [.one (.ptr 1000000 0), .one (.cp [.str d, .int .i64 f, .int .i64 g, .sl (j.map aK)])] [[.sl (a.map aL), .sl (b.map aH)]] (.one (.c (.bool r.1))) none [[.sl (r.2.1.map aL), .sl (r.2.2.map aH)]] none)
def kB(n:Nat)(j:List UInt8)(l:Int)(m:Int)(g:List aG):(Int×(List aF)×(List aA))→Option ((Int×(List aF)×(List aA))⊕((Bool×(List aF)×(List aA))⊕(Int×Bool×(List aF)×(List aA))))
  | (f,b,c)=>bif decide (f<(g.length:Int))then(ix g f).bind fun d=>(mW n j l m g d.f0 d.f1 d.f2 d.f3 b c).bind fun a=>bif !a.1 then some (.inr (.inl (false,a.2.1,a.2.2)))else some (.inl ((IntKind.wrap .i64 (f+(1:Int))),a.2.1,a.2.2))else some (.inr (.inr (f,false,b,c)))
def rA(n:Nat)(g:List UInt8)(f:Int)(j:Int)(l:List aG)(o:List aF)(p:List aA):Option (Bool×(List aF)×(List aA)):=
  ((eV n g).bind fun s=>bif !s then some true else(aQ n f (0:Int) (4:Int)).bind fun t=>bif !t then some true else(aQ n j f (400:Int)).bind fun u=>bif !u then some true else(aQ n (l.length:Int) (1:Int) (1500:Int)).bind fun v=>some (!v)).bind fun w=>bif w then some (false,o,p)else(loopN (kB n g f j l) n ((0:Int),o,p)).bind fun q=>(match q with | .inl (y,a,b)=>some (y,a,b) | .inr (z,A,c,d)=>(jV n g f j l).bind fun m=>some (m.2,c,d))
theorem Hi{n:Nat}:Lf (rA n):=by
 intro J K L M C D r h; unfold rA at h; refine bF Try.func24 rfl rfl<|gco 7 rfl<|oJn h [(9,43)] [] (fun o=>(.n,[(43,Bo o)],[])) (fun _ h=> ?_) (fun o h=> ?_)
 refine goo 4 rfl<|xC0 h (mQ ·) rfl (fun y h=> ?_)
 refine goo 2 rfl<|oIf 15 h rfl (fun E h=> ?_) (fun E h=> ?_)
 exact geo; refine goo 4 rfl<|xC0 h (aW ·) rfl (fun z h=> ?_)
 refine goo 3 rfl<|oIf 23 h rfl (fun G h=> ?_) (fun G h=> ?_)
 exact geo; refine goo 8 rfl<|xC0 h (aW ·) rfl (fun A h=> ?_)
 refine goo 3 rfl<|oIf 35 h rfl (fun H h=> ?_) (fun H h=> ?_)
 exact geo; refine goo 4 rfl<|xLn rfl<|xC0 h (aW ·) rfl (fun B h=> ?_)
 exact geo; refine cIf h rfl (fun I h=> ?_) (fun I h=> ?_)
 exact gec; refine gco 8 rfl<|xLn rfl<|goc 2 rfl<|cLp h [(4,4),(6,6),(49,58)] [(6,6),(1000000,1000000)] (fun(j,a,b)=>([(49,I64 j)],[(1000000,[.sl (a.map aL), .sl (b.map aH)])])) (fun q=>match q with | .inl (p,c,d)=>(.r,[(4,Bo p)],[(1000000,[.sl (c.map aL), .sl (d.map aH)])]) | .inr (l,m,f,g)=>(.e 0,[(49,I64 l),(50,Bo m)],[(1000000,[.sl (f.map aL), .sl (g.map aH)])])) rfl (fun st _ h=> ?_) (fun q h=> ?_)
 obtain⟨j,a,b⟩:=st; unfold kB at h; refine gcc 5 rfl<|cIf h rfl (fun v h=> ?_) (fun v h=> ?_)
 refine gco 5 rfl<|xIx h iF rfl (fun u h=> ?_)
 refine xLd rfl<|xAc rfl<|goo 7 rfl<|xC1 h (Fa ·) rfl (fun s h=> ?_)
 refine goc 2 rfl<|cIf h rfl (fun w h=> ?_) (fun w h=> ?_)
 exact gec; exact gec; exact gec; rcases q with⟨p,c,d⟩ | ⟨l,m,f,g⟩; exact en; refine gco 3 rfl<|xC0 h (Aa ·) rfl (fun t h=> ?_)
 exact geo
abbrev IG(p:(List aF)→(List aA)→Option (Bool)):Prop:= ∀ {a:List aF} {b:List aA} {r:Bool},p a b=some r→Big Try.prog τ An (.fn 8 [.one (.ag [.sl (a.map aL), .sl (b.map aH)])] [] (.one (.c (.bool r))) none [] none)
def gY(n:Nat)(p:List aF):(Int×(List aF)×(List aA))→Option ((Int×(List aF)×(List aA))⊕((Bool)⊕(Int×Bool×(List aF)×(List aA))))
  | (b,f,l)=>bif decide (b<(p.length:Int))then((ix f b).bind fun g=>(oH n g.f0 f l).bind fun a=>bif !decide (a.1=b)then some (true,a.2.1,a.2.2)else(ix a.2.1 b).bind fun c=>(rA n c.f0 c.f1 c.f2 c.f3 a.2.1 a.2.2).bind fun d=>some ((!d.1),d.2.1,d.2.2)).bind fun(j,m,o)=>bif j then some (.inr (.inl false))else some (.inl ((IntKind.wrap .i64 (b+(1:Int))),m,o))else some (.inr (.inr (b,false,f,l)))
def jC(n:Nat)(a:List aF)(b:List aA):Option (Bool):=
  (bif decide ((12:Int)<(a.length:Int))then some true else some (decide ((2000:Int)<(b.length:Int)))).bind fun c=>bif c then some false else(loopN (gY n a) n ((0:Int),a,b)).bind fun q=>(match q with | .inl d=>some d | .inr (f,g,j,l)=>some true)
theorem rH{n:Nat}:IG (jC n):=by
 intro D E r h; unfold jC at h; refine bF Try.func8 rfl rfl<|gco 8 rfl<|oJn h [(4,13)] [] (fun b=>(.n,[(13,Bo b)],[])) (fun _ h=> ?_) (fun b h=> ?_)
 refine goo 2 rfl<|xLn rfl<|goo 2 rfl<|oIf 8 h rfl (fun B h=> ?_) (fun B h=> ?_)
 exact geo; exact goo 2 rfl<|xLn rfl<|geo
 refine cIf h rfl (fun C h=> ?_) (fun C h=> ?_)
 exact gec; refine gco 6 rfl<|xLn rfl<|goc 2 rfl<|cLp h [(2,3),(17,37)] [(1,1)] (fun(c,p,s)=>([(17,I64 c)],[(1,[.sl (p.map aL), .sl (s.map aH)])])) (fun q=>match q with | .inl o=>(.r,[(2,Bo o)],[]) | .inr (d,f,g,j)=>(.e 0,[(17,I64 d),(18,Bo f)],[(1,[.sl (g.map aL), .sl (j.map aH)])])) rfl (fun st _ h=> ?_) (fun q h=> ?_)
 obtain⟨c,p,s⟩:=st; unfold gY at h; refine gcc 5 rfl<|cIf h rfl (fun y h=> ?_) (fun y h=> ?_)
 refine gco 10 rfl<|oJn h [(20,36)] [(1,1)] (fun(a,l,m)=>(.n,[(36,Bo a)],[(1,[.sl (l.map aL), .sl (m.map aH)])])) (fun _ h=> ?_) (fun q h=> ?_)
 refine goo 3 rfl<|xIx h fV rfl (fun v h=> ?_)
 refine goo 2 rfl<|xC1 h (AJ ·) rfl (fun t h=> ?_)
 refine goo 3 rfl<|oIf 29 h rfl (fun z h=> ?_) (fun z h=> ?_)
 exact geo; refine goo 3 rfl<|xIx h fV rfl (fun w h=> ?_)
 refine xC1 h (Hi ·) rfl (fun u h=> ?_)
 exact geo; obtain⟨a,l,m⟩:=q; refine cIf h rfl (fun A h=> ?_) (fun A h=> ?_)
 exact gec; exact gec; exact gec; rcases q with o | ⟨d,f,g,j⟩; exact en; exact gec
abbrev Fv(p:(List aF)→(List aA)→Option (Bool)):Prop:= ∀ {a:List aF} {b:List aA} {r:Bool},p a b=some r→Big Try.prog τ An (.fn 25 [.one (.ag [.sl (a.map aL), .sl (b.map aH)])] [] (.one (.c (.bool r))) none [] none)
def lM(n:Nat)(c:List aA):(Int)→Option ((Int)⊕((Bool)⊕(Int×Bool)))
  | b=>bif decide (b<(c.length:Int))then(ix c b).bind fun a=>(iK n a.f0 a.f1 a.f2 a.f3 (400:Int)).bind fun d=>bif !d then some (.inr (.inl false))else some (.inl (IntKind.wrap .i64 (b+(1:Int))))else some (.inr (.inr (b,false)))
def mE(n:Nat)(c:List aF)(a:List aA):Option (Bool):=
  (loopN (lM n a) n (0:Int)).bind fun q=>(match q with | .inl b=>some b | .inr (d,f)=>some true)
theorem Cn{n:Nat}:Fv (mE n):=by
 intro m o r h; unfold mE at h; refine bF Try.func25 rfl rfl<|gco 10 rfl<|xLn rfl<|goc 2 rfl<|cLp h [(2,2),(4,4),(8,15)] [(4,4)] (fun b=>([(8,I64 b)],[])) (fun q=>match q with | .inl a=>(.r,[(2,Bo a)],[]) | .inr (c,d)=>(.e 0,[(8,I64 c),(9,Bo d)],[])) rfl (fun b _ h=> ?_) (fun q h=> ?_)
 unfold lM at h; refine gcc 5 rfl<|cIf h rfl (fun j h=> ?_) (fun j h=> ?_)
 refine gco 5 rfl<|xIx h aX rfl (fun g h=> ?_)
 refine xLd rfl<|xAz [.int .i64 0, .int .i64 0, .str [], .sl ([].map aH)] rfl<|goo 5 rfl<|xC0 h (uW ·) rfl (fun f h=> ?_)
 refine goc 2 rfl<|cIf h rfl (fun l h=> ?_) (fun l h=> ?_)
 exact gec; exact gec; exact gec; rcases q with a | ⟨c,d⟩; exact en; exact gec
abbrev IC(p:(List Int)→Int→Option ((List Int))):Prop:= ∀ {a:List Int} {b:Int} {r:(List Int)},p a b=some r→Big Try.prog τ An (.fn 26 [.one (.c (.sl (a.map rI_u8))), .one (.c (.int .i64 b))] [] (.one (.c (.sl (r.map rI_u8)))) none [] none)
def bX(n:Nat):((List Int)×Int)→Option (((List Int)×Int)⊕(((List Int)×Int×Bool)))
  | (b,a)=>bif decide ((127:Int)<a)then(dG 1 b ([(IntKind.wrap .u8 (bits .or .i64 (128:Int) (bits .and .i64 a (127:Int))))]:List Int)).bind fun c=>some (.inl (c,(Int.fdiv a (2 ^ 7))))else some (.inr (b,a,false))
def pS(n:Nat):((List Int)×Int)→Option (((List Int)×Int)⊕(((List Int)×Int×Bool)))
  | (b,a)=>bif decide ((127:Int)<a)then(dG 1 b ([(IntKind.wrap .u8 (bits .or .i64 (128:Int) (bits .and .i64 a (127:Int))))]:List Int)).bind fun c=>some (.inl (c,(Int.fdiv a (2 ^ 7))))else some (.inr (b,a,false))
def bK(n:Nat)(b:List Int)(a:Int):Option ((List Int)):=
  bif decide ((if(if(1000000000000:Int)<a then(1000000000000:Int)else a) > ((-1000000000000):Int)then(if(1000000000000:Int)<a then(1000000000000:Int)else a)else((-1000000000000):Int))<(0:Int))then(loopN (bX n) n (b,(IntKind.wrap .i64 ((IntKind.wrap .i64 (((-2):Int)*(if(if(1000000000000:Int)<a then(1000000000000:Int)else a) > ((-1000000000000):Int)then(if(1000000000000:Int)<a then(1000000000000:Int)else a)else((-1000000000000):Int)))) - (1:Int))))).bind fun(j,l,o)=>(dG 1 j ([(IntKind.wrap .u8 l)]:List Int)).bind fun f=>some f else(loopN (pS n) n (b,(IntKind.wrap .i64 ((2:Int)*(if(if(1000000000000:Int)<a then(1000000000000:Int)else a) > ((-1000000000000):Int)then(if(1000000000000:Int)<a then(1000000000000:Int)else a)else((-1000000000000):Int)))))).bind fun(d,g,m)=>(dG 1 d ([(IntKind.wrap .u8 g)]:List Int)).bind fun c=>some c
theorem cG{n:Nat}:IC (bK n):=by
 intro A B r h; unfold bK at h; refine bF Try.func26 rfl rfl<|cRs<|wAe (Li rI_u8 []) rfl rfl rfl rfl<|goo 4 rfl<|wMn rfl rfl rfl rfl<|wMx rfl rfl rfl rfl<|goc 14 rfl<|cIf h rfl (fun y h=> ?_) (fun y h=> ?_)
 refine gcc 7 rfl<|cLp h [(0,0),(5,5),(16,26)] [] (fun(o,b)=>([(0,Li rI_u8 o),(5,I64 b)],[])) (fun(p,g,m)=>(.e 0,[(0,Li rI_u8 p),(5,I64 g),(17,Bo m)],[])) rfl (fun st _ h=> ?_) (fun q h=> ?_)
 obtain⟨o,b⟩:=st; unfold bX at h; refine gcc 6 rfl<|cIf h rfl (fun z h=> ?_) (fun z h=> ?_)
 refine gco 6 rfl<|wBi (.int .i64 (bits .and .i64 b (127:Int))) rfl rfl rfl rfl rfl<|wBi (.int .i64 (bits .or .i64 (128:Int) (bits .and .i64 b (127:Int)))) rfl rfl rfl rfl rfl<|wCv rfl rfl rfl rfl rfl<|cW (L:=([(IntKind.wrap .u8 (bits .or .i64 (128:Int) (bits .and .i64 b (127:Int))))]:List Int)) (f:=rI_u8) rfl rfl rfl rfl rfl rfl rfl<|wAp (f:=rI_u8) h rfl rfl rfl rfl rfl rfl rfl rfl rfl (fun _=>rfl) rfl (fun v h=> ?_)
 exact goo 4 rfl<|wBi (.int .i64 (Int.fdiv b (2 ^ 7))) rfl rfl rfl rfl rfl<|geo
 exact gec; obtain⟨p,g,m⟩:=q; refine gco 5 rfl<|cW (L:=([(IntKind.wrap .u8 g)]:List Int)) (f:=rI_u8) rfl rfl rfl rfl rfl rfl rfl<|wAp (f:=rI_u8) h rfl rfl rfl rfl rfl rfl rfl rfl rfl (fun _=>rfl) rfl (fun w h=> ?_)
 exact geo; refine gcc 2 rfl<|cLp h [(0,0),(5,5),(16,26)] [] (fun(j,a)=>([(0,Li rI_u8 j),(5,I64 a)],[])) (fun(l,c,d)=>(.e 0,[(0,Li rI_u8 l),(5,I64 c),(17,Bo d)],[])) rfl (fun st _ h=> ?_) (fun q h=> ?_)
 obtain⟨j,a⟩:=st; unfold pS at h; refine gcc 6 rfl<|cIf h rfl (fun s h=> ?_) (fun s h=> ?_)
 refine gco 6 rfl<|wBi (.int .i64 (bits .and .i64 a (127:Int))) rfl rfl rfl rfl rfl<|wBi (.int .i64 (bits .or .i64 (128:Int) (bits .and .i64 a (127:Int)))) rfl rfl rfl rfl rfl<|wCv rfl rfl rfl rfl rfl<|cW (L:=([(IntKind.wrap .u8 (bits .or .i64 (128:Int) (bits .and .i64 a (127:Int))))]:List Int)) (f:=rI_u8) rfl rfl rfl rfl rfl rfl rfl<|wAp (f:=rI_u8) h rfl rfl rfl rfl rfl rfl rfl rfl rfl (fun _=>rfl) rfl (fun t h=> ?_)
 exact goo 4 rfl<|wBi (.int .i64 (Int.fdiv a (2 ^ 7))) rfl rfl rfl rfl rfl<|geo
 exact gec; obtain⟨l,c,d⟩:=q; refine gco 5 rfl<|cW (L:=([(IntKind.wrap .u8 c)]:List Int)) (f:=rI_u8) rfl rfl rfl rfl rfl rfl rfl<|wAp (f:=rI_u8) h rfl rfl rfl rfl rfl rfl rfl rfl rfl (fun _=>rfl) rfl (fun u h=> ?_)
 exact geo
abbrev Fu(p:(List Int)→(List UInt8)→Option ((List Int))):Prop:= ∀ {a:List Int} {b:List UInt8} {r:(List Int)},p a b=some r→Big Try.prog τ An (.fn 27 [.one (.c (.sl (a.map rI_u8))), .one (.c (.str b))] [] (.one (.c (.sl (r.map rI_u8)))) none [] none)
def eW(n:Nat)(f:List Int)(a:List UInt8):Option ((List Int)):=
  (bK n f (a.length:Int)).bind fun d=>(dG 1 d (a.map fun c=>((c.toNat:Nat):Int))).bind fun b=>some b
theorem pU{n:Nat}:Fu (eW n):=by
 intro c d r h; unfold eW at h; refine bF Try.func27 rfl rfl<|cRs<|wAe (Li rI_u8 []) rfl rfl rfl rfl<|goo 5 rfl<|xLs rfl<|xC0 h (cG ·) rfl (fun b h=> ?_)
 refine xMv rfl<|wAps (f:=rI_u8) h rfl rfl rfl rfl rfl (fun _=>rfl) rfl (fun _=>rfl) rfl (fun a h=> ?_)
 exact geo
abbrev lE:Type:=(List Int)→Int→Int→(List UInt8)→(List aA)→Option ((List Int))
abbrev qP(p:lE):Prop:= ∀ {a:List Int} {b d:Int} {f:List UInt8} {g:List aA} {r:(List Int)},p a b d f g=some r→Big Try.prog τ An (.fn 28 [.one (.c (.sl (a.map rI_u8))), .one (.ag [.int .i64 b, .int .i64 d, .str f, .sl (g.map aH)])] [] (.one (.c (.sl (r.map rI_u8)))) none [] none)
def fQ(n:Nat)(b:lE)(f:List aA):((List Int)×Int)→Option (((List Int)×Int)⊕(((List Int)×Int×Bool)))
  | (g,c)=>bif decide (c<(f.length:Int))then(ix f c).bind fun a=>(b g a.f0 a.f1 a.f2 a.f3).bind fun d=>some (.inl (d,(IntKind.wrap .i64 (c+(1:Int)))))else some (.inr (g,c,false))
def kU(n:Nat)(a:lE)(j:List Int)(l:Int)(m:Int)(o:List UInt8)(b:List aA):Option ((List Int)):=
  (bK n j l).bind fun c=>(bK n c m).bind fun d=>(eW n d o).bind fun f=>(bK n f (b.length:Int)).bind fun g=>(loopN (fQ n a b) n (g,(0:Int))).bind fun(p,s,t)=>some p
theorem CT{n:Nat}{a:lE}(b:qP a):qP (kU n a):=by
 intro v w y z A r h; unfold kU at h; refine bF Try.func28 rfl rfl<|gco 3 rfl<|wAe (Li rI_u8 []) rfl rfl rfl rfl<|goo 6 rfl<|xC0 h (cG ·) rfl (fun p h=> ?_)
 refine goo 2 rfl<|xC0 h (cG ·) rfl (fun s h=> ?_)
 refine goo 2 rfl<|xC0 h (pU ·) rfl (fun t h=> ?_)
 refine goo 2 rfl<|xLn rfl<|xC0 h (cG ·) rfl (fun u h=> ?_)
 refine goo 7 rfl<|xLn rfl<|goc 2 rfl<|cLp h [(0,0),(6,6),(24,31)] [(6,6)] (fun(g,c)=>([(0,Li rI_u8 g),(24,I64 c)],[])) (fun(j,d,f)=>(.e 0,[(0,Li rI_u8 j),(24,I64 d),(25,Bo f)],[])) rfl (fun st _ h=> ?_) (fun q h=> ?_)
 obtain⟨g,c⟩:=st; unfold fQ at h; refine gcc 5 rfl<|cIf h rfl (fun o h=> ?_) (fun o h=> ?_)
 refine gco 5 rfl<|xIx h aX rfl (fun m h=> ?_)
 refine xLd rfl<|xAz [.int .i64 0, .int .i64 0, .str [], .sl ([].map aH)] rfl<|goo 5 rfl<|xC0 h (b ·) rfl (fun l h=> ?_)
 exact geo; exact gec; obtain⟨j,d,f⟩:=q; exact gec
def AF:Nat→(lE)
  | 0=>(fun _ _ _ _ _=>none)
  | n+1=>kU n (AF n)
def hI(n:Nat):lE:=AF n
theorem CZ(n:Nat):qP (hI n):=by
  induction n with
  | zero=>exact(fun h=>nomatch h)
  | succ n ih=>exact CT (n:=n) ih
theorem Ej{n:Nat}:qP (hI n):=(CZ n)
theorem sE(n:Nat):hI (n+1)=kU n (hI n):=rfl
abbrev Fz(p:(List aF)→(List aA)→Option ((List Int))):Prop:= ∀ {a:List aF} {b:List aA} {r:(List Int)},p a b=some r→Big Try.prog τ An (.fn 10 [.one (.ag [.sl (a.map aL), .sl (b.map aH)])] [] (.one (.c (.sl (r.map rI_u8)))) none [] none)
def dP(n:Nat)(c:aF):((List Int)×Int)→Option (((List Int)×Int)⊕(((List Int)×Int×Bool)))
  | (d,b)=>bif decide (b<(c.f3.length:Int))then(ix c.f3 b).bind fun a=>(bK n d a.f0).bind fun f=>(bK n f a.f1).bind fun g=>(eW n g a.f2).bind fun j=>(bK n j a.f3).bind fun l=>some (.inl (l,(IntKind.wrap .i64 (b+(1:Int)))))else some (.inr (d,b,false))
def eK(n:Nat)(j:List aF):((List Int)×Int)→Option (((List Int)×Int)⊕(((List Int)×Int×Bool)))
  | (l,b)=>bif decide (b<(j.length:Int))then(ix j b).bind fun a=>(eW n l a.f0).bind fun c=>(bK n c a.f1).bind fun d=>(bK n d a.f2).bind fun f=>(bK n f (a.f3.length:Int)).bind fun g=>(loopN (dP n a) n (g,(0:Int))).bind fun(m,o,p)=>some (.inl (m,(IntKind.wrap .i64 (b+(1:Int)))))else some (.inr (l,b,false))
def dO(n:Nat)(f:List aA):((List Int)×Int)→Option (((List Int)×Int)⊕(((List Int)×Int×Bool)))
  | (c,b)=>bif decide (b<(f.length:Int))then(ix f b).bind fun a=>(hI n c a.f0 a.f1 a.f2 a.f3).bind fun d=>some (.inl (d,(IntKind.wrap .i64 (b+(1:Int)))))else some (.inr (c,b,false))
def cL(n:Nat)(a:List aF)(b:List aA):Option ((List Int)):=
  ((jC n a b).bind fun d=>bif !d then some true else(mE n a b).bind fun f=>some (!f)).bind fun j=>bif j then some ([]:List Int)else(bK n ([]:List Int) (a.length:Int)).bind fun g=>(loopN (eK n a) n (g,(0:Int))).bind fun(m,o,p)=>(bK n m (b.length:Int)).bind fun c=>(loopN (dO n b) n (c,(0:Int))).bind fun(l,s,t)=>some l
theorem pV{n:Nat}:Fz (cL n):=by
 intro X Y r h; unfold cL at h; refine bF Try.func10 rfl rfl<|gco 3 rfl<|wAe (Li rI_u8 []) rfl rfl rfl rfl<|goo 4 rfl<|oJn h [(10,17)] [] (fun m=>(.n,[(17,Bo m)],[])) (fun _ h=> ?_) (fun m h=> ?_)
 refine xLd rfl<|xC0 h (rH ·) rfl (fun R h=> ?_)
 refine goo 2 rfl<|oIf 13 h rfl (fun V h=> ?_) (fun V h=> ?_)
 exact geo; refine xLd rfl<|xC0 h (Cn ·) rfl (fun T h=> ?_)
 exact geo; refine cIf h rfl (fun W h=> ?_) (fun W h=> ?_)
 exact cRs<|wAe (Li rI_u8 []) rfl rfl rfl rfl<|geo
 refine gco 5 rfl<|xLn rfl<|xC0 h (cG ·) rfl (fun U h=> ?_)
 refine goo 7 rfl<|xLn rfl<|goc 2 rfl<|cLp h [(3,3),(5,5),(7,7),(25,64)] [(5,5),(7,7)] (fun(v,o)=>([(3,Li rI_u8 v),(25,I64 o)],[])) (fun(w,a,b)=>(.e 0,[(3,Li rI_u8 w),(25,I64 a),(26,Bo b)],[])) rfl (fun st _ h=> ?_) (fun q h=> ?_)
 obtain⟨v,o⟩:=st; unfold eK at h; refine gcc 5 rfl<|cIf h rfl (fun M h=> ?_) (fun M h=> ?_)
 refine gco 5 rfl<|xIx h fV rfl (fun J h=> ?_)
 refine xLd rfl<|xAz [.str [], .int .i64 0, .int .i64 0, .sl ([].map aK)] rfl<|goo 7 rfl<|xC0 h (pU ·) rfl (fun y h=> ?_)
 refine goo 2 rfl<|xC0 h (cG ·) rfl (fun z h=> ?_)
 refine goo 2 rfl<|xC0 h (cG ·) rfl (fun A h=> ?_)
 refine goo 2 rfl<|xLn rfl<|xC0 h (cG ·) rfl (fun B h=> ?_)
 refine goo 6 rfl<|xLn rfl<|goc 2 rfl<|cLp h [(3,3),(7,7),(46,63)] [(7,7)] (fun(p,c)=>([(3,Li rI_u8 p),(46,I64 c)],[])) (fun(s,d,f)=>(.e 2,[(3,Li rI_u8 s),(46,I64 d),(47,Bo f)],[])) rfl (fun st _ h=> ?_) (fun q h=> ?_)
 obtain⟨p,c⟩:=st; unfold dP at h; refine gcc 5 rfl<|cIf h rfl (fun N h=> ?_) (fun N h=> ?_)
 refine gco 5 rfl<|xIx h iF rfl (fun K h=> ?_)
 refine xLd rfl<|xAc rfl<|goo 6 rfl<|xC0 h (cG ·) rfl (fun C h=> ?_)
 refine goo 2 rfl<|xC0 h (cG ·) rfl (fun D h=> ?_)
 refine goo 2 rfl<|xC0 h (pU ·) rfl (fun E h=> ?_)
 refine goo 2 rfl<|xC0 h (cG ·) rfl (fun G h=> ?_)
 exact geo; exact gec; obtain⟨s,d,f⟩:=q; exact gec; exact gec; obtain⟨w,a,b⟩:=q; refine gco 5 rfl<|xLn rfl<|xC0 h (cG ·) rfl (fun H h=> ?_)
 refine goo 7 rfl<|xLn rfl<|goc 2 rfl<|cLp h [(3,3),(9,9),(73,80)] [(9,9)] (fun(t,g)=>([(3,Li rI_u8 t),(73,I64 g)],[])) (fun(u,j,l)=>(.e 4,[(3,Li rI_u8 u),(73,I64 j),(74,Bo l)],[])) rfl (fun st _ h=> ?_) (fun q h=> ?_)
 obtain⟨t,g⟩:=st; unfold dO at h; refine gcc 5 rfl<|cIf h rfl (fun Q h=> ?_) (fun Q h=> ?_)
 refine gco 5 rfl<|xIx h aX rfl (fun L h=> ?_)
 refine xLd rfl<|xAz [.int .i64 0, .int .i64 0, .str [], .sl ([].map aH)] rfl<|goo 5 rfl<|xC0 h (Ej ·) rfl (fun I h=> ?_)
 exact geo; exact gec; obtain⟨u,j,l⟩:=q; exact gec
abbrev IE(p:(List Int)→Int→Option (Int×Int×Bool)):Prop:= ∀ {a:List Int} {b:Int} {r:Int×Int×Bool},p a b=some r→Big Try.prog τ An (.fn 54 [.one (.c (.sl (a.map rI_u8))), .one (.c (.int .i64 b))] [] (.tup [.c (.int .i64 r.1), .c (.int .i64 r.2.1), .c (.bool r.2.2)]) none [] none)
def fR(n:Nat)(m:List Int):(Int×Int×Int)→Option ((Int×Int×Int)⊕((Int×Int×Bool)⊕(Int×Int×Int×Bool)))
  | (d,c,b)=>(bif decide (b<(6:Int))then some (decide (d<(m.length:Int)))else some false).bind fun o=>bif o then(ix m d).bind fun a=>(ck (decide (0≤(IntKind.wrap .u64 (IntKind.wrap .i64 ((7:Int)*b)))))).bind fun _=>bif decide ((128:Int)≤(IntKind.wrap .i64 a))then some (.inl ((IntKind.wrap .i64 (d+(1:Int))),(bits .or .i64 c (IntKind.wrap .i64 ((bits .and .i64 (IntKind.wrap .i64 a) (127:Int))*2 ^ min (Int.toNat (IntKind.wrap .u64 (IntKind.wrap .i64 ((7:Int)*b)))) 64))),(IntKind.wrap .i64 (b+(1:Int)))))else bif decide ((Int.tmod (bits .or .i64 c (IntKind.wrap .i64 ((bits .and .i64 (IntKind.wrap .i64 a) (127:Int))*2 ^ min (Int.toNat (IntKind.wrap .u64 (IntKind.wrap .i64 ((7:Int)*b)))) 64))) (2:Int))=(1:Int))then(bif decide ((IntKind.wrap .i64 a)=(0:Int))then bif decide ((0:Int)<b)then some true else(aQ n (IntKind.wrap .i64 (Int.tdiv (IntKind.wrap .i64 (0 - (IntKind.wrap .i64 ((bits .or .i64 c (IntKind.wrap .i64 ((bits .and .i64 (IntKind.wrap .i64 a) (127:Int))*2 ^ min (Int.toNat (IntKind.wrap .u64 (IntKind.wrap .i64 ((7:Int)*b)))) 64)))+(1:Int))))) (2:Int))) ((-1000000000000):Int) (1000000000000:Int)).bind fun f=>some (!f)else(aQ n (IntKind.wrap .i64 (Int.tdiv (IntKind.wrap .i64 (0 - (IntKind.wrap .i64 ((bits .or .i64 c (IntKind.wrap .i64 ((bits .and .i64 (IntKind.wrap .i64 a) (127:Int))*2 ^ min (Int.toNat (IntKind.wrap .u64 (IntKind.wrap .i64 ((7:Int)*b)))) 64)))+(1:Int))))) (2:Int))) ((-1000000000000):Int) (1000000000000:Int)).bind fun g=>some (!g)).bind fun p=>bif p then some (.inr (.inl ((0:Int),(0:Int),false)))else some (.inr (.inl ((IntKind.wrap .i64 (Int.tdiv (IntKind.wrap .i64 (0 - (IntKind.wrap .i64 ((bits .or .i64 c (IntKind.wrap .i64 ((bits .and .i64 (IntKind.wrap .i64 a) (127:Int))*2 ^ min (Int.toNat (IntKind.wrap .u64 (IntKind.wrap .i64 ((7:Int)*b)))) 64)))+(1:Int))))) (2:Int))),(IntKind.wrap .i64 (d+(1:Int))),true)))else(bif decide ((IntKind.wrap .i64 a)=(0:Int))then bif decide ((0:Int)<b)then some true else(aQ n (IntKind.wrap .i64 (Int.tdiv (bits .or .i64 c (IntKind.wrap .i64 ((bits .and .i64 (IntKind.wrap .i64 a) (127:Int))*2 ^ min (Int.toNat (IntKind.wrap .u64 (IntKind.wrap .i64 ((7:Int)*b)))) 64))) (2:Int))) ((-1000000000000):Int) (1000000000000:Int)).bind fun j=>some (!j)else(aQ n (IntKind.wrap .i64 (Int.tdiv (bits .or .i64 c (IntKind.wrap .i64 ((bits .and .i64 (IntKind.wrap .i64 a) (127:Int))*2 ^ min (Int.toNat (IntKind.wrap .u64 (IntKind.wrap .i64 ((7:Int)*b)))) 64))) (2:Int))) ((-1000000000000):Int) (1000000000000:Int)).bind fun l=>some (!l)).bind fun s=>bif s then some (.inr (.inl ((0:Int),(0:Int),false)))else some (.inr (.inl ((IntKind.wrap .i64 (Int.tdiv (bits .or .i64 c (IntKind.wrap .i64 ((bits .and .i64 (IntKind.wrap .i64 a) (127:Int))*2 ^ min (Int.toNat (IntKind.wrap .u64 (IntKind.wrap .i64 ((7:Int)*b)))) 64))) (2:Int))),(IntKind.wrap .i64 (d+(1:Int))),true)))else some (.inr (.inr (d,c,b,false)))
def lB(n:Nat)(a:List Int)(b:Int):Option (Int×Int×Bool):=
  (aQ n b (0:Int) (IntKind.wrap .i64 ((a.length:Int) - (1:Int)))).bind fun c=>bif !c then some ((0:Int),(0:Int),false)else(loopN (fR n a) n (b,(0:Int),(0:Int))).bind fun q=>(match q with | .inl (d,f,g)=>some (d,f,g) | .inr (o,l,m,j)=>some ((0:Int),(0:Int),false))
theorem vZ{n:Nat}:IE (lB n):=by
 intro Q R r h; unfold lB at h; refine bF Try.func54 rfl rfl<|gco 11 rfl<|xLn rfl<|RL rfl<|xC0 h (aW ·) rfl (fun M h=> ?_)
 refine goc 2 rfl<|cIf h rfl (fun N h=> ?_) (fun N h=> ?_)
 exact gec; refine gcc 10 rfl<|cLp h [(1,1),(4,10),(17,65)] [] (fun(p,b,c)=>([(1,I64 p),(7,I64 b),(8,I64 c)],[])) (fun q=>match q with | .inl (t,u,v)=>(.r,[(4,I64 t),(5,I64 u),(6,Bo v)],[]) | .inr (s,l,m,d)=>(.e 0,[(1,I64 s),(7,I64 l),(8,I64 m),(24,Bo d)],[])) rfl (fun st _ h=> ?_) (fun q h=> ?_)
 obtain⟨p,b,c⟩:=st; unfold fR at h; refine gco 3 rfl<|oJn h [(17,24)] [] (fun f=>(.n,[(24,Bo f)],[])) (fun _ h=> ?_) (fun f h=> ?_)
 refine goo 3 rfl<|oIf 19 h rfl (fun B h=> ?_) (fun B h=> ?_)
 exact goo 2 rfl<|xLn rfl<|geo
 exact geo; refine cIf h rfl (fun C h=> ?_) (fun C h=> ?_)
 refine gco 7 rfl<|xIx h lQ rfl (fun a h=> ?_)
 refine goo 14 rfl<|wBi (.int .i64 (bits .and .i64 (IntKind.wrap .i64 a) (127:Int))) rfl rfl rfl rfl rfl<|goo 3 rfl<|oCk h (fun o h=> ?_)
 refine wShl o rfl rfl rfl rfl<|wBi (.int .i64 (bits .or .i64 b (IntKind.wrap .i64 ((bits .and .i64 (IntKind.wrap .i64 a) (127:Int))*2 ^ min (Int.toNat (IntKind.wrap .u64 (IntKind.wrap .i64 ((7:Int)*c)))) 64)))) rfl rfl rfl rfl rfl<|goc 8 rfl<|cIf h rfl (fun D h=> ?_) (fun D h=> ?_)
 exact gec; refine gco 4 rfl<|wBi (.int .i64 (IntKind.wrap .i64 (Int.tdiv (bits .or .i64 b (IntKind.wrap .i64 ((bits .and .i64 (IntKind.wrap .i64 a) (127:Int))*2 ^ min (Int.toNat (IntKind.wrap .u64 (IntKind.wrap .i64 ((7:Int)*c)))) 64))) (2:Int)))) rfl rfl rfl rfl rfl<|goo 6 rfl<|wBi (.int .i64 (Int.tmod (bits .or .i64 b (IntKind.wrap .i64 ((bits .and .i64 (IntKind.wrap .i64 a) (127:Int))*2 ^ min (Int.toNat (IntKind.wrap .u64 (IntKind.wrap .i64 ((7:Int)*c)))) 64))) (2:Int))) rfl rfl rfl rfl rfl<|goc 2 rfl<|cIf h rfl (fun E h=> ?_) (fun E h=> ?_)
 refine gco 3 rfl<|wNeg rfl rfl rfl<|wBi (.int .i64 (IntKind.wrap .i64 (Int.tdiv (IntKind.wrap .i64 (0 - (IntKind.wrap .i64 ((bits .or .i64 b (IntKind.wrap .i64 ((bits .and .i64 (IntKind.wrap .i64 a) (127:Int))*2 ^ min (Int.toNat (IntKind.wrap .u64 (IntKind.wrap .i64 ((7:Int)*c)))) 64)))+(1:Int))))) (2:Int)))) rfl rfl rfl rfl rfl<|goo 5 rfl<|oJn h [(53,63)] [] (fun g=>(.n,[(63,Bo g)],[])) (fun _ h=> ?_) (fun g h=> ?_)
 refine goo 3 rfl<|oIf 55 h rfl (fun G h=> ?_) (fun G h=> ?_)
 refine goo 4 rfl<|oIf 59 h rfl (fun H h=> ?_) (fun H h=> ?_)
 exact geo; refine xMv rfl<|xC0 h (aW ·) rfl (fun w h=> ?_)
 exact geo; refine goo 5 rfl<|xC0 h (aW ·) rfl (fun y h=> ?_)
 exact geo; refine cIf h rfl (fun I h=> ?_) (fun I h=> ?_)
 exact gec; exact gec; refine gco 4 rfl<|oJn h [(53,63)] [] (fun j=>(.n,[(63,Bo j)],[])) (fun _ h=> ?_) (fun j h=> ?_)
 refine goo 3 rfl<|oIf 55 h rfl (fun J h=> ?_) (fun J h=> ?_)
 refine goo 4 rfl<|oIf 59 h rfl (fun K h=> ?_) (fun K h=> ?_)
 exact geo; refine xMv rfl<|xC0 h (aW ·) rfl (fun z h=> ?_)
 exact geo; refine goo 5 rfl<|xC0 h (aW ·) rfl (fun A h=> ?_)
 exact geo; refine cIf h rfl (fun L h=> ?_) (fun L h=> ?_)
 exact gec; exact gec; exact gec; rcases q with⟨t,u,v⟩ | ⟨s,l,m,d⟩; exact en; exact gec
abbrev BQ(p:(List Int)→Int→Bool→Option (Int×(List Int)×Int×Bool)):Prop:= ∀ {a:List Int} {b:Int} {d:Bool} {r:Int×(List Int)×Int×Bool},p a b d=some r→Big Try.prog τ An (.fn 37 [.one (.ptr 1000000 0)] [[.sl (a.map rI_u8), .int .i64 b, .bool d]] (.one (.c (.int .i64 r.1))) none [[.sl (r.2.1.map rI_u8), .int .i64 r.2.2.1, .bool r.2.2.2]] none)
def aU(n:Nat)(b:List Int)(c:Int)(d:Bool):Option (Int×(List Int)×Int×Bool):=
  (lB n b c).bind fun a=>(bif d then some true else some (!a.2.2)).bind fun f=>bif f then some ((0:Int),b,c,true)else some (a.1,b,a.2.1,d)
theorem dB{n:Nat}:BQ (aU n):=by
 intro c d f r h; unfold aU at h; refine bF Try.func37 rfl rfl<|gco 14 rfl<|xC0 h (vZ ·) rfl (fun b h=> ?_)
 refine goo 11 rfl<|oJn h [(19,26)] [] (fun a=>(.n,[(26,Bo a)],[])) (fun _ h=> ?_) (fun a h=> ?_)
 refine goo 5 rfl<|oIf 23 h rfl (fun g h=> ?_) (fun g h=> ?_)
 exact geo; exact geo; refine cIf h rfl (fun j h=> ?_) (fun j h=> ?_)
 exact gec; exact gec
abbrev yX(p:Int→(List Int)→Int→Bool→Option (Int×(List Int)×Int×Bool)):Prop:= ∀ {f:Int} {a:List Int} {b:Int} {d:Bool} {r:Int×(List Int)×Int×Bool},p f a b d=some r→Big Try.prog τ An (.fn 16 [.one (.ptr 1000000 0), .one (.c (.int .i64 f))] [[.sl (a.map rI_u8), .int .i64 b, .bool d]] (.one (.c (.int .i64 r.1))) none [[.sl (r.2.1.map rI_u8), .int .i64 r.2.2.1, .bool r.2.2.2]] none)
def bD(n:Nat)(g:Int)(c:List Int)(d:Int)(f:Bool):Option (Int×(List Int)×Int×Bool):=
  (aU n c d f).bind fun a=>(aQ n a.1 (0:Int) g).bind fun b=>bif !b then some ((0:Int),a.2.1,a.2.2.1,true)else some (a.1,a.2.1,a.2.2.1,a.2.2.2)
theorem fD{n:Nat}:yX (bD n):=by
 intro j c d f r h; unfold bD at h; refine bF Try.func16 rfl rfl<|gco 7 rfl<|xC1 h (dB ·) rfl (fun b h=> ?_)
 refine goo 7 rfl<|xC0 h (aW ·) rfl (fun a h=> ?_)
 refine goc 2 rfl<|cIf h rfl (fun g h=> ?_) (fun g h=> ?_)
 exact gec; exact gec
abbrev GB(p:(List Int)→Int→Option ((List UInt8)×Int×Bool)):Prop:= ∀ {a:List Int} {b:Int} {r:(List UInt8)×Int×Bool},p a b=some r→Big Try.prog τ An (.fn 55 [.one (.c (.sl (a.map rI_u8))), .one (.c (.int .i64 b))] [] (.tup [.c (.str r.1), .c (.int .i64 r.2.1), .c (.bool r.2.2)]) none [] none)
def kC(n:Nat)(b:List Int)(g:Int):Option ((List UInt8)×Int×Bool):=
  (lB n b g).bind fun a=>(bif !a.2.2 then some true else bif decide (a.1<(0:Int))then some true else some (decide ((IntKind.wrap .i64 ((b.length:Int) - a.2.1))<a.1))).bind fun c=>bif c then some (([]:List UInt8),(0:Int),false)else(sub b (some a.2.1) (some (IntKind.wrap .i64 (a.2.1+a.1)))).bind fun d=>(qB d).bind fun f=>some (f,(IntKind.wrap .i64 (a.2.1+a.1)),true)
theorem Co{n:Nat}:GB (kC n):=by
 intro l m r h; unfold kC at h; refine bF Try.func55 rfl rfl<|gco 10 rfl<|xC0 h (vZ ·) rfl (fun b h=> ?_)
 refine goo 11 rfl<|oJn h [(17,30)] [] (fun a=>(.n,[(30,Bo a)],[])) (fun _ h=> ?_) (fun a h=> ?_)
 refine goo 3 rfl<|oIf 19 h rfl (fun f h=> ?_) (fun f h=> ?_)
 exact geo; refine goo 4 rfl<|oIf 23 h rfl (fun g h=> ?_) (fun g h=> ?_)
 exact geo; exact goo 2 rfl<|xLn rfl<|geo
 refine cIf h rfl (fun j h=> ?_) (fun j h=> ?_)
 exact gec; refine gco 8 rfl<|wSl (rf:=rI_u8) h rfl rfl rfl rfl (.so rfl) (.so rfl) (fun _=>rfl) rfl (fun c h=> ?_)
 refine wTs h rfl rfl ⟨rfl,rfl⟩ rfl lQ rfl (fun d h=> ?_)
 exact geo
abbrev Ad(p:(List Int)→Int→Bool→Option ((List UInt8)×(List Int)×Int×Bool)):Prop:= ∀ {a:List Int} {b:Int} {d:Bool} {r:(List UInt8)×(List Int)×Int×Bool},p a b d=some r→Big Try.prog τ An (.fn 39 [.one (.ptr 1000000 0)] [[.sl (a.map rI_u8), .int .i64 b, .bool d]] (.one (.c (.str r.1))) none [[.sl (r.2.1.map rI_u8), .int .i64 r.2.2.1, .bool r.2.2.2]] none)
def bC(n:Nat)(b:List Int)(c:Int)(d:Bool):Option ((List UInt8)×(List Int)×Int×Bool):=
  (kC n b c).bind fun a=>(bif d then some true else some (!a.2.2)).bind fun f=>bif f then some (([]:List UInt8),b,c,true)else some (a.1,b,a.2.1,d)
theorem lS{n:Nat}:Ad (bC n):=by
 intro c d f r h; unfold bC at h; refine bF Try.func39 rfl rfl<|gco 14 rfl<|xC0 h (Co ·) rfl (fun b h=> ?_)
 refine goo 11 rfl<|oJn h [(19,26)] [] (fun a=>(.n,[(26,Bo a)],[])) (fun _ h=> ?_) (fun a h=> ?_)
 refine goo 5 rfl<|oIf 23 h rfl (fun g h=> ?_) (fun g h=> ?_)
 exact geo; exact geo; refine cIf h rfl (fun j h=> ?_) (fun j h=> ?_)
 exact gec; exact gec
abbrev Cu(p:(List Int)→Int→Bool→Option ((List UInt8)×Int×Int×(List aG)×(List Int)×Int×Bool)):Prop:= ∀ {a:List Int} {b:Int} {c:Bool} {r:(List UInt8)×Int×Int×(List aG)×(List Int)×Int×Bool},p a b c=some r→Big Try.prog τ An (.fn 17 [.one (.ptr 1000000 0)] [[.sl (a.map rI_u8), .int .i64 b, .bool c]] (.one (.ag [.str r.1, .int .i64 r.2.1, .int .i64 r.2.2.1, .sl (r.2.2.2.1.map aK)])) none [[.sl (r.2.2.2.2.1.map rI_u8), .int .i64 r.2.2.2.2.2.1, .bool r.2.2.2.2.2.2]] none)
def dL(n:Nat)(u:Int×(List Int)×Int×Bool):(Int×(List UInt8)×Int×Int×(List aG)×(List Int)×Int×Bool)→Option ((Int×(List UInt8)×Int×Int×(List aG)×(List Int)×Int×Bool)⊕((Int×(List UInt8)×Int×Int×(List aG)×(List Int)×Int×Bool)))
  | (l,m,o,p,s,b,c,a)=>bif decide (l<u.1)then bif a then some (.inr (l,m,o,p,s,b,c,a))else(aU n b c a).bind fun d=>(aU n d.2.1 d.2.2.1 d.2.2.2).bind fun f=>(bC n f.2.1 f.2.2.1 f.2.2.2).bind fun g=>(aU n g.2.1 g.2.2.1 g.2.2.2).bind fun j=>(dG 40 s ([aG.mk d.1 f.1 g.1 j.1]:List aG)).bind fun t=>some (.inl ((IntKind.wrap .i64 (l+(1:Int))),m,o,p,t,j.2.1,j.2.2.1,j.2.2.2))else some (.inr (l,m,o,p,s,b,c,a))
def jW(n:Nat)(s:List Int)(t:Int)(u:Bool):Option ((List UInt8)×Int×Int×(List aG)×(List Int)×Int×Bool):=
  (bC n s t u).bind fun g=>(aU n g.2.1 g.2.2.1 g.2.2.2).bind fun j=>(aU n j.2.1 j.2.2.1 j.2.2.2).bind fun a=>(bD n (1500:Int) a.2.1 a.2.2.1 a.2.2.2).bind fun b=>(loopN (dL n b) n ((0:Int),g.1,j.1,a.1,([]:List aG),b.2.1,b.2.2.1,b.2.2.2)).bind fun(v,l,m,o,p,c,d,f)=>some (l,m,o,p,c,d,f)
theorem Ab{n:Nat}:Cu (jW n):=by
 intro M N Q r h; unfold jW at h; refine bF Try.func17 rfl rfl<|cRs<|xAz [.str [], .int .i64 0, .int .i64 0, .sl ([].map aK)] rfl<|goo 4 rfl<|xC1 h (lS ·) rfl (fun D h=> ?_)
 refine wBd [.str D.1, .int .i64 0, .int .i64 0, .sl ([].map aK)] rfl rfl rfl rfl rfl rfl<|xAz [.str [], .int .i64 0, .int .i64 0, .sl ([].map aK)] rfl<|goo 5 rfl<|xC1 h (dB ·) rfl (fun K h=> ?_)
 refine goo 6 rfl<|xC1 h (dB ·) rfl (fun I h=> ?_)
 refine goo 7 rfl<|xC1 h (fD ·) rfl (fun J h=> ?_)
 refine goc 2 rfl<|cLp h [(4,4),(16,40)] [(3,4),(1000000,1000000)] (fun(o,z,A,B,C,a,b,c)=>([(16,I64 o)],[(3,[.str z, .int .i64 A, .int .i64 B, .sl (C.map aK)]),(1000000,[.sl (a.map rI_u8), .int .i64 b, .bool c])])) (fun(m,p,s,t,u,d,g,j)=>(.e 0,[(16,I64 m)],[(3,[.str p, .int .i64 s, .int .i64 t, .sl (u.map aK)]),(1000000,[.sl (d.map rI_u8), .int .i64 g, .bool j])])) rfl (fun st _ h=> ?_) (fun q h=> ?_)
 obtain⟨o,z,A,B,C,a,b,c⟩:=st; unfold dL at h; refine gcc 5 rfl<|cIf h rfl (fun E h=> ?_) (fun E h=> ?_)
 refine gcc 11 rfl<|cIf h rfl (fun G h=> ?_) (fun G h=> ?_)
 exact gec; refine gco 4 rfl<|xC1 h (dB ·) rfl (fun l h=> ?_)
 refine wBd [.int .i64 l.1, .int .i64 0, .str [], .int .i64 0] rfl rfl rfl rfl rfl rfl<|xAc rfl<|goo 5 rfl<|xC1 h (dB ·) rfl (fun v h=> ?_)
 refine goo 6 rfl<|xC1 h (lS ·) rfl (fun w h=> ?_)
 refine goo 6 rfl<|xC1 h (dB ·) rfl (fun y h=> ?_)
 refine goo 7 rfl<|cW (L:=([aG.mk l.1 v.1 w.1 y.1]:List aG)) (f:=aK) rfl rfl rfl rfl rfl rfl rfl<|wAp (f:=aK) h rfl rfl rfl rfl rfl rfl rfl rfl rfl (fun _=>rfl) rfl (fun H h=> ?_)
 exact geo; exact gec; obtain⟨m,p,s,t,u,d,g,j⟩:=q; exact gec
abbrev dS:Type:=Int→(List Int)→Int→Bool→Option (Int×Int×(List UInt8)×(List aA)×(List Int)×Int×Bool)
abbrev lN(p:dS):Prop:= ∀ {f:Int} {a:List Int} {b:Int} {d:Bool} {r:Int×Int×(List UInt8)×(List aA)×(List Int)×Int×Bool},p f a b d=some r→Big Try.prog τ An (.fn 18 [.one (.ptr 1000000 0), .one (.c (.int .i64 f))] [[.sl (a.map rI_u8), .int .i64 b, .bool d]] (.one (.ag [.int .i64 r.1, .int .i64 r.2.1, .str r.2.2.1, .sl (r.2.2.2.1.map aH)])) none [[.sl (r.2.2.2.2.1.map rI_u8), .int .i64 r.2.2.2.2.2.1, .bool r.2.2.2.2.2.2]] none)
def cN(n:Nat)(f:dS)(t:Int)(s:Int×(List Int)×Int×Bool):(Int×Int×Int×(List UInt8)×(List aA)×(List Int)×Int×Bool)→Option ((Int×Int×Int×(List UInt8)×(List aA)×(List Int)×Int×Bool)⊕((Int×Int×Int×(List UInt8)×(List aA)×(List Int)×Int×Bool)))
  | (g,l,m,o,j,c,d,a)=>bif decide (g<s.1)then bif a then some (.inr (g,l,m,o,j,c,d,a))else(f (IntKind.wrap .i64 (t+(1:Int))) c d a).bind fun b=>(dG 56 j ([aA.mk b.1 b.2.1 b.2.2.1 b.2.2.2.1]:List aA)).bind fun p=>some (.inl ((IntKind.wrap .i64 (g+(1:Int))),l,m,o,p,b.2.2.2.2.1,b.2.2.2.2.2.1,b.2.2.2.2.2.2))else some (.inr (g,l,m,o,j,c,d,a))
def qE(n:Nat)(f:dS)(t:Int)(p:Int×(List Int)×Int×Bool):(Int×Int×Int×(List UInt8)×(List aA)×(List Int)×Int×Bool)→Option ((Int×Int×Int×(List UInt8)×(List aA)×(List Int)×Int×Bool)⊕((Int×Int×Int×(List UInt8)×(List aA)×(List Int)×Int×Bool)))
  | (g,j,l,m,o,c,d,a)=>bif decide (g<p.1)then bif a then some (.inr (g,j,l,m,o,c,d,a))else(f (IntKind.wrap .i64 (t+(1:Int))) c d a).bind fun b=>(dG 56 o ([aA.mk b.1 b.2.1 b.2.2.1 b.2.2.2.1]:List aA)).bind fun s=>some (.inl ((IntKind.wrap .i64 (g+(1:Int))),j,l,m,s,b.2.2.2.2.1,b.2.2.2.2.2.1,b.2.2.2.2.2.2))else some (.inr (g,j,l,m,o,c,d,a))
def dN(n:Nat)(a:dS)(t:Int)(D:List Int)(E:Int)(G:Bool):Option (Int×Int×(List UInt8)×(List aA)×(List Int)×Int×Bool):=
  (aU n D E G).bind fun g=>(aU n g.2.1 g.2.2.1 g.2.2.2).bind fun c=>(bC n c.2.1 c.2.2.1 c.2.2.2).bind fun b=>bif decide ((10:Int)<t)then(bD n (20:Int) b.2.1 b.2.2.1 true).bind fun f=>(loopN (cN n a t f) n ((0:Int),g.1,c.1,b.1,([]:List aA),f.2.1,f.2.2.1,f.2.2.2)).bind fun(H,u,v,w,y,j,l,m)=>some (u,v,w,y,j,l,m)else(bD n (20:Int) b.2.1 b.2.2.1 b.2.2.2).bind fun d=>(loopN (qE n a t d) n ((0:Int),g.1,c.1,b.1,([]:List aA),d.2.1,d.2.2.1,d.2.2.2)).bind fun(I,z,A,B,C,o,p,s)=>some (z,A,B,C,o,p,s)
theorem xI{n:Nat}{c:dS}(b:lN c):lN (dN n c):=by
 intro b4 b0 b1 b2 r h; unfold dN at h; refine bF Try.func18 rfl rfl<|cRs<|xAz [.int .i64 0, .int .i64 0, .str [], .sl ([].map aH)] rfl<|goo 4 rfl<|xC1 h (dB ·) rfl (fun Z h=> ?_)
 refine wBd [.int .i64 Z.1, .int .i64 0, .str [], .sl ([].map aH)] rfl rfl rfl rfl rfl rfl<|xAz [.int .i64 0, .int .i64 0, .str [], .sl ([].map aH)] rfl<|goo 5 rfl<|xC1 h (dB ·) rfl (fun a7 h=> ?_)
 refine goo 6 rfl<|xC1 h (lS ·) rfl (fun a8 h=> ?_)
 refine goc 9 rfl<|cIf h rfl (fun q4 h=> ?_) (fun q4 h=> ?_)
 refine gco 10 rfl<|xC1 h (fD ·) rfl (fun a9 h=> ?_)
 refine goc 2 rfl<|cLp h [(6,6),(23,39)] [(5,6),(1000000,1000000)] (fun(D,W,X,Y,E,d,g,j)=>([(23,I64 D)],[(5,[.int .i64 W, .int .i64 X, .str Y, .sl (E.map aH)]),(1000000,[.sl (d.map rI_u8), .int .i64 g, .bool j])])) (fun(A,G,H,I,J,l,m,o)=>(.e 0,[(23,I64 A)],[(5,[.int .i64 G, .int .i64 H, .str I, .sl (J.map aH)]),(1000000,[.sl (l.map rI_u8), .int .i64 m, .bool o])])) rfl (fun st _ h=> ?_) (fun q h=> ?_)
 obtain⟨D,W,X,Y,E,d,g,j⟩:=st; unfold cN at h; refine gcc 5 rfl<|cIf h rfl (fun a1 h=> ?_) (fun a1 h=> ?_)
 refine gcc 11 rfl<|cIf h rfl (fun a2 h=> ?_) (fun a2 h=> ?_)
 exact gec; refine gco 6 rfl<|xC1 h (b ·) rfl (fun y h=> ?_)
 refine xAz [.int .i64 0, .int .i64 0, .str [], .sl ([].map aH)] rfl<|goo 6 rfl<|cW (L:=([aA.mk y.1 y.2.1 y.2.2.1 y.2.2.2.1]:List aA)) (f:=aH) rfl rfl rfl rfl (by simp only[List.map,dH]<;>rfl) rfl rfl<|wAp (f:=aH) h rfl rfl rfl rfl rfl rfl rfl rfl rfl (fun a=>by rw[aX]; rfl) rfl (fun a5 h=> ?_)
 exact geo; exact gec; obtain⟨A,G,H,I,J,l,m,o⟩:=q; exact gec; refine gco 5 rfl<|xC1 h (fD ·) rfl (fun a0 h=> ?_)
 refine goc 2 rfl<|cLp h [(6,6),(23,39)] [(5,6),(1000000,1000000)] (fun(B,K,M,N,Q,p,s,t)=>([(23,I64 B)],[(5,[.int .i64 K, .int .i64 M, .str N, .sl (Q.map aH)]),(1000000,[.sl (p.map rI_u8), .int .i64 s, .bool t])])) (fun(C,R,T,U,V,u,v,w)=>(.e 0,[(23,I64 C)],[(5,[.int .i64 R, .int .i64 T, .str U, .sl (V.map aH)]),(1000000,[.sl (u.map rI_u8), .int .i64 v, .bool w])])) rfl (fun st _ h=> ?_) (fun q h=> ?_)
 obtain⟨B,K,M,N,Q,p,s,t⟩:=st; unfold qE at h; refine gcc 5 rfl<|cIf h rfl (fun a3 h=> ?_) (fun a3 h=> ?_)
 refine gcc 11 rfl<|cIf h rfl (fun a4 h=> ?_) (fun a4 h=> ?_)
 exact gec; refine gco 6 rfl<|xC1 h (b ·) rfl (fun z h=> ?_)
 refine xAz [.int .i64 0, .int .i64 0, .str [], .sl ([].map aH)] rfl<|goo 6 rfl<|cW (L:=([aA.mk z.1 z.2.1 z.2.2.1 z.2.2.2.1]:List aA)) (f:=aH) rfl rfl rfl rfl (by simp only[List.map,dH]<;>rfl) rfl rfl<|wAp (f:=aH) h rfl rfl rfl rfl rfl rfl rfl rfl rfl (fun a=>by rw[aX]; rfl) rfl (fun a6 h=> ?_)
 exact geo; exact gec; obtain⟨C,R,T,U,V,u,v,w⟩:=q; exact gec
def tN:Nat→(dS)
  | 0=>(fun _ _ _ _=>none)
  | n+1=>dN n (tN n)
def bO(n:Nat):dS:=tN n
theorem xJ(n:Nat):lN (bO n):=by
  induction n with
  | zero=>exact(fun h=>nomatch h)
  | succ n ih=>exact xI (n:=n) ih
theorem yV{n:Nat}:lN (bO n):=(xJ n)
theorem Ia(n:Nat):bO (n+1)=dN n (bO n):=rfl
abbrev II(p:(List Int)→(List Int)→Option (Bool)):Prop:= ∀ {a b:List Int} {r:Bool},p a b=some r→Big Try.prog τ An (.fn 19 [.one (.c (.sl (a.map rI_u8))), .one (.c (.sl (b.map rI_u8)))] [] (.one (.c (.bool r))) none [] none)
def qH(n:Nat)(a:List Int)(b:List Int):Option (Bool):=
  (qB a).bind fun c=>(qB b).bind fun d=>some (decide (c=d))
theorem En{n:Nat}:II (qH n):=by
 intro a b r h; unfold qH at h; refine bF Try.func19 rfl rfl<|gco 7 rfl<|wTs h rfl rfl ⟨rfl,rfl⟩ rfl lQ rfl (fun c h=> ?_)
 refine xMv rfl<|wTs h rfl rfl ⟨rfl,rfl⟩ rfl lQ rfl (fun d h=> ?_)
 exact geo
abbrev GC(p:(List Int)→Option ((List aF)×(List aA)×Bool)):Prop:= ∀ {a:List Int} {r:(List aF)×(List aA)×Bool},p a=some r→Big Try.prog τ An (.fn 6 [.one (.c (.sl (a.map rI_u8)))] [] (.tup [.ag [.sl (r.1.map aL), .sl (r.2.1.map aH)], .c (.bool r.2.2)]) none [] none)
def dQ(n:Nat)(m:Int×(List Int)×Int×Bool):(Int×(List Int)×Int×Bool×(List aF)×(List aA))→Option ((Int×(List Int)×Int×Bool×(List aF)×(List aA))⊕((Int×Bool×(List Int)×Int×Bool×(List aF)×(List aA))))
  | (b,d,f,g,j,l)=>bif decide (b<m.1)then(jW n d f g).bind fun a=>(dG 56 j ([aF.mk a.1 a.2.1 a.2.2.1 a.2.2.2.1]:List aF)).bind fun c=>some (.inl ((IntKind.wrap .i64 (b+(1:Int))),a.2.2.2.2.1,a.2.2.2.2.2.1,a.2.2.2.2.2.2,c,l))else some (.inr (b,false,d,f,g,j,l))
def eM(n:Nat)(l:Int×(List Int)×Int×Bool):(Int×(List Int)×Int×Bool×(List aF)×(List aA))→Option ((Int×(List Int)×Int×Bool×(List aF)×(List aA))⊕((Int×(List Int)×Int×Bool×(List aF)×(List aA))))
  | (b,d,f,c,g,j)=>bif decide (b<l.1)then bif c then some (.inr (b,d,f,c,g,j))else(bO n (1:Int) d f c).bind fun a=>(dG 56 j ([aA.mk a.1 a.2.1 a.2.2.1 a.2.2.2.1]:List aA)).bind fun m=>some (.inl ((IntKind.wrap .i64 (b+(1:Int))),a.2.2.2.2.1,a.2.2.2.2.2.1,a.2.2.2.2.2.2,g,m))else some (.inr (b,d,f,c,g,j))
def mF(n:Nat)(j:List Int):Option ((List aF)×(List aA)×Bool):=
  (bD n (12:Int) j (0:Int) false).bind fun b=>(loopN (dQ n b) n ((0:Int),b.2.1,b.2.2.1,b.2.2.2,([]:List aF),([]:List aA))).bind fun(w,y,m,o,p,t,u)=>(bD n (2000:Int) m o p).bind fun a=>(loopN (eM n a) n ((0:Int),a.2.1,a.2.2.1,a.2.2.2,t,u)).bind fun(v,z,A,s,d,f)=>bif s then some (([]:List aF),([]:List aA),false)else(cL n d f).bind fun c=>(bif decide ((c.length:Int)=(0:Int))then some true else(qH n c j).bind fun g=>some (!g)).bind fun l=>bif l then some (([]:List aF),([]:List aA),false)else some (d,f,true)
theorem Cp{n:Nat}:GC (mF n):=by
 intro Q r h; unfold mF at h; refine bF Try.func6 rfl rfl<|cRs<|xAz [.sl ([].map aL), .sl ([].map aH)] rfl<|goo 5 rfl<|wBd [.sl (Q.map rI_u8), .int .i64 0, .bool false] rfl rfl rfl rfl rfl rfl<|xAz [.sl ([].map rI_u8), .int .i64 0, .bool false] rfl<|goo 4 rfl<|xAz [.sl ([].map aL), .sl ([].map aH)] rfl<|goo 4 rfl<|xC1 h (fD ·) rfl (fun a3 h=> ?_)
 refine goc 2 rfl<|cLp h [(6,6),(12,21)] [(4,6)] (fun(l,I,J,K,M,N)=>([(12,I64 l)],[(4,[.sl (I.map rI_u8), .int .i64 J, .bool K]),(5,[.sl (M.map aL), .sl (N.map aH)])])) (fun(m,o,p,s,t,B,C)=>(.e 0,[(12,I64 m),(13,Bo o)],[(4,[.sl (p.map rI_u8), .int .i64 s, .bool t]),(5,[.sl (B.map aL), .sl (C.map aH)])])) rfl (fun st _ h=> ?_) (fun q h=> ?_)
 obtain⟨l,I,J,K,M,N⟩:=st; unfold dQ at h; refine gcc 5 rfl<|cIf h rfl (fun V h=> ?_) (fun V h=> ?_)
 refine gco 5 rfl<|xC1 h (Ab ·) rfl (fun b h=> ?_)
 refine xAz [.str [], .int .i64 0, .int .i64 0, .sl ([].map aK)] rfl<|goo 6 rfl<|cW (L:=([aF.mk b.1 b.2.1 b.2.2.1 b.2.2.2.1]:List aF)) (f:=aL) rfl rfl rfl rfl rfl rfl rfl<|wAp (f:=aL) h rfl rfl rfl rfl rfl rfl rfl rfl rfl (fun _=>rfl) rfl (fun a1 h=> ?_)
 exact geo; exact gec; obtain⟨m,o,p,s,t,B,C⟩:=q; refine gco 3 rfl<|xC1 h (fD ·) rfl (fun R h=> ?_)
 refine goc 2 rfl<|cLp h [(7,7),(23,34)] [(4,5),(7,7)] (fun(d,u,v,w,D,E)=>([(23,I64 d)],[(4,[.sl (u.map rI_u8), .int .i64 v, .bool w]),(5,[.sl (D.map aL), .sl (E.map aH)])])) (fun(g,y,z,A,G,H)=>(.e 2,[(23,I64 g)],[(4,[.sl (y.map rI_u8), .int .i64 z, .bool A]),(5,[.sl (G.map aL), .sl (H.map aH)])])) rfl (fun st _ h=> ?_) (fun q h=> ?_)
 obtain⟨d,u,v,w,D,E⟩:=st; unfold eM at h; refine gcc 5 rfl<|cIf h rfl (fun W h=> ?_) (fun W h=> ?_)
 refine gcc 9 rfl<|cIf h rfl (fun X h=> ?_) (fun X h=> ?_)
 exact gec; refine gco 3 rfl<|xC1 h (yV ·) rfl (fun c h=> ?_)
 refine xAz [.int .i64 0, .int .i64 0, .str [], .sl ([].map aH)] rfl<|goo 6 rfl<|cW (L:=([aA.mk c.1 c.2.1 c.2.2.1 c.2.2.2.1]:List aA)) (f:=aH) rfl rfl rfl rfl (by simp only[List.map,dH]<;>rfl) rfl rfl<|wAp (f:=aH) h rfl rfl rfl rfl rfl rfl rfl rfl rfl (fun a=>by rw[aX]; rfl) rfl (fun a2 h=> ?_)
 exact geo; exact gec; obtain⟨g,y,z,A,G,H⟩:=q; refine gcc 6 rfl<|cIf h rfl (fun Y h=> ?_) (fun Y h=> ?_)
 exact cRs<|wBd [.sl ([].map aL), .sl ([].map aH)] rfl rfl rfl rfl rfl rfl<|geo
 refine gco 4 rfl<|xC0 h (pV ·) rfl (fun T h=> ?_)
 refine goo 5 rfl<|oJn h [(40,48)] [] (fun j=>(.n,[(48,Bo j)],[])) (fun _ h=> ?_) (fun j h=> ?_)
 refine xMv rfl<|xLn rfl<|goo 2 rfl<|oIf 43 h rfl (fun Z h=> ?_) (fun Z h=> ?_)
 exact geo; refine goo 2 rfl<|xC0 h (En ·) rfl (fun U h=> ?_)
 exact geo; refine cIf h rfl (fun a0 h=> ?_) (fun a0 h=> ?_)
 exact cRs<|wBd [.sl ([].map aL), .sl ([].map aH)] rfl rfl rfl rfl rfl rfl<|geo
 exact gec
abbrev Hx(p:(List Int)→Int→Option (Int×Int×Bool)):Prop:= ∀ {a:List Int} {b:Int} {r:Int×Int×Bool},p a b=some r→Big Try.prog τ An (.fn 40 [.one (.c (.sl (a.map rI_u8))), .one (.c (.int .i64 b))] [] (.tup [.c (.int .i64 r.1), .c (.int .i64 r.2.1), .c (.bool r.2.2)]) none [] none)
def fP(n:Nat)(f:List Int)(d:Int):(Int×Int)→Option ((Int×Int)⊕((Int×Int×Bool)⊕(Int×Int×Bool)))
  | (c,a)=>(bif decide (a<(6:Int))then bif decide ((0:Int)≤d)then bif decide (d<(f.length:Int))then some (decide ((IntKind.wrap .i64 (d+a))<(f.length:Int)))else some false else some false else some false).bind fun s=>bif s then(ix f (IntKind.wrap .i64 (d+a))).bind fun b=>(ck (decide (0≤(IntKind.wrap .u64 (IntKind.wrap .i64 ((7:Int)*a)))))).bind fun _=>bif decide ((127:Int)<(IntKind.wrap .i64 b))then some (.inl ((bits .or .i64 c (IntKind.wrap .i64 ((bits .and .i64 (IntKind.wrap .i64 b) (127:Int))*2 ^ min (Int.toNat (IntKind.wrap .u64 (IntKind.wrap .i64 ((7:Int)*a)))) 64))),(IntKind.wrap .i64 (a+(1:Int)))))else bif decide ((bits .and .i64 (bits .or .i64 c (IntKind.wrap .i64 ((bits .and .i64 (IntKind.wrap .i64 b) (127:Int))*2 ^ min (Int.toNat (IntKind.wrap .u64 (IntKind.wrap .i64 ((7:Int)*a)))) 64))) (1:Int))=(1:Int))then(bif decide ((0:Int)<a)then bif decide ((IntKind.wrap .i64 b)=(0:Int))then some true else(aT n (IntKind.wrap .i64 ((IntKind.wrap .i64 (0 - (Int.fdiv (bits .or .i64 c (IntKind.wrap .i64 ((bits .and .i64 (IntKind.wrap .i64 b) (127:Int))*2 ^ min (Int.toNat (IntKind.wrap .u64 (IntKind.wrap .i64 ((7:Int)*a)))) 64))) (2 ^ 1)))) - (1:Int))) ((-1000000000000):Int) (1000000000000:Int)).bind fun g=>some (!g)else(aT n (IntKind.wrap .i64 ((IntKind.wrap .i64 (0 - (Int.fdiv (bits .or .i64 c (IntKind.wrap .i64 ((bits .and .i64 (IntKind.wrap .i64 b) (127:Int))*2 ^ min (Int.toNat (IntKind.wrap .u64 (IntKind.wrap .i64 ((7:Int)*a)))) 64))) (2 ^ 1)))) - (1:Int))) ((-1000000000000):Int) (1000000000000:Int)).bind fun j=>some (!j)).bind fun o=>bif o then some (.inr (.inl ((0:Int),(0:Int),false)))else some (.inr (.inl ((IntKind.wrap .i64 ((IntKind.wrap .i64 (0 - (Int.fdiv (bits .or .i64 c (IntKind.wrap .i64 ((bits .and .i64 (IntKind.wrap .i64 b) (127:Int))*2 ^ min (Int.toNat (IntKind.wrap .u64 (IntKind.wrap .i64 ((7:Int)*a)))) 64))) (2 ^ 1)))) - (1:Int))),(IntKind.wrap .i64 ((IntKind.wrap .i64 (d+a))+(1:Int))),true)))else(bif decide ((0:Int)<a)then bif decide ((IntKind.wrap .i64 b)=(0:Int))then some true else(aT n (Int.fdiv (bits .or .i64 c (IntKind.wrap .i64 ((bits .and .i64 (IntKind.wrap .i64 b) (127:Int))*2 ^ min (Int.toNat (IntKind.wrap .u64 (IntKind.wrap .i64 ((7:Int)*a)))) 64))) (2 ^ 1)) ((-1000000000000):Int) (1000000000000:Int)).bind fun l=>some (!l)else(aT n (Int.fdiv (bits .or .i64 c (IntKind.wrap .i64 ((bits .and .i64 (IntKind.wrap .i64 b) (127:Int))*2 ^ min (Int.toNat (IntKind.wrap .u64 (IntKind.wrap .i64 ((7:Int)*a)))) 64))) (2 ^ 1)) ((-1000000000000):Int) (1000000000000:Int)).bind fun m=>some (!m)).bind fun p=>bif p then some (.inr (.inl ((0:Int),(0:Int),false)))else some (.inr (.inl ((Int.fdiv (bits .or .i64 c (IntKind.wrap .i64 ((bits .and .i64 (IntKind.wrap .i64 b) (127:Int))*2 ^ min (Int.toNat (IntKind.wrap .u64 (IntKind.wrap .i64 ((7:Int)*a)))) 64))) (2 ^ 1)),(IntKind.wrap .i64 ((IntKind.wrap .i64 (d+a))+(1:Int))),true)))else some (.inr (.inr (c,a,false)))
def lA(n:Nat)(a:List Int)(b:Int):Option (Int×Int×Bool):=
  (loopN (fP n a b) n ((0:Int),(0:Int))).bind fun q=>(match q with | .inl (c,d,f)=>some (c,d,f) | .inr (j,l,g)=>some ((0:Int),(0:Int),false))
theorem vY{n:Nat}:Hx (lA n):=by
 intro M N r h; unfold lA at h; refine bF Try.func40 rfl rfl<|gcc 15 rfl<|cLp h [(4,73)] [] (fun(b,c)=>([(7,I64 b),(8,I64 c)],[])) (fun q=>match q with | .inl (m,o,p)=>(.r,[(4,I64 m),(5,I64 o),(6,Bo p)],[]) | .inr (s,t,g)=>(.e 0,[(7,I64 s),(8,I64 t),(30,Bo g)],[])) rfl (fun st _ h=> ?_) (fun q h=> ?_)
 obtain⟨b,c⟩:=st; unfold fP at h; refine gco 3 rfl<|oJn h [(11,30)] [] (fun j=>(.n,[(30,Bo j)],[])) (fun _ h=> ?_) (fun j h=> ?_)
 refine goo 3 rfl<|oIf 13 h rfl (fun z h=> ?_) (fun z h=> ?_)
 refine goo 4 rfl<|oIf 17 h rfl (fun A h=> ?_) (fun A h=> ?_)
 refine goo 2 rfl<|xLn rfl<|goo 3 rfl<|oIf 23 h rfl (fun B h=> ?_) (fun B h=> ?_)
 exact goo 4 rfl<|xLn rfl<|geo
 exact geo; exact geo; exact geo; refine cIf h rfl (fun C h=> ?_) (fun C h=> ?_)
 refine gco 9 rfl<|xIx h lQ rfl (fun a h=> ?_)
 refine goo 8 rfl<|wBi (.int .i64 (bits .and .i64 (IntKind.wrap .i64 a) (127:Int))) rfl rfl rfl rfl rfl<|goo 3 rfl<|oCk h (fun l h=> ?_)
 refine wShl l rfl rfl rfl rfl<|wBi (.int .i64 (bits .or .i64 b (IntKind.wrap .i64 ((bits .and .i64 (IntKind.wrap .i64 a) (127:Int))*2 ^ min (Int.toNat (IntKind.wrap .u64 (IntKind.wrap .i64 ((7:Int)*c)))) 64)))) rfl rfl rfl rfl rfl<|goc 8 rfl<|cIf h rfl (fun D h=> ?_) (fun D h=> ?_)
 exact gec; refine gco 4 rfl<|wBi (.int .i64 (Int.fdiv (bits .or .i64 b (IntKind.wrap .i64 ((bits .and .i64 (IntKind.wrap .i64 a) (127:Int))*2 ^ min (Int.toNat (IntKind.wrap .u64 (IntKind.wrap .i64 ((7:Int)*c)))) 64))) (2 ^ 1))) rfl rfl rfl rfl rfl<|goo 6 rfl<|wBi (.int .i64 (bits .and .i64 (bits .or .i64 b (IntKind.wrap .i64 ((bits .and .i64 (IntKind.wrap .i64 a) (127:Int))*2 ^ min (Int.toNat (IntKind.wrap .u64 (IntKind.wrap .i64 ((7:Int)*c)))) 64))) (1:Int))) rfl rfl rfl rfl rfl<|goc 2 rfl<|cIf h rfl (fun E h=> ?_) (fun E h=> ?_)
 refine gco 2 rfl<|wNeg rfl rfl rfl<|goo 6 rfl<|oJn h [(58,68)] [] (fun d=>(.n,[(68,Bo d)],[])) (fun _ h=> ?_) (fun d h=> ?_)
 refine goo 3 rfl<|oIf 60 h rfl (fun G h=> ?_) (fun G h=> ?_)
 refine goo 4 rfl<|oIf 64 h rfl (fun H h=> ?_) (fun H h=> ?_)
 exact geo; refine xMv rfl<|xC0 h (aV ·) rfl (fun u h=> ?_)
 exact geo; refine goo 5 rfl<|xC0 h (aV ·) rfl (fun v h=> ?_)
 exact geo; refine cIf h rfl (fun I h=> ?_) (fun I h=> ?_)
 exact gec; exact gec; refine gco 4 rfl<|oJn h [(58,68)] [] (fun f=>(.n,[(68,Bo f)],[])) (fun _ h=> ?_) (fun f h=> ?_)
 refine goo 3 rfl<|oIf 60 h rfl (fun J h=> ?_) (fun J h=> ?_)
 refine goo 4 rfl<|oIf 64 h rfl (fun K h=> ?_) (fun K h=> ?_)
 exact geo; refine xMv rfl<|xC0 h (aV ·) rfl (fun w h=> ?_)
 exact geo; refine goo 5 rfl<|xC0 h (aV ·) rfl (fun y h=> ?_)
 exact geo; refine cIf h rfl (fun L h=> ?_) (fun L h=> ?_)
 exact gec; exact gec; exact gec; rcases q with⟨m,o,p⟩ | ⟨s,t,g⟩; exact en; exact gec
abbrev Hv(p:(List Int)→Int→Bool→Option (Int×(List Int)×Int×Bool)):Prop:= ∀ {a:List Int} {b:Int} {d:Bool} {r:Int×(List Int)×Int×Bool},p a b d=some r→Big Try.prog τ An (.fn 20 [.one (.ptr 1000000 0)] [[.sl (a.map rI_u8), .int .i64 b, .bool d]] (.one (.c (.int .i64 r.1))) none [[.sl (r.2.1.map rI_u8), .int .i64 r.2.2.1, .bool r.2.2.2]] none)
def bH(n:Nat)(b:List Int)(c:Int)(d:Bool):Option (Int×(List Int)×Int×Bool):=
  (lA n b c).bind fun a=>(bif d then some true else some (!a.2.2)).bind fun f=>bif f then some ((0:Int),b,c,true)else some (a.1,b,a.2.1,d)
theorem cY{n:Nat}:Hv (bH n):=by
 intro c d f r h; unfold bH at h; refine bF Try.func20 rfl rfl<|gco 14 rfl<|xC0 h (vY ·) rfl (fun b h=> ?_)
 refine goo 11 rfl<|oJn h [(19,26)] [] (fun a=>(.n,[(26,Bo a)],[])) (fun _ h=> ?_) (fun a h=> ?_)
 refine goo 5 rfl<|oIf 23 h rfl (fun g h=> ?_) (fun g h=> ?_)
 exact geo; exact geo; refine cIf h rfl (fun j h=> ?_) (fun j h=> ?_)
 exact gec; exact gec
abbrev Fo(p:(List Int)→Int→Option ((List UInt8)×Int×Bool)):Prop:= ∀ {a:List Int} {b:Int} {r:(List UInt8)×Int×Bool},p a b=some r→Big Try.prog τ An (.fn 56 [.one (.c (.sl (a.map rI_u8))), .one (.c (.int .i64 b))] [] (.tup [.c (.str r.1), .c (.int .i64 r.2.1), .c (.bool r.2.2)]) none [] none)
def oT(n:Nat)(b:List Int)(g:Int):Option ((List UInt8)×Int×Bool):=
  (lA n b g).bind fun a=>(bif !a.2.2 then some true else bif decide (a.1<(0:Int))then some true else some (decide ((IntKind.wrap .i64 ((b.length:Int) - a.2.1))<a.1))).bind fun c=>bif c then some (([]:List UInt8),(0:Int),false)else(sub b (some a.2.1) (some (IntKind.wrap .i64 (a.2.1+a.1)))).bind fun d=>(qB d).bind fun f=>some (f,(IntKind.wrap .i64 (a.2.1+a.1)),true)
theorem Ck{n:Nat}:Fo (oT n):=by
 intro l m r h; unfold oT at h; refine bF Try.func56 rfl rfl<|gco 10 rfl<|xC0 h (vY ·) rfl (fun b h=> ?_)
 refine goo 11 rfl<|oJn h [(17,30)] [] (fun a=>(.n,[(30,Bo a)],[])) (fun _ h=> ?_) (fun a h=> ?_)
 refine goo 3 rfl<|oIf 19 h rfl (fun f h=> ?_) (fun f h=> ?_)
 exact geo; refine goo 4 rfl<|oIf 23 h rfl (fun g h=> ?_) (fun g h=> ?_)
 exact geo; exact goo 2 rfl<|xLn rfl<|geo
 refine cIf h rfl (fun j h=> ?_) (fun j h=> ?_)
 exact gec; refine gco 8 rfl<|wSl (rf:=rI_u8) h rfl rfl rfl rfl (.so rfl) (.so rfl) (fun _=>rfl) rfl (fun c h=> ?_)
 refine wTs h rfl rfl ⟨rfl,rfl⟩ rfl lQ rfl (fun d h=> ?_)
 exact geo
abbrev Hu(p:(List Int)→Int→Bool→Option ((List UInt8)×(List Int)×Int×Bool)):Prop:= ∀ {a:List Int} {b:Int} {d:Bool} {r:(List UInt8)×(List Int)×Int×Bool},p a b d=some r→Big Try.prog τ An (.fn 41 [.one (.ptr 1000000 0)] [[.sl (a.map rI_u8), .int .i64 b, .bool d]] (.one (.c (.str r.1))) none [[.sl (r.2.1.map rI_u8), .int .i64 r.2.2.1, .bool r.2.2.2]] none)
def fZ(n:Nat)(b:List Int)(c:Int)(d:Bool):Option ((List UInt8)×(List Int)×Int×Bool):=
  (oT n b c).bind fun a=>(bif d then some true else some (!a.2.2)).bind fun f=>bif f then some (([]:List UInt8),b,c,true)else some (a.1,b,a.2.1,d)
theorem rG{n:Nat}:Hu (fZ n):=by
 intro c d f r h; unfold fZ at h; refine bF Try.func41 rfl rfl<|gco 14 rfl<|xC0 h (Ck ·) rfl (fun b h=> ?_)
 refine goo 11 rfl<|oJn h [(19,26)] [] (fun a=>(.n,[(26,Bo a)],[])) (fun _ h=> ?_) (fun a h=> ?_)
 refine goo 5 rfl<|oIf 23 h rfl (fun g h=> ?_) (fun g h=> ?_)
 exact geo; exact geo; refine cIf h rfl (fun j h=> ?_) (fun j h=> ?_)
 exact gec; exact gec
abbrev KE(p:(List Int)→Int→Bool→Option ((List UInt8)×Int×Int×(List aG)×(List Int)×Int×Bool)):Prop:= ∀ {a:List Int} {b:Int} {c:Bool} {r:(List UInt8)×Int×Int×(List aG)×(List Int)×Int×Bool},p a b c=some r→Big Try.prog τ An (.fn 21 [.one (.ptr 1000000 0)] [[.sl (a.map rI_u8), .int .i64 b, .bool c]] (.one (.ag [.str r.1, .int .i64 r.2.1, .int .i64 r.2.2.1, .sl (r.2.2.2.1.map aK)])) none [[.sl (r.2.2.2.2.1.map rI_u8), .int .i64 r.2.2.2.2.2.1, .bool r.2.2.2.2.2.2]] none)
def gG(n:Nat)(v:Int×(List Int)×Int×Bool):(Int×(List UInt8)×Int×Int×(List aG)×(List Int)×Int×Bool)→Option ((Int×(List UInt8)×Int×Int×(List aG)×(List Int)×Int×Bool)⊕((Int×Bool×(List UInt8)×Int×Int×(List aG)×(List Int)×Int×Bool)))
  | (l,p,s,t,u,b,c,a)=>(bif decide (l<v.1)then bif decide (l<(1501:Int))then some (!a)else some false else some false).bind fun m=>bif m then(bH n b c a).bind fun d=>(bH n d.2.1 d.2.2.1 d.2.2.2).bind fun f=>(fZ n f.2.1 f.2.2.1 f.2.2.2).bind fun g=>(bH n g.2.1 g.2.2.1 g.2.2.2).bind fun j=>(dG 40 u ([aG.mk d.1 f.1 g.1 j.1]:List aG)).bind fun o=>some (.inl ((IntKind.wrap .i64 (l+(1:Int))),p,s,t,o,j.2.1,j.2.2.1,j.2.2.2))else some (.inr (l,false,p,s,t,u,b,c,a))
def pC(n:Nat)(s:List Int)(t:Int)(u:Bool):Option ((List UInt8)×Int×Int×(List aG)×(List Int)×Int×Bool):=
  (fZ n s t u).bind fun j=>(bH n j.2.1 j.2.2.1 j.2.2.2).bind fun a=>(bH n a.2.1 a.2.2.1 a.2.2.2).bind fun b=>(bH n b.2.1 b.2.2.1 b.2.2.2).bind fun c=>(loopN (gG n c) n ((0:Int),j.1,a.1,b.1,([]:List aG),c.2.1,c.2.2.1,c.2.2.2)).bind fun(w,v,l,m,o,p,d,f,g)=>some (l,m,o,p,d,f,g)
theorem FY{n:Nat}:KE (pC n):=by
 intro R T U r h; unfold pC at h; refine bF Try.func21 rfl rfl<|cRs<|xAz [.str [], .int .i64 0, .int .i64 0, .sl ([].map aK)] rfl<|goo 4 rfl<|xC1 h (rG ·) rfl (fun G h=> ?_)
 refine wBd [.str G.1, .int .i64 0, .int .i64 0, .sl ([].map aK)] rfl rfl rfl rfl rfl rfl<|xAz [.str [], .int .i64 0, .int .i64 0, .sl ([].map aK)] rfl<|goo 5 rfl<|xC1 h (cY ·) rfl (fun M h=> ?_)
 refine goo 6 rfl<|xC1 h (cY ·) rfl (fun N h=> ?_)
 refine goo 6 rfl<|xC1 h (cY ·) rfl (fun Q h=> ?_)
 refine goc 7 rfl<|cLp h [(5,6),(18,51)] [(3,3),(6,6),(1000000,1000000)] (fun(A,B,C,D,E,a,b,c)=>([(5,I64 A)],[(3,[.str B, .int .i64 C, .int .i64 D, .sl (E.map aK)]),(1000000,[.sl (a.map rI_u8), .int .i64 b, .bool c])])) (fun(p,m,s,t,u,v,d,g,j)=>(.e 0,[(5,I64 p),(31,Bo m)],[(3,[.str s, .int .i64 t, .int .i64 u, .sl (v.map aK)]),(1000000,[.sl (d.map rI_u8), .int .i64 g, .bool j])])) rfl (fun st _ h=> ?_) (fun q h=> ?_)
 obtain⟨A,B,C,D,E,a,b,c⟩:=st; unfold gG at h; refine gco 3 rfl<|oJn h [(18,31)] [] (fun o=>(.n,[(31,Bo o)],[])) (fun _ h=> ?_) (fun o h=> ?_)
 refine goo 4 rfl<|oIf 21 h rfl (fun H h=> ?_) (fun H h=> ?_)
 refine goo 4 rfl<|oIf 25 h rfl (fun I h=> ?_) (fun I h=> ?_)
 exact geo; exact geo; exact geo; refine cIf h rfl (fun J h=> ?_) (fun J h=> ?_)
 refine gco 6 rfl<|xC1 h (cY ·) rfl (fun l h=> ?_)
 refine wBd [.int .i64 l.1, .int .i64 0, .str [], .int .i64 0] rfl rfl rfl rfl rfl rfl<|xAc rfl<|goo 5 rfl<|xC1 h (cY ·) rfl (fun w h=> ?_)
 refine goo 6 rfl<|xC1 h (rG ·) rfl (fun y h=> ?_)
 refine goo 6 rfl<|xC1 h (cY ·) rfl (fun z h=> ?_)
 refine goo 7 rfl<|cW (L:=([aG.mk l.1 w.1 y.1 z.1]:List aG)) (f:=aK) rfl rfl rfl rfl rfl rfl rfl<|wAp (f:=aK) h rfl rfl rfl rfl rfl rfl rfl rfl rfl (fun _=>rfl) rfl (fun K h=> ?_)
 exact geo; exact gec; obtain⟨p,m,s,t,u,v,d,g,j⟩:=q; exact gec
abbrev hJ:Type:=Int→(List Int)→Int→Bool→Option (Int×Int×(List UInt8)×(List aA)×(List Int)×Int×Bool)
abbrev qN(p:hJ):Prop:= ∀ {f:Int} {a:List Int} {b:Int} {d:Bool} {r:Int×Int×(List UInt8)×(List aA)×(List Int)×Int×Bool},p f a b d=some r→Big Try.prog τ An (.fn 22 [.one (.ptr 1000000 0), .one (.c (.int .i64 f))] [[.sl (a.map rI_u8), .int .i64 b, .bool d]] (.one (.ag [.int .i64 r.1, .int .i64 r.2.1, .str r.2.2.1, .sl (r.2.2.2.1.map aH)])) none [[.sl (r.2.2.2.2.1.map rI_u8), .int .i64 r.2.2.2.2.2.1, .bool r.2.2.2.2.2.2]] none)
def dJ(n:Nat)(f:hJ)(u:Int)(t:Int×(List Int)×Int×Bool):(Int×Int×Int×(List UInt8)×(List aA)×(List Int)×Int×Bool)→Option ((Int×Int×Int×(List UInt8)×(List aA)×(List Int)×Int×Bool)⊕((Int×Bool×Int×Int×(List UInt8)×(List aA)×(List Int)×Int×Bool)))
  | (g,j,l,m,o,c,d,b)=>(bif decide (g<t.1)then some (!b)else some false).bind fun p=>bif p then(f (IntKind.wrap .i64 (u - (1:Int))) c d b).bind fun a=>(dG 56 o ([aA.mk a.1 a.2.1 a.2.2.1 a.2.2.2.1]:List aA)).bind fun s=>some (.inl ((IntKind.wrap .i64 (g+(1:Int))),j,l,m,s,a.2.2.2.2.1,a.2.2.2.2.2.1,a.2.2.2.2.2.2))else some (.inr (g,false,j,l,m,o,c,d,b))
def uO(n:Nat)(f:hJ)(u:Int)(t:Int×(List Int)×Int×Bool):(Int×Int×Int×(List UInt8)×(List aA)×(List Int)×Int×Bool)→Option ((Int×Int×Int×(List UInt8)×(List aA)×(List Int)×Int×Bool)⊕((Int×Bool×Int×Int×(List UInt8)×(List aA)×(List Int)×Int×Bool)))
  | (g,j,l,m,o,c,d,b)=>(bif decide (g<t.1)then some (!b)else some false).bind fun p=>bif p then(f (IntKind.wrap .i64 (u - (1:Int))) c d b).bind fun a=>(dG 56 o ([aA.mk a.1 a.2.1 a.2.2.1 a.2.2.2.1]:List aA)).bind fun s=>some (.inl ((IntKind.wrap .i64 (g+(1:Int))),j,l,m,s,a.2.2.2.2.1,a.2.2.2.2.2.1,a.2.2.2.2.2.2))else some (.inr (g,false,j,l,m,o,c,d,b))
def fU(n:Nat)(b:hJ)(s:Int)(E:List Int)(G:Int)(H:Bool):Option (Int×Int×(List UInt8)×(List aA)×(List Int)×Int×Bool):=
  (bH n E G H).bind fun f=>(bH n f.2.1 f.2.2.1 f.2.2.2).bind fun c=>(fZ n c.2.1 c.2.2.1 c.2.2.2).bind fun d=>(bH n d.2.1 d.2.2.1 d.2.2.2).bind fun a=>(bif decide (s<(1:Int))then some true else(aT n a.1 (0:Int) (20:Int)).bind fun t=>some (!t)).bind fun u=>bif u then(loopN (dJ n b s a) n ((0:Int),f.1,c.1,d.1,([]:List aA),a.2.1,a.2.2.1,true)).bind fun(K,I,v,w,y,z,g,j,l)=>some (v,w,y,z,g,j,l)else(loopN (uO n b s a) n ((0:Int),f.1,c.1,d.1,([]:List aA),a.2.1,a.2.2.1,a.2.2.2)).bind fun(L,J,A,B,C,D,m,o,p)=>some (A,B,C,D,m,o,p)
theorem CP{n:Nat}{c:hJ}(b:qN c):qN (fU n c):=by
 intro c0 b5 b6 b7 r h; unfold fU at h; refine bF Try.func22 rfl rfl<|cRs<|xAz [.int .i64 0, .int .i64 0, .str [], .sl ([].map aH)] rfl<|goo 4 rfl<|xC1 h (cY ·) rfl (fun a4 h=> ?_)
 refine wBd [.int .i64 a4.1, .int .i64 0, .str [], .sl ([].map aH)] rfl rfl rfl rfl rfl rfl<|xAz [.int .i64 0, .int .i64 0, .str [], .sl ([].map aH)] rfl<|goo 5 rfl<|xC1 h (cY ·) rfl (fun b1 h=> ?_)
 refine goo 6 rfl<|xC1 h (rG ·) rfl (fun b2 h=> ?_)
 refine goo 6 rfl<|xC1 h (cY ·) rfl (fun b3 h=> ?_)
 refine goo 5 rfl<|oJn h [(19,25)] [] (fun E=>(.n,[(25,Bo E)],[])) (fun _ h=> ?_) (fun E h=> ?_)
 refine goo 3 rfl<|oIf 21 h rfl (fun q6 h=> ?_) (fun q6 h=> ?_)
 exact geo; refine xMv rfl<|xC0 h (aV ·) rfl (fun b4 h=> ?_)
 exact geo; refine cIf h rfl (fun q8 h=> ?_) (fun q8 h=> ?_)
 refine gcc 11 rfl<|cLp h [(7,7),(29,49)] [(5,5),(1000000,1000000)] (fun(a3,J,K,M,N,d,g,j)=>([(7,I64 a3)],[(5,[.int .i64 J, .int .i64 K, .str M, .sl (N.map aH)]),(1000000,[.sl (d.map rI_u8), .int .i64 g, .bool j])])) (fun(G,A,Q,R,T,U,l,m,o)=>(.e 0,[(7,I64 G),(38,Bo A)],[(5,[.int .i64 Q, .int .i64 R, .str T, .sl (U.map aH)]),(1000000,[.sl (l.map rI_u8), .int .i64 m, .bool o])])) rfl (fun st _ h=> ?_) (fun q h=> ?_)
 obtain⟨a3,J,K,M,N,d,g,j⟩:=st; unfold dJ at h; refine gco 3 rfl<|oJn h [(29,38)] [] (fun B=>(.n,[(38,Bo B)],[])) (fun _ h=> ?_) (fun B h=> ?_)
 refine goo 4 rfl<|oIf 32 h rfl (fun a5 h=> ?_) (fun a5 h=> ?_)
 exact geo; exact geo; refine cIf h rfl (fun a6 h=> ?_) (fun a6 h=> ?_)
 refine gco 9 rfl<|xC1 h (b ·) rfl (fun y h=> ?_)
 refine cW (L:=([aA.mk y.1 y.2.1 y.2.2.1 y.2.2.2.1]:List aA)) (f:=aH) rfl rfl rfl rfl (by simp only[List.map,dH]<;>rfl) rfl rfl<|wAp (f:=aH) h rfl rfl rfl rfl rfl rfl rfl rfl rfl (fun a=>by rw[aX]; rfl) rfl (fun a9 h=> ?_)
 exact geo; exact gec; obtain⟨G,A,Q,R,T,U,l,m,o⟩:=q; exact gec; refine gcc 6 rfl<|cLp h [(7,7),(29,49)] [(5,5),(1000000,1000000)] (fun(H,V,W,X,Y,p,s,t)=>([(7,I64 H)],[(5,[.int .i64 V, .int .i64 W, .str X, .sl (Y.map aH)]),(1000000,[.sl (p.map rI_u8), .int .i64 s, .bool t])])) (fun(I,C,Z,a0,a1,a2,u,v,w)=>(.e 0,[(7,I64 I),(38,Bo C)],[(5,[.int .i64 Z, .int .i64 a0, .str a1, .sl (a2.map aH)]),(1000000,[.sl (u.map rI_u8), .int .i64 v, .bool w])])) rfl (fun st _ h=> ?_) (fun q h=> ?_)
 obtain⟨H,V,W,X,Y,p,s,t⟩:=st; unfold uO at h; refine gco 3 rfl<|oJn h [(29,38)] [] (fun D=>(.n,[(38,Bo D)],[])) (fun _ h=> ?_) (fun D h=> ?_)
 refine goo 4 rfl<|oIf 32 h rfl (fun a7 h=> ?_) (fun a7 h=> ?_)
 exact geo; exact geo; refine cIf h rfl (fun a8 h=> ?_) (fun a8 h=> ?_)
 refine gco 9 rfl<|xC1 h (b ·) rfl (fun z h=> ?_)
 refine cW (L:=([aA.mk z.1 z.2.1 z.2.2.1 z.2.2.2.1]:List aA)) (f:=aH) rfl rfl rfl rfl (by simp only[List.map,dH]<;>rfl) rfl rfl<|wAp (f:=aH) h rfl rfl rfl rfl rfl rfl rfl rfl rfl (fun a=>by rw[aX]; rfl) rfl (fun b0 h=> ?_)
 exact geo; exact gec; obtain⟨I,C,Z,a0,a1,a2,u,v,w⟩:=q; exact gec
def AD:Nat→(hJ)
  | 0=>(fun _ _ _ _=>none)
  | n+1=>fU n (AD n)
def cO(n:Nat):hJ:=AD n
theorem CX(n:Nat):qN (cO n):=by
  induction n with
  | zero=>exact(fun h=>nomatch h)
  | succ n ih=>exact CP (n:=n) ih
theorem Ee{n:Nat}:qN (cO n):=(CX n)
theorem Mh(n:Nat):cO (n+1)=fU n (cO n):=rfl
abbrev Fq(p:(List Int)→Option ((List aF)×(List aA)×Bool)):Prop:= ∀ {a:List Int} {r:(List aF)×(List aA)×Bool},p a=some r→Big Try.prog τ An (.fn 7 [.one (.c (.sl (a.map rI_u8)))] [] (.tup [.ag [.sl (r.1.map aL), .sl (r.2.1.map aH)], .c (.bool r.2.2)]) none [] none)
def eI(n:Nat)(o:Int×(List Int)×Int×Bool):(Int×(List aF)×(List aA)×(List Int)×Int×Bool)→Option ((Int×(List aF)×(List aA)×(List Int)×Int×Bool)⊕((Int×Bool×(List aF)×(List aA)×(List Int)×Int×Bool)))
  | (b,l,m,d,f,c)=>(bif decide (b<o.1)then bif decide (b<(13:Int))then some (!c)else some false else some false).bind fun g=>bif g then(pC n d f c).bind fun a=>(dG 56 l ([aF.mk a.1 a.2.1 a.2.2.1 a.2.2.2.1]:List aF)).bind fun j=>some (.inl ((IntKind.wrap .i64 (b+(1:Int))),j,m,a.2.2.2.2.1,a.2.2.2.2.2.1,a.2.2.2.2.2.2))else some (.inr (b,false,l,m,d,f,c))
def eH(n:Nat)(l:Int×(List Int)×Int×Bool):(Int×(List aF)×(List aA)×(List Int)×Int×Bool)→Option ((Int×(List aF)×(List aA)×(List Int)×Int×Bool)⊕((Int×Bool×(List aF)×(List aA)×(List Int)×Int×Bool)))
  | (b,g,j,d,f,c)=>(bif decide (b<l.1)then bif decide (b<(2001:Int))then some (!c)else some false else some false).bind fun m=>bif m then(cO n (10:Int) d f c).bind fun a=>(dG 56 j ([aA.mk a.1 a.2.1 a.2.2.1 a.2.2.2.1]:List aA)).bind fun o=>some (.inl ((IntKind.wrap .i64 (b+(1:Int))),g,o,a.2.2.2.2.1,a.2.2.2.2.2.1,a.2.2.2.2.2.2))else some (.inr (b,false,g,j,d,f,c))
def mC(n:Nat)(f:List Int):Option ((List aF)×(List aA)×Bool):=
  (bH n f (0:Int) false).bind fun b=>(loopN (eI n b) n ((0:Int),([]:List aF),([]:List aA),b.2.1,b.2.2.1,b.2.2.2)).bind fun(C,A,v,w,o,p,s)=>(bH n o p s).bind fun a=>(loopN (eH n a) n ((0:Int),v,w,a.2.1,a.2.2.1,a.2.2.2)).bind fun(B,y,c,d,z,t,u)=>(bif u then some true else bif !decide (t=(f.length:Int))then some true else bif !decide (b.1=(c.length:Int))then some true else bif !decide (a.1=(d.length:Int))then some true else(iH n c d).bind fun g=>(qB g).bind fun j=>(qB f).bind fun l=>some (!decide (j=l))).bind fun m=>bif m then some (([]:List aF),([]:List aA),false)else some (c,d,true)
theorem Cl{n:Nat}:Fq (mC n):=by
 intro U r h; unfold mC at h; refine bF Try.func7 rfl rfl<|cRs<|xAz [.sl ([].map aL), .sl ([].map aH)] rfl<|goo 5 rfl<|wBd [.sl (U.map rI_u8), .int .i64 0, .bool false] rfl rfl rfl rfl rfl rfl<|goo 5 rfl<|wBd [.sl ([].map aL), .sl ([].map aH)] rfl rfl rfl rfl rfl rfl<|xAz [.sl ([].map aL), .sl ([].map aH)] rfl<|goo 5 rfl<|xC1 h (cY ·) rfl (fun b2 h=> ?_)
 refine goc 7 rfl<|cLp h [(7,7),(16,38)] [(5,5),(12,12)] (fun(N,R,T,C,D,E)=>([(7,I64 N)],[(5,[.sl (R.map aL), .sl (T.map aH)]),(12,[.sl (C.map rI_u8), .int .i64 D, .bool E])])) (fun(Q,z,G,H,m,o,p)=>(.e 0,[(7,I64 Q),(29,Bo z)],[(5,[.sl (G.map aL), .sl (H.map aH)]),(12,[.sl (m.map rI_u8), .int .i64 o, .bool p])])) rfl (fun st _ h=> ?_) (fun q h=> ?_)
 obtain⟨N,R,T,C,D,E⟩:=st; unfold eI at h; refine gco 3 rfl<|oJn h [(16,29)] [] (fun d=>(.n,[(29,Bo d)],[])) (fun _ h=> ?_) (fun d h=> ?_)
 refine goo 4 rfl<|oIf 19 h rfl (fun X h=> ?_) (fun X h=> ?_)
 refine goo 4 rfl<|oIf 23 h rfl (fun Y h=> ?_) (fun Y h=> ?_)
 exact geo; exact geo; exact geo; refine cIf h rfl (fun Z h=> ?_) (fun Z h=> ?_)
 refine gco 7 rfl<|xC1 h (FY ·) rfl (fun b h=> ?_)
 refine cW (L:=([aF.mk b.1 b.2.1 b.2.2.1 b.2.2.2.1]:List aF)) (f:=aL) rfl rfl rfl rfl rfl rfl rfl<|wAp (f:=aL) h rfl rfl rfl rfl rfl rfl rfl rfl rfl (fun _=>rfl) rfl (fun a8 h=> ?_)
 exact geo; exact gec; obtain⟨Q,z,G,H,m,o,p⟩:=q; refine gco 3 rfl<|xC1 h (cY ·) rfl (fun V h=> ?_)
 refine goc 7 rfl<|cLp h [(9,9),(41,63)] [(5,5),(12,12)] (fun(A,I,J,s,t,u)=>([(9,I64 A)],[(5,[.sl (I.map aL), .sl (J.map aH)]),(12,[.sl (s.map rI_u8), .int .i64 t, .bool u])])) (fun(B,g,K,M,v,w,y)=>(.e 2,[(9,I64 B),(54,Bo g)],[(5,[.sl (K.map aL), .sl (M.map aH)]),(12,[.sl (v.map rI_u8), .int .i64 w, .bool y])])) rfl (fun st _ h=> ?_) (fun q h=> ?_)
 obtain⟨A,I,J,s,t,u⟩:=st; unfold eH at h; refine gco 3 rfl<|oJn h [(41,54)] [] (fun j=>(.n,[(54,Bo j)],[])) (fun _ h=> ?_) (fun j h=> ?_)
 refine goo 4 rfl<|oIf 44 h rfl (fun a0 h=> ?_) (fun a0 h=> ?_)
 refine goo 4 rfl<|oIf 48 h rfl (fun a1 h=> ?_) (fun a1 h=> ?_)
 exact geo; exact geo; exact geo; refine cIf h rfl (fun a2 h=> ?_) (fun a2 h=> ?_)
 refine gco 7 rfl<|xC1 h (Ee ·) rfl (fun c h=> ?_)
 refine cW (L:=([aA.mk c.1 c.2.1 c.2.2.1 c.2.2.2.1]:List aA)) (f:=aH) rfl rfl rfl rfl (by simp only[List.map,dH]<;>rfl) rfl rfl<|wAp (f:=aH) h rfl rfl rfl rfl rfl rfl rfl rfl rfl (fun a=>by rw[aX]; rfl) rfl (fun a9 h=> ?_)
 exact geo; exact gec; obtain⟨B,g,K,M,v,w,y⟩:=q; refine gco 3 rfl<|oJn h [(64,98)] [] (fun l=>(.n,[(98,Bo l)],[])) (fun _ h=> ?_) (fun l h=> ?_)
 refine goo 5 rfl<|oIf 68 h rfl (fun a3 h=> ?_) (fun a3 h=> ?_)
 exact geo; refine goo 5 rfl<|xLn rfl<|goo 3 rfl<|oIf 77 h rfl (fun a4 h=> ?_) (fun a4 h=> ?_)
 exact geo; refine goo 3 rfl<|xLn rfl<|goo 3 rfl<|oIf 84 h rfl (fun a5 h=> ?_) (fun a5 h=> ?_)
 exact geo; refine goo 3 rfl<|xLn rfl<|goo 3 rfl<|oIf 91 h rfl (fun a6 h=> ?_) (fun a6 h=> ?_)
 exact geo; refine xLd rfl<|xC0 h (uR ·) rfl (fun W h=> ?_)
 refine wTs h rfl rfl ⟨rfl,rfl⟩ rfl lQ rfl (fun b0 h=> ?_)
 refine xMv rfl<|wTs h rfl rfl ⟨rfl,rfl⟩ rfl lQ rfl (fun b1 h=> ?_)
 exact geo; refine cIf h rfl (fun a7 h=> ?_) (fun a7 h=> ?_)
 exact cRs<|wBd [.sl ([].map aL), .sl ([].map aH)] rfl rfl rfl rfl rfl rfl<|geo
 exact gec
abbrev Cs(p:(List Int)→(List Int)→Option (Bool)):Prop:= ∀ {a b:List Int} {r:Bool},p a b=some r→Big Try.prog τ An (.fn 9 [.one (.c (.sl (a.map rI_u8))), .one (.c (.sl (b.map rI_u8)))] [] (.one (.c (.bool r))) none [] none)
def jH(n:Nat)(b:List Int)(f:List Int):(Int)→Option ((Int)⊕((Bool)⊕(Int×Bool)))
  | a=>bif decide (a<(b.length:Int))then(ix b a).bind fun c=>(ix f a).bind fun d=>bif !decide (c=d)then some (.inr (.inl false))else some (.inl (IntKind.wrap .i64 (a+(1:Int))))else some (.inr (.inr (a,false)))
def gX(n:Nat)(a:List Int)(b:List Int):Option (Bool):=
  bif !decide ((a.length:Int)=(b.length:Int))then some false else(loopN (jH n a b) n (0:Int)).bind fun q=>(match q with | .inl c=>some c | .inr (f,d)=>some true)
theorem sF{n:Nat}:Cs (gX n):=by
 intro o p r h; unfold gX at h; refine bF Try.func9 rfl rfl<|gco 8 rfl<|xLn rfl<|xMv rfl<|xLn rfl<|goc 2 rfl<|cIf h rfl (fun j h=> ?_) (fun j h=> ?_)
 exact gec; refine gcc 6 rfl<|cLp h [(4,5),(11,25)] [] (fun c=>([(5,I64 c)],[])) (fun q=>match q with | .inl b=>(.r,[(4,Bo b)],[]) | .inr (d,a)=>(.e 0,[(5,I64 d),(14,Bo a)],[])) rfl (fun c _ h=> ?_) (fun q h=> ?_)
 unfold jH at h; refine gco 5 rfl<|xLn rfl<|goc 2 rfl<|cIf h rfl (fun l h=> ?_) (fun l h=> ?_)
 refine gco 7 rfl<|xIx h lQ rfl (fun f h=> ?_)
 refine goo 3 rfl<|xIx h lQ rfl (fun g h=> ?_)
 refine goc 3 rfl<|cIf h rfl (fun m h=> ?_) (fun m h=> ?_)
 exact gec; exact gec; exact gec; rcases q with b | ⟨d,a⟩; exact en; exact gec
abbrev BO(p:(List Int)→Option (Bool)):Prop:= ∀ {a:List Int} {r:Bool},p a=some r→Big Try.prog τ An (.fn 3 [.one (.c (.sl (a.map rI_u8)))] [] (.one (.c (.bool r))) none [] none)
def lL(n:Nat)(m:List Int):Option (Bool):=
  (wC n m).bind fun p=>bif p then some true else(iC n m).bind fun b=>(mF n b).bind fun a=>(mC n b).bind fun o=>(bif (a.2.2 == o.2.2)then bif !a.2.2 then bif decide ((a.1.length:Int)=(0:Int))then some true else bif a.2.2 then(jC n a.1 a.2.1).bind fun c=>bif c then(cL n a.1 a.2.1).bind fun f=>(gX n f b).bind fun j=>some j else some false else some false else bif a.2.2 then(jC n a.1 a.2.1).bind fun d=>bif d then(cL n a.1 a.2.1).bind fun g=>(gX n g b).bind fun l=>some l else some false else some false else some false).bind fun s=>some s
theorem yT{n:Nat}:BO (lL n):=by
 intro B r h; unfold lL at h; refine bF Try.func3 rfl rfl<|gco 8 rfl<|xC0 h (Jw ·) rfl (fun v h=> ?_)
 refine oNl<|cIf h rfl (fun w h=> ?_) (fun w h=> ?_)
 exact gec; refine gco 4 rfl<|xC0 h (xK ·) rfl (fun u h=> ?_)
 refine goo 5 rfl<|xC0 h (Cp ·) rfl (fun b h=> ?_)
 refine goo 3 rfl<|xAz [.sl ([].map aL), .sl ([].map aH)] rfl<|goo 6 rfl<|xC0 h (Cl ·) rfl (fun c h=> ?_)
 refine goo 3 rfl<|xAz [.sl ([].map aL), .sl ([].map aH)] rfl<|goo 5 rfl<|oJn h [(2,2),(22,47)] [] (fun a=>(.n,[(2,Bo a)],[])) (fun _ h=> ?_) (fun a h=> ?_)
 refine goo 2 rfl<|wBi (.bool ((b.2.2 == c.2.2))) rfl rfl rfl rfl rfl<|xMv rfl<|oIf 25 h rfl (fun y h=> ?_) (fun y h=> ?_)
 refine goo 3 rfl<|oIf 28 h rfl (fun z h=> ?_) (fun z h=> ?_)
 refine goo 2 rfl<|xLn rfl<|goo 3 rfl<|oIf 34 h rfl (fun A h=> ?_) (fun A h=> ?_)
 exact geo; refine goo 2 rfl<|oIf 36 h rfl (fun o h=> ?_) (fun o h=> ?_)
 refine xLd rfl<|xC0 h (rH ·) rfl (fun d h=> ?_)
 refine goo 2 rfl<|oIf 40 h rfl (fun p h=> ?_) (fun p h=> ?_)
 refine xLd rfl<|xC0 h (pV ·) rfl (fun g h=> ?_)
 refine xMv rfl<|xC0 h (sF ·) rfl (fun l h=> ?_)
 exact geo; exact geo; exact geo; refine goo 8 rfl<|oIf 36 h rfl (fun s h=> ?_) (fun s h=> ?_)
 refine xLd rfl<|xC0 h (rH ·) rfl (fun f h=> ?_)
 refine goo 2 rfl<|oIf 40 h rfl (fun t h=> ?_) (fun t h=> ?_)
 refine xLd rfl<|xC0 h (pV ·) rfl (fun j h=> ?_)
 refine xMv rfl<|xC0 h (sF ·) rfl (fun m h=> ?_)
 exact geo; exact geo; exact geo; exact geo; exact gec
end Go.Own
