/- A part of the proof. No conditions. -/
import Derived.Test.YtjfgchodolnmcaaW26A
set_option linter.unusedVariables false
set_option linter.unusedSimpArgs false
set_option linter.unnecessarySimpa false
namespace Go.Own
open Go Go.Proofs
def eF(a:List UInt8):List T:=[.str a]
theorem pM(a:List UInt8):eF a=[.str a]:=rfl
def rI_u8(a:Int):List T:=[.int .u8 a]
theorem JU(a:Int):rI_u8 a=[.int .u8 a]:=rfl
def pX(a:Int):List T:=[.int .i64 a]
theorem MZ(a:Int):pX a=[.int .i64 a]:=rfl
mutual
inductive aA where
  | mk (f0:Int) (f1:Int) (f2:List UInt8) (f3:List aA) (f4:List aC)
inductive aC where
  | two (p x:aA)
end
def aC.p:aC→aA
  | .two a _=>a
def aC.x:aC→aA
  | .two _ a=>a
def aA.f0:aA→Int
  | .mk a _ _ _ _=>a
def aA.f1:aA→Int
  | .mk _ a _ _ _=>a
def aA.f2:aA→List UInt8
  | .mk _ _ a _ _=>a
def aA.f3:aA→List aA
  | .mk _ _ _ a _=>a
def aA.f4:aA→List aC
  | .mk _ _ _ _ a=>a
def aC.f0(c:aC):Int:=aA.f0 (aC.p c)
def aC.f1(c:aC):Int:=aA.f1 (aC.p c)
def aC.f2(c:aC):List UInt8:=aA.f2 (aC.p c)
def aC.f3(c:aC):List aA:=aA.f3 (aC.p c)
def aC.f4(c:aC):List aC:=aA.f4 (aC.p c)
def aC.f5(c:aC):Int:=aA.f0 (aC.x c)
def aC.f6(c:aC):Int:=aA.f1 (aC.x c)
def aC.f7(c:aC):List UInt8:=aA.f2 (aC.x c)
def aC.f8(c:aC):List aA:=aA.f3 (aC.x c)
def aC.f9(c:aC):List aC:=aA.f4 (aC.x c)
def aC.mk(a0:Int)(a1:Int)(a2:List UInt8)(a3:List aA)(a4:List aC)(a5:Int)(a6:Int)(a7:List UInt8)(a8:List aA)(a9:List aC):aC:= .two (.mk a0 a1 a2 a3 a4) (.mk a5 a6 a7 a8 a9)
mutual
def aF:aA→List T
  | .mk a0 a1 a2 a3 a4=> [.int .i64 a0, .int .i64 a1, .str a2, .sl (lR a3), .sl (jA a4)]
def lR:List aA→List (List T)
  | []=> []
  | x::r=>aF x::lR r
def aE:aC→List T
  | .two p x=>aF p++aF x
def jA:List aC→List (List T)
  | []=> []
  | x::r=>aE x::jA r
end
theorem rB: ∀l:List aA,lR l=l.map aF
  | []=>by simp [lR]
  | x::r=>by simp [lR,rB r]
theorem pC: ∀l:List aC,jA l=l.map aE
  | []=>by simp [jA]
  | x::r=>by simp [jA,pC r]
theorem aP(a0:Int)(a1:Int)(a2:List UInt8)(a3:List aA)(a4:List aC):aF (.mk a0 a1 a2 a3 a4)=[.int .i64 a0, .int .i64 a1, .str a2, .sl (a3.map aF), .sl (a4.map aE)]:=by simp only[aF,rB,pC]
theorem aO(a:aA):aF a=[.int .i64 a.f0, .int .i64 a.f1, .str a.f2, .sl (a.f3.map aF), .sl (a.f4.map aE)]:=by
  cases a; exact aP _ _ _ _ _
theorem aX(a:aC):aE a=[.int .i64 a.f0, .int .i64 a.f1, .str a.f2, .sl (a.f3.map aF), .sl (a.f4.map aE), .int .i64 a.f5, .int .i64 a.f6, .str a.f7, .sl (a.f8.map aF), .sl (a.f9.map aE)]:=by
  cases a with
  | two p x=>
    simp only[aE]; rw[aO p,aO x]; rfl
theorem dJ(a0:Int)(a1:Int)(a2:List UInt8)(a3:List aA)(a4:List aC)(a5:Int)(a6:Int)(a7:List UInt8)(a8:List aA)(a9:List aC):aE (.mk a0 a1 a2 a3 a4 a5 a6 a7 a8 a9)=[.int .i64 a0, .int .i64 a1, .str a2, .sl (a3.map aF), .sl (a4.map aE), .int .i64 a5, .int .i64 a6, .str a7, .sl (a8.map aF), .sl (a9.map aE)]:=aX _
inductive aB where
  | mk (f0:Int) (f1:Int) (f2:List UInt8) (f3:List aB)
def aB.f0:aB→Int
  | .mk a _ _ _=>a
def aB.f1:aB→Int
  | .mk _ a _ _=>a
def aB.f2:aB→List UInt8
  | .mk _ _ a _=>a
def aB.f3:aB→List aB
  | .mk _ _ _ a=>a
mutual
def aD:aB→List T
  | .mk a0 a1 a2 a3=> [.int .i64 a0, .int .i64 a1, .str a2, .sl (lQ a3)]
def lQ:List aB→List (List T)
  | []=> []
  | x::r=>aD x::lQ r
end
theorem mT: ∀l:List aB,lQ l=l.map aD
  | []=>by simp [lQ]
  | x::r=>by simp [lQ,mT r]
theorem aN(a:aB):aD a=[.int .i64 a.f0, .int .i64 a.f1, .str a.f2, .sl (a.f3.map aD)]:=by
  cases a; simp [aD,mT,aB.f0,aB.f1,aB.f2,aB.f3]
theorem bY(a0:Int)(a1:Int)(a2:List UInt8)(a3:List aB):aD (.mk a0 a1 a2 a3)=[.int .i64 a0, .int .i64 a1, .str a2, .sl (a3.map aD)]:=by simp [aD,mT]
structure aG where
  f0:List UInt8
  f1:Int
  f2:Int
  f3:List UInt8
  f4:List aB
def aL(a:aG):List T:=[.str a.f0, .int .i64 a.f1, .int .i64 a.f2, .str a.f3, .sl (a.f4.map aD)]
theorem jB(a:aG):aL a=[.str a.f0, .int .i64 a.f1, .int .i64 a.f2, .str a.f3, .sl (a.f4.map aD)]:=rfl
def qK(a:List aB):List T:=[.sl (a.map aD)]
theorem rC(a:List aB):qK a=[.sl (a.map aD)]:=rfl

abbrev HZ(p:(List (List UInt8))→(List UInt8)→Option (Bool)):Prop:= ∀ {a:List (List UInt8)} {b:List UInt8} {r:Bool},p a b=some r→Big Try.prog τ An (.fn 123 [.one (.c (.sl (a.map eF))), .one (.c (.str b))] [] (.one (.c (.bool r))) none [] none)
def jC(n:Nat)(b:List (List UInt8))(d:List UInt8):(Int)→Option ((Int)⊕((Bool)⊕(Int×Bool)))
  | a=>bif decide (a<(b.length:Int))then(ix b a).bind fun c=>bif decide (c=d)then some (.inr (.inl true))else some (.inl (IntKind.wrap .i64 (a+(1:Int))))else some (.inr (.inr (a,false)))
def fJ(n:Nat)(a:List (List UInt8))(b:List UInt8):Option (Bool):=
  (loopN (jC n a b) n (0:Int)).bind fun q=>(match q with | .inl c=>some c | .inr (d,f)=>some false)
theorem mZ{n:Nat}:HZ (fJ n):=by
 intro l m r h; unfold fJ at h; refine bF Try.func123 rfl rfl<|gcc 9 rfl<|cLp h [(4,17)] [] (fun b=>([(5,I64 b)],[])) (fun q=>match q with | .inl a=>(.r,[(4,Bo a)],[]) | .inr (c,d)=>(.e 0,[(5,I64 c),(9,Bo d)],[])) rfl (fun b _ h=> ?_) (fun q h=> ?_)
 unfold jC at h; refine gco 5 rfl<|xLn rfl<|goc 2 rfl<|cIf h rfl (fun g h=> ?_) (fun g h=> ?_)
 refine gco 7 rfl<|xIx h pM rfl (fun f h=> ?_)
 refine goc 4 rfl<|cIf h rfl (fun j h=> ?_) (fun j h=> ?_)
 exact gec; exact gec; exact gec; rcases q with a | ⟨c,d⟩; exact en; exact gec
abbrev Fm(p:(List (List UInt8))→Option (Bool)):Prop:= ∀ {a:List (List UInt8)} {r:Bool},p a=some r→Big Try.prog τ An (.fn 124 [.one (.c (.sl (a.map eF)))] [] (.one (.c (.bool r))) none [] none)
def kL(n:Nat)(b:List (List UInt8)):(Int)→Option ((Int)⊕((Bool)⊕(Int×Bool)))
  | a=>bif decide (a<(b.length:Int))then(sub b none (some a)).bind fun f=>(ix b a).bind fun d=>(fJ n f d).bind fun c=>bif c then some (.inr (.inl false))else some (.inl (IntKind.wrap .i64 (a+(1:Int))))else some (.inr (.inr (a,false)))
def jJ(n:Nat)(a:List (List UInt8)):Option (Bool):=
  (loopN (kL n a) n (0:Int)).bind fun q=>(match q with | .inl b=>some b | .inr (c,d)=>some true)
theorem tK{n:Nat}:Fm (jJ n):=by
 intro o r h; unfold jJ at h; refine bF Try.func124 rfl rfl<|gcc 9 rfl<|cLp h [(2,17)] [] (fun b=>([(3,I64 b)],[])) (fun q=>match q with | .inl a=>(.r,[(2,Bo a)],[]) | .inr (c,d)=>(.e 0,[(3,I64 c),(7,Bo d)],[])) rfl (fun b _ h=> ?_) (fun q h=> ?_)
 unfold kL at h; refine gco 5 rfl<|xLn rfl<|goc 2 rfl<|cIf h rfl (fun l h=> ?_) (fun l h=> ?_)
 refine gco 7 rfl<|wSl (rf:=eF) h rfl rfl rfl rfl .no (.so rfl) (fun _=>rfl) rfl (fun j h=> ?_)
 refine goo 2 rfl<|xIx h pM rfl (fun g h=> ?_)
 refine xLd rfl<|xC0 h (mZ ·) rfl (fun f h=> ?_)
 refine oNl<|cIf h rfl (fun m h=> ?_) (fun m h=> ?_)
 exact gec; exact gec; exact gec; rcases q with a | ⟨c,d⟩; exact en; exact gec
abbrev jR:Type:=Int→Int→(List UInt8)→(List aA)→(List aC)→Option ((List (List UInt8)))
abbrev oG(p:jR):Prop:= ∀ {a b:Int} {d:List UInt8} {f:List aA} {g:List aC} {r:(List (List UInt8))},p a b d f g=some r→Big Try.prog τ An (.fn 173 [.one (.ag [.int .i64 a, .int .i64 b, .str d, .sl (f.map aF), .sl (g.map aE)])] [] (.one (.c (.sl (r.map eF)))) none [] none)
def iG(n:Nat)(b:jR)(f:List aA):((List (List UInt8))×Int)→Option (((List (List UInt8))×Int)⊕(((List (List UInt8))×Int×Bool)))
  | (j,c)=>bif decide (c<(f.length:Int))then(ix f c).bind fun a=>(b a.f0 a.f1 a.f2 a.f3 a.f4).bind fun d=>(fE 16 j d).bind fun g=>some (.inl (g,(IntKind.wrap .i64 (c+(1:Int)))))else some (.inr (j,c,false))
def lP(n:Nat)(a:jR)(d:Int)(l:Int)(b:List UInt8)(f:List aA)(m:List aC):Option ((List (List UInt8))):=
  bif decide (d=(3:Int))then bif !decide (b=([95]:List UInt8))then(fE 16 ([]:List (List UInt8)) ([b]:List (List UInt8))).bind fun c=>some c else some ([]:List (List UInt8))else(loopN (iG n a f) n (([]:List (List UInt8)),(0:Int))).bind fun(g,o,j)=>some g
theorem Au{n:Nat}{a:jR}(b:oG a):oG (lP n a):=by
 intro y z m A B r h; unfold lP at h; refine bF Try.func173 rfl rfl<|gco 3 rfl<|wAe (Li eF []) rfl rfl rfl rfl<|oRs<|cS (L:=([]:List (List UInt8))) (f:=eF) rfl rfl rfl rfl rfl rfl rfl<|goc 9 rfl<|cIf h rfl (fun u h=> ?_) (fun u h=> ?_)
 refine gcc 7 rfl<|cIf h rfl (fun v h=> ?_) (fun v h=> ?_)
 refine gco 4 rfl<|cS (L:=([m]:List (List UInt8))) (f:=eF) rfl rfl rfl rfl rfl rfl rfl<|wAp (f:=eF) h rfl rfl rfl rfl rfl rfl rfl rfl rfl (fun _=>rfl) rfl (fun t h=> ?_)
 exact geo; exact gec; refine gcc 6 rfl<|cLp h [(3,4),(18,32)] [] (fun(d,j)=>([(3,Li eF d),(4,I64 j)],[])) (fun(g,l,c)=>(.e 0,[(3,Li eF g),(4,I64 l),(22,Bo c)],[])) rfl (fun st _ h=> ?_) (fun q h=> ?_)
 obtain⟨d,j⟩:=st; unfold iG at h; refine gco 6 rfl<|xLn rfl<|goc 2 rfl<|cIf h rfl (fun w h=> ?_) (fun w h=> ?_)
 refine gco 8 rfl<|xIx h aO rfl (fun p h=> ?_)
 refine xLd rfl<|xC0 h (b ·) rfl (fun o h=> ?_)
 refine wAp (f:=eF) h rfl rfl rfl rfl rfl rfl rfl rfl rfl (fun _=>rfl) rfl (fun s h=> ?_)
 exact geo; exact gec; obtain⟨g,l,c⟩:=q; exact gec
def xT:Nat→(jR)
  | 0=>(fun _ _ _ _ _=>none)
  | n+1=>lP n (xT n)
def eE(n:Nat):jR:=xT n
theorem BD(n:Nat):oG (eE n):=by
  induction n with
  | zero=>exact(fun h=>nomatch h)
  | succ n ih=>exact Au (n:=n) ih
theorem tP{n:Nat}:oG (eE n):=(BD n)
theorem yR(n:Nat):eE (n+1)=lP n (eE n):=rfl
abbrev Iz(p:Int→Int→Int→Option (Bool)):Prop:= ∀ {a b d:Int} {r:Bool},p a b d=some r→Big Try.prog τ An (.fn 230 [.one (.c (.int .i64 a)), .one (.c (.int .i64 b)), .one (.c (.int .i64 d))] [] (.one (.c (.bool r))) none [] none)
def cH(n:Nat)(a:Int)(b:Int)(c:Int):Option (Bool):=
  (bif decide (b≤a)then some (decide (a≤c))else some false).bind fun d=>some d
theorem cO{n:Nat}:Iz (cH n):=by
 intro c d f r h; unfold cH at h; refine bF Try.func230 rfl rfl<|gco 6 rfl<|oJn h [(6,14)] [] (fun a=>(.n,[(6,Bo a)],[])) (fun _ h=> ?_) (fun a h=> ?_)
 refine goo 4 rfl<|oIf 10 h rfl (fun b h=> ?_) (fun b h=> ?_)
 exact geo; exact geo; exact gec
abbrev Fx(p:(List UInt8)→Option (Bool)):Prop:= ∀ {a:List UInt8} {r:Bool},p a=some r→Big Try.prog τ An (.fn 155 [.one (.c (.str a))] [] (.one (.c (.bool r))) none [] none)
def kR(n:Nat)(d:List UInt8):(Int)→Option ((Int)⊕((Bool)⊕(Int×Bool)))
  | a=>bif decide (a<(d.length:Int))then(ixs d a).bind fun b=>(cH n (IntKind.wrap .i64 b) (97:Int) (122:Int)).bind fun f=>(bif !f then bif decide (a=(0:Int))then some true else(cH n (IntKind.wrap .i64 b) (48:Int) (57:Int)).bind fun c=>bif !c then some (!decide ((IntKind.wrap .i64 b)=(95:Int)))else some false else some false).bind fun g=>bif g then some (.inr (.inl false))else some (.inl (IntKind.wrap .i64 (a+(1:Int))))else some (.inr (.inr (a,false)))
def jM(n:Nat)(b:List UInt8):Option (Bool):=
  (loopN (kR n b) n (0:Int)).bind fun q=>(match q with | .inl c=>some c | .inr (d,f)=>(cH n (b.length:Int) (1:Int) (20:Int)).bind fun a=>some a)
theorem tR{n:Nat}:Fx (jM n):=by
 intro v r h; unfold jM at h; refine bF Try.func155 rfl rfl<|gcc 9 rfl<|cLp h [(2,32)] [] (fun c=>([(3,I64 c)],[])) (fun q=>match q with | .inl b=>(.r,[(2,Bo b)],[]) | .inr (d,f)=>(.e 0,[(3,I64 d),(9,Bo f)],[])) rfl (fun c _ h=> ?_) (fun q h=> ?_)
 unfold kR at h; refine gco 5 rfl<|xLs rfl<|goc 2 rfl<|cIf h rfl (fun t h=> ?_) (fun t h=> ?_)
 refine gco 7 rfl<|LE h rfl rfl rfl rfl rfl (fun s h=> ?_)
 refine goo 6 rfl<|xC0 h (cO ·) rfl (fun p h=> ?_)
 refine goo 4 rfl<|oJn h [(18,32)] [] (fun a=>(.n,[(32,Bo a)],[])) (fun _ h=> ?_) (fun a h=> ?_)
 refine goo 3 rfl<|oIf 20 h rfl (fun u h=> ?_) (fun u h=> ?_)
 refine goo 3 rfl<|oIf 23 h rfl (fun l h=> ?_) (fun l h=> ?_)
 exact geo; refine xMv rfl<|xC0 h (cO ·) rfl (fun g h=> ?_)
 refine goo 2 rfl<|oIf 27 h rfl (fun m h=> ?_) (fun m h=> ?_)
 exact geo; exact geo; exact geo; refine cIf h rfl (fun o h=> ?_) (fun o h=> ?_)
 exact gec; exact gec; exact gec; rcases q with b | ⟨d,f⟩; exact en; refine gco 3 rfl<|xLs rfl<|xC0 h (cO ·) rfl (fun j h=> ?_)
 exact geo
abbrev AC(p:(List UInt8)→Option (Bool)):Prop:= ∀ {a:List UInt8} {r:Bool},p a=some r→Big Try.prog τ An (.fn 220 [.one (.c (.str a))] [] (.one (.c (.bool r))) none [] none)
def jT(n:Nat)(a:List UInt8):Option (Bool):=
  (bif decide (a=([99,97,115,101]:List UInt8))then some true else bif decide (a=([111,102]:List UInt8))then some true else some (decide (a=([101,110,100]:List UInt8)))).bind fun b=>some b
theorem wH{n:Nat}:AC (jT n):=by
 intro d r h; unfold jT at h; refine bF Try.func220 rfl rfl<|gco 6 rfl<|oJn h [(2,12)] [] (fun a=>(.n,[(2,Bo a)],[])) (fun _ h=> ?_) (fun a h=> ?_)
 refine goo 3 rfl<|oIf 5 h rfl (fun b h=> ?_) (fun b h=> ?_)
 exact geo; refine goo 4 rfl<|oIf 9 h rfl (fun c h=> ?_) (fun c h=> ?_)
 exact geo; exact geo; exact gec
abbrev Fo(p:(List UInt8)→Option (Bool)):Prop:= ∀ {a:List UInt8} {r:Bool},p a=some r→Big Try.prog τ An (.fn 134 [.one (.c (.str a))] [] (.one (.c (.bool r))) none [] none)
def jL(n:Nat)(a:List UInt8):Option (Bool):=
  ((jM n a).bind fun b=>bif b then(jT n a).bind fun c=>some (!c)else some false).bind fun d=>some d
theorem tN{n:Nat}:Fo (jL n):=by
 intro f r h; unfold jL at h; refine bF Try.func134 rfl rfl<|gco 6 rfl<|oJn h [(2,9)] [] (fun a=>(.n,[(2,Bo a)],[])) (fun _ h=> ?_) (fun a h=> ?_)
 refine xMv rfl<|xC0 h (tR ·) rfl (fun b h=> ?_)
 refine xMv rfl<|oIf 5 h rfl (fun d h=> ?_) (fun d h=> ?_)
 refine xMv rfl<|xC0 h (wH ·) rfl (fun c h=> ?_)
 exact geo; exact geo; exact gec
abbrev Dm(p:Int→Option (Bool)):Prop:= ∀ {a:Int} {r:Bool},p a=some r→Big Try.prog τ An (.fn 295 [.one (.c (.int .u8 a))] [] (.one (.c (.bool r))) none [] none)
def kE(n:Nat)(a:Int):Option (Bool):=
  ((cH n (IntKind.wrap .i64 a) (65:Int) (90:Int)).bind fun b=>bif b then some true else some (decide (a=(95:Int)))).bind fun c=>some c
theorem BJ{n:Nat}:Dm (kE n):=by
 intro d r h; unfold kE at h; refine bF Try.func295 rfl rfl<|gco 6 rfl<|oJn h [(2,9)] [] (fun a=>(.n,[(2,Bo a)],[])) (fun _ h=> ?_) (fun a h=> ?_)
 refine goo 2 rfl<|xC0 h (cO ·) rfl (fun b h=> ?_)
 refine xMv rfl<|oIf 6 h rfl (fun c h=> ?_) (fun c h=> ?_)
 exact geo; exact geo; exact gec
abbrev Dl(p:Int→Option (Bool)):Prop:= ∀ {a:Int} {r:Bool},p a=some r→Big Try.prog τ An (.fn 296 [.one (.c (.int .u8 a))] [] (.one (.c (.bool r))) none [] none)
def kD(n:Nat)(b:Int):Option (Bool):=
  (cH n (IntKind.wrap .i64 b) (97:Int) (122:Int)).bind fun a=>some a
theorem BI{n:Nat}:Dl (kD n):=by
 intro b r h; unfold kD at h; refine bF Try.func296 rfl rfl<|gco 8 rfl<|xC0 h (cO ·) rfl (fun a h=> ?_)
 exact geo
abbrev Dn(p:Int→Option (Bool)):Prop:= ∀ {a:Int} {r:Bool},p a=some r→Big Try.prog τ An (.fn 297 [.one (.c (.int .u8 a))] [] (.one (.c (.bool r))) none [] none)
def kF(n:Nat)(b:Int):Option (Bool):=
  (cH n (IntKind.wrap .i64 b) (48:Int) (57:Int)).bind fun a=>some a
theorem BK{n:Nat}:Dn (kF n):=by
 intro b r h; unfold kF at h; refine bF Try.func297 rfl rfl<|gco 8 rfl<|xC0 h (cO ·) rfl (fun a h=> ?_)
 exact geo
abbrev Dk(p:(List UInt8)→Option (Bool)):Prop:= ∀ {a:List UInt8} {r:Bool},p a=some r→Big Try.prog τ An (.fn 266 [.one (.c (.str a))] [] (.one (.c (.bool r))) none [] none)
def jU(n:Nat)(b:List UInt8):(Int)→Option ((Int)⊕((Bool)⊕(Int×Bool)))
  | a=>bif decide (a<(b.length:Int))then((ixs b a).bind fun l=>(kE n l).bind fun j=>bif !j then bif decide (a=(0:Int))then some true else(ixs b a).bind fun f=>(kD n f).bind fun c=>bif !c then(ixs b a).bind fun g=>(kF n g).bind fun d=>some (!d)else some false else some false).bind fun m=>bif m then some (.inr (.inl false))else some (.inl (IntKind.wrap .i64 (a+(1:Int))))else some (.inr (.inr (a,false)))
def kC(n:Nat)(b:List UInt8):Option (Bool):=
  (loopN (jU n b) n (0:Int)).bind fun q=>(match q with | .inl c=>some c | .inr (d,f)=>(cH n (b.length:Int) (1:Int) (20:Int)).bind fun a=>some a)
theorem BH{n:Nat}:Dk (kC n):=by
 intro z r h; unfold kC at h; refine bF Try.func266 rfl rfl<|gcc 9 rfl<|cLp h [(2,32)] [] (fun c=>([(3,I64 c)],[])) (fun q=>match q with | .inl b=>(.r,[(2,Bo b)],[]) | .inr (d,f)=>(.e 0,[(3,I64 d),(7,Bo f)],[])) rfl (fun c _ h=> ?_) (fun q h=> ?_)
 unfold jU at h; refine gco 5 rfl<|xLs rfl<|goc 2 rfl<|cIf h rfl (fun w h=> ?_) (fun w h=> ?_)
 refine gco 5 rfl<|oJn h [(10,32)] [] (fun a=>(.n,[(32,Bo a)],[])) (fun _ h=> ?_) (fun a h=> ?_)
 refine goo 2 rfl<|LE h rfl rfl rfl rfl rfl (fun v h=> ?_)
 refine xC0 h (BJ ·) rfl (fun u h=> ?_)
 refine goo 2 rfl<|oIf 15 h rfl (fun y h=> ?_) (fun y h=> ?_)
 refine goo 3 rfl<|oIf 18 h rfl (fun p h=> ?_) (fun p h=> ?_)
 exact geo; refine goo 2 rfl<|LE h rfl rfl rfl rfl rfl (fun m h=> ?_)
 refine xC0 h (BI ·) rfl (fun g h=> ?_)
 refine goo 2 rfl<|oIf 24 h rfl (fun s h=> ?_) (fun s h=> ?_)
 refine goo 2 rfl<|LE h rfl rfl rfl rfl rfl (fun o h=> ?_)
 refine xC0 h (BK ·) rfl (fun j h=> ?_)
 exact geo; exact geo; exact geo; refine cIf h rfl (fun t h=> ?_) (fun t h=> ?_)
 exact gec; exact gec; exact gec; rcases q with b | ⟨d,f⟩; exact en; refine gco 3 rfl<|xLs rfl<|xC0 h (cO ·) rfl (fun l h=> ?_)
 exact geo
abbrev Ix(p:(List UInt8)→Option (Bool)):Prop:= ∀ {a:List UInt8} {r:Bool},p a=some r→Big Try.prog τ An (.fn 286 [.one (.c (.str a))] [] (.one (.c (.bool r))) none [] none)
def oR(n:Nat)(a:List UInt8):Option (Bool):=
  (bif decide (a=([43]:List UInt8))then some true else bif decide (a=([45]:List UInt8))then some true else bif decide (a=([42]:List UInt8))then some true else bif decide (a=([61,61]:List UInt8))then some true else some (decide (a=([60]:List UInt8)))).bind fun b=>some b
theorem Fg{n:Nat}:Ix (oR n):=by
 intro g r h; unfold oR at h; refine bF Try.func286 rfl rfl<|gco 6 rfl<|oJn h [(2,20)] [] (fun a=>(.n,[(2,Bo a)],[])) (fun _ h=> ?_) (fun a h=> ?_)
 refine goo 3 rfl<|oIf 5 h rfl (fun b h=> ?_) (fun b h=> ?_)
 exact geo; refine goo 4 rfl<|oIf 9 h rfl (fun c h=> ?_) (fun c h=> ?_)
 exact geo; refine goo 4 rfl<|oIf 13 h rfl (fun d h=> ?_) (fun d h=> ?_)
 exact geo; refine goo 4 rfl<|oIf 17 h rfl (fun f h=> ?_) (fun f h=> ?_)
 exact geo; exact geo; exact gec
abbrev Di(p:Int→Int→(List UInt8)→(List aA)→(List aC)→Bool→Option (Bool)):Prop:= ∀ {a b:Int} {d:List UInt8} {f:List aA} {g:List aC} {j:Bool} {r:Bool},p a b d f g j=some r→Big Try.prog τ An (.fn 245 [.one (.ag [.int .i64 a, .int .i64 b, .str d, .sl (f.map aF), .sl (g.map aE)]), .one (.c (.bool j))] [] (.one (.c (.bool r))) none [] none)
def kA(n:Nat)(a:Int)(f:Int)(b:List UInt8)(c:List aA)(s:List aC)(d:Bool):Option (Bool):=
  (bif !decide (a=(9:Int))then bif decide ((0:Int)<(s.length:Int))then some true else bif !decide (a=(1:Int))then some (!decide (f=(0:Int)))else some false else bif !decide (a=(1:Int))then some (!decide (f=(0:Int)))else some false).bind fun u=>bif u then some false else bif decide (a=(1:Int))then((cH n f (0:Int) (1000000000000:Int)).bind fun t=>bif t then bif decide (b=([]:List UInt8))then some (decide ((c.length:Int)=(0:Int)))else some false else some false).bind fun E=>some E else bif decide (a=(2:Int))then((jL n b).bind fun l=>bif l then some (decide ((c.length:Int)=(0:Int)))else some false).bind fun v=>some v else bif decide (a=(3:Int))then((kC n b).bind fun m=>bif m then bif decide ((c.length:Int)=(0:Int))then bif d then some true else some (!decide (b=([95]:List UInt8)))else some false else some false).bind fun w=>some w else bif decide (a=(4:Int))then(bif decide (b=([]:List UInt8))then some (decide ((c.length:Int)≤(20:Int)))else some false).bind fun y=>some y else bif decide (a=(5:Int))then(bif decide (b=([]:List UInt8))then some (decide ((c.length:Int)≤(20:Int)))else some false).bind fun z=>some z else bif decide (a=(6:Int))then(bif decide (b=([]:List UInt8))then(cH n (c.length:Int) (2:Int) (6:Int)).bind fun o=>some o else some false).bind fun A=>some A else bif decide (a=(7:Int))then(bif !d then(oR n b).bind fun p=>bif p then some (decide ((c.length:Int)=(2:Int)))else some false else some false).bind fun B=>some B else bif decide (a=(8:Int))then(bif !d then(jL n b).bind fun g=>bif g then some (decide ((c.length:Int)≤(4:Int)))else some false else some false).bind fun C=>some C else bif decide (a=(9:Int))then(bif !d then bif decide (b=([]:List UInt8))then bif decide ((c.length:Int)=(1:Int))then(cH n (s.length:Int) (1:Int) (6:Int)).bind fun j=>some j else some false else some false else some false).bind fun D=>some D else some false
theorem BF{n:Nat}:Di (kA n):=by
 intro a7 a8 a9 b0 b1 b2 r h; unfold kA at h; refine bF Try.func245 rfl rfl<|gco 9 rfl<|xLn rfl<|goo 5 rfl<|oJn h [(9,27)] [] (fun a=>(.n,[(27,Bo a)],[])) (fun _ h=> ?_) (fun a h=> ?_)
 refine goo 4 rfl<|oIf 12 h rfl (fun q2 h=> ?_) (fun q2 h=> ?_)
 refine goo 2 rfl<|xLn rfl<|goo 3 rfl<|oIf 18 h rfl (fun q3 h=> ?_) (fun q3 h=> ?_)
 exact geo; refine goo 4 rfl<|oIf 22 h rfl (fun q4 h=> ?_) (fun q4 h=> ?_)
 exact geo; exact geo; refine goo 10 rfl<|oIf 22 h rfl (fun q5 h=> ?_) (fun q5 h=> ?_)
 exact geo; exact geo; refine cIf h rfl (fun q6 h=> ?_) (fun q6 h=> ?_)
 exact gec; refine gcc 13 rfl<|cIf h rfl (fun q7 h=> ?_) (fun q7 h=> ?_)
 refine cRs<|oJn h [(4,4),(32,43)] [] (fun o=>(.n,[(4,Bo o)],[])) (fun _ h=> ?_) (fun o h=> ?_)
 refine goo 2 rfl<|xC0 h (cO ·) rfl (fun a0 h=> ?_)
 refine xMv rfl<|oIf 35 h rfl (fun y h=> ?_) (fun y h=> ?_)
 refine goo 5 rfl<|oIf 40 h rfl (fun z h=> ?_) (fun z h=> ?_)
 exact geo; exact geo; exact geo; exact gec; refine gcc 5 rfl<|cIf h rfl (fun A h=> ?_) (fun A h=> ?_)
 refine cRs<|oJn h [(4,4),(46,52)] [] (fun b=>(.n,[(4,Bo b)],[])) (fun _ h=> ?_) (fun b h=> ?_)
 refine goo 2 rfl<|xC0 h (tN ·) rfl (fun t h=> ?_)
 refine xMv rfl<|oIf 49 h rfl (fun B h=> ?_) (fun B h=> ?_)
 exact geo; exact geo; exact gec; refine gcc 5 rfl<|cIf h rfl (fun C h=> ?_) (fun C h=> ?_)
 refine cRs<|oJn h [(4,4),(55,69)] [] (fun c=>(.n,[(4,Bo c)],[])) (fun _ h=> ?_) (fun c h=> ?_)
 refine goo 2 rfl<|xC0 h (BH ·) rfl (fun u h=> ?_)
 refine xMv rfl<|oIf 58 h rfl (fun D h=> ?_) (fun D h=> ?_)
 refine goo 4 rfl<|oIf 62 h rfl (fun E h=> ?_) (fun E h=> ?_)
 refine goo 2 rfl<|oIf 64 h rfl (fun G h=> ?_) (fun G h=> ?_)
 exact geo; exact geo; exact geo; exact geo; exact gec; refine gcc 6 rfl<|cIf h rfl (fun H h=> ?_) (fun H h=> ?_)
 refine gco 4 rfl<|oJn h [(4,4),(73,79)] [] (fun d=>(.n,[(4,Bo d)],[])) (fun _ h=> ?_) (fun d h=> ?_)
 refine goo 4 rfl<|oIf 76 h rfl (fun I h=> ?_) (fun I h=> ?_)
 exact geo; exact geo; exact gec; refine gcc 4 rfl<|cIf h rfl (fun J h=> ?_) (fun J h=> ?_)
 refine cRs<|oJn h [(4,4),(73,79)] [] (fun f=>(.n,[(4,Bo f)],[])) (fun _ h=> ?_) (fun f h=> ?_)
 refine goo 4 rfl<|oIf 76 h rfl (fun K h=> ?_) (fun K h=> ?_)
 exact geo; exact geo; exact gec; refine gcc 5 rfl<|cIf h rfl (fun L h=> ?_) (fun L h=> ?_)
 refine cRs<|oJn h [(4,4),(82,88)] [] (fun g=>(.n,[(4,Bo g)],[])) (fun _ h=> ?_) (fun g h=> ?_)
 refine goo 4 rfl<|oIf 85 h rfl (fun M h=> ?_) (fun M h=> ?_)
 refine xMv rfl<|xC0 h (cO ·) rfl (fun v h=> ?_)
 exact geo; exact geo; exact gec; refine gcc 5 rfl<|cIf h rfl (fun N h=> ?_) (fun N h=> ?_)
 refine cRs<|oJn h [(4,4),(91,101)] [] (fun j=>(.n,[(4,Bo j)],[])) (fun _ h=> ?_) (fun j h=> ?_)
 refine goo 3 rfl<|oIf 93 h rfl (fun Q h=> ?_) (fun Q h=> ?_)
 refine goo 2 rfl<|xC0 h (Fg ·) rfl (fun w h=> ?_)
 refine goo 2 rfl<|oIf 98 h rfl (fun R h=> ?_) (fun R h=> ?_)
 exact geo; exact geo; exact geo; exact gec; refine gcc 5 rfl<|cIf h rfl (fun T h=> ?_) (fun T h=> ?_)
 refine cRs<|oJn h [(4,4),(104,114)] [] (fun l=>(.n,[(4,Bo l)],[])) (fun _ h=> ?_) (fun l h=> ?_)
 refine goo 3 rfl<|oIf 106 h rfl (fun U h=> ?_) (fun U h=> ?_)
 refine goo 2 rfl<|xC0 h (tN ·) rfl (fun p h=> ?_)
 refine goo 2 rfl<|oIf 111 h rfl (fun V h=> ?_) (fun V h=> ?_)
 exact geo; exact geo; exact geo; exact gec; refine gcc 5 rfl<|cIf h rfl (fun W h=> ?_) (fun W h=> ?_)
 refine cRs<|oJn h [(4,4),(117,133)] [] (fun m=>(.n,[(4,Bo m)],[])) (fun _ h=> ?_) (fun m h=> ?_)
 refine goo 3 rfl<|oIf 119 h rfl (fun X h=> ?_) (fun X h=> ?_)
 refine goo 5 rfl<|oIf 124 h rfl (fun Y h=> ?_) (fun Y h=> ?_)
 refine goo 4 rfl<|oIf 128 h rfl (fun Z h=> ?_) (fun Z h=> ?_)
 refine goo 2 rfl<|xLn rfl<|xC0 h (cO ·) rfl (fun s h=> ?_)
 exact geo; exact geo; exact geo; exact geo; exact gec; exact gec
abbrev gU:Type:=Int→Int→(List UInt8)→(List aA)→(List aC)→Bool→Int→Int→Option (Int)
abbrev oA(p:gU):Prop:= ∀ {a b:Int} {d:List UInt8} {f:List aA} {g:List aC} {j:Bool} {l m:Int} {r:Int},p a b d f g j l m=some r→Big Try.prog τ An (.fn 172 [.one (.ag [.int .i64 a, .int .i64 b, .str d, .sl (f.map aF), .sl (g.map aE)]), .one (.c (.bool j)), .one (.c (.int .i64 l)), .one (.c (.int .i64 m))] [] (.one (.c (.int .i64 r))) none [] none)
def dW(n:Nat)(b:gU)(l:Bool)(m:Int)(g:List aA):(Int×Int)→Option ((Int×Int)⊕((Int×Int×Bool)))
  | (d,c)=>(bif decide (c<(g.length:Int))then some (decide ((0:Int)≤d))else some false).bind fun j=>bif j then(ix g c).bind fun a=>(b a.f0 a.f1 a.f2 a.f3 a.f4 l (IntKind.wrap .i64 (m - (1:Int))) d).bind fun f=>some (.inl (f,(IntKind.wrap .i64 (c+(1:Int)))))else some (.inr (d,c,false))
def dV(n:Nat)(b:gU)(s:Int)(j:List aC):(Int×Int)→Option ((Int×Int)⊕((Int)⊕(Int×Int×Bool)))
  | (l,a)=>(bif decide (a<(j.length:Int))then some (decide ((0:Int)≤l))else some false).bind fun t=>bif t then(((ix j a).bind fun c=>(eE n c.f0 c.f1 c.f2 c.f3 c.f4).bind fun m=>(jJ n m).bind fun o=>bif !o then some (.inl ((-1):Int))else(ix j a).bind fun d=>(b d.f0 d.f1 d.f2 d.f3 d.f4 true (IntKind.wrap .i64 (s - (1:Int))) l).bind fun g=>bif decide ((0:Int)≤g)then(ix j a).bind fun f=>(b f.f5 f.f6 f.f7 f.f8 f.f9 false (IntKind.wrap .i64 (s - (1:Int))) g).bind fun p=>some (.inr p)else some (.inr g):Option ((Int)⊕(Int)))).bind fun q=>(match q with | .inl v=>some (.inr (.inl v)) | .inr u=>some (.inl (u,(IntKind.wrap .i64 (a+(1:Int))))))else some (.inr (.inr (l,a,false)))
def lJ(n:Nat)(a:gU)(p:Int)(s:Int)(t:List UInt8)(c:List aA)(d:List aC)(f:Bool)(b:Int)(g:Int):Option (Int):=
  (bif decide (b<(1:Int))then some true else bif decide (g<(1:Int))then some true else(kA n p s t c d f).bind fun j=>some (!j)).bind fun l=>bif l then some ((-1):Int)else(loopN (dW n a f b c) n ((IntKind.wrap .i64 (g - (1:Int))),(0:Int))).bind fun(u,z,w)=>(loopN (dV n a b d) n (u,(0:Int))).bind fun q=>(match q with | .inl o=>some o | .inr (m,v,y)=>some m)
theorem Ao{n:Nat}{b:gU}(a:oA b):oA (lJ n b):=by
 intro X Y Z a0 a1 a2 a3 a4 r h; unfold lJ at h; refine bF Try.func172 rfl rfl<|gco 8 rfl<|oJn h [(11,22)] [] (fun m=>(.n,[(22,Bo m)],[])) (fun _ h=> ?_) (fun m h=> ?_)
 refine goo 3 rfl<|oIf 13 h rfl (fun U h=> ?_) (fun U h=> ?_)
 exact geo; refine goo 4 rfl<|oIf 17 h rfl (fun V h=> ?_) (fun V h=> ?_)
 exact geo; refine goo 2 rfl<|xC0 h (BF ·) rfl (fun T h=> ?_)
 exact geo; refine cIf h rfl (fun W h=> ?_) (fun W h=> ?_)
 exact gec; refine gcc 12 rfl<|cLp h [(3,3),(9,9),(25,45)] [] (fun(v,y)=>([(3,I64 v),(9,I64 y)],[])) (fun(w,z,f)=>(.e 0,[(3,I64 w),(9,I64 z),(33,Bo f)],[])) rfl (fun st _ h=> ?_) (fun q h=> ?_)
 obtain⟨v,y⟩:=st; unfold dW at h; refine gco 3 rfl<|oJn h [(25,33)] [] (fun g=>(.n,[(33,Bo g)],[])) (fun _ h=> ?_) (fun g h=> ?_)
 refine goo 3 rfl<|xLn rfl<|goo 2 rfl<|oIf 30 h rfl (fun K h=> ?_) (fun K h=> ?_)
 exact geo; exact geo; refine cIf h rfl (fun L h=> ?_) (fun L h=> ?_)
 refine gco 7 rfl<|xIx h aO rfl (fun G h=> ?_)
 refine goo 5 rfl<|xC0 h (a ·) rfl (fun A h=> ?_)
 exact geo; exact gec; obtain⟨w,z,f⟩:=q; refine gcc 5 rfl<|cLp h [(3,3),(8,8),(10,10),(46,87)] [] (fun(o,c)=>([(3,I64 o),(10,I64 c)],[])) (fun q=>match q with | .inl t=>(.r,[(8,I64 t)],[]) | .inr (p,d,j)=>(.e 2,[(3,I64 p),(10,I64 d),(54,Bo j)],[])) rfl (fun st _ h=> ?_) (fun q h=> ?_)
 obtain⟨o,c⟩:=st; unfold dV at h; refine gco 3 rfl<|oJn h [(46,54)] [] (fun l=>(.n,[(54,Bo l)],[])) (fun _ h=> ?_) (fun l h=> ?_)
 refine goo 3 rfl<|xLn rfl<|goo 2 rfl<|oIf 51 h rfl (fun M h=> ?_) (fun M h=> ?_)
 exact geo; exact geo; refine cIf h rfl (fun N h=> ?_) (fun N h=> ?_)
 refine gcc 2 rfl<|cJn h [(3,3),(8,8),(57,87)] [] (fun q=>match q with | .inl u=>(.r,[(8,I64 u)],[]) | .inr s=>(.n,[(3,I64 s)],[])) (fun _ h=> ?_) (fun q h=> ?_)
 refine gco 7 rfl<|xIx h aX rfl (fun H h=> ?_)
 refine goo 2 rfl<|xC0 h (tP ·) rfl (fun B h=> ?_)
 refine xC0 h (tK ·) rfl (fun C h=> ?_)
 refine goc 2 rfl<|cIf h rfl (fun Q h=> ?_) (fun Q h=> ?_)
 exact gec; refine gco 6 rfl<|xIx h aX rfl (fun I h=> ?_)
 refine goo 5 rfl<|xC0 h (a ·) rfl (fun D h=> ?_)
 refine goc 7 rfl<|cIf h rfl (fun R h=> ?_) (fun R h=> ?_)
 refine gco 4 rfl<|xIx h aX rfl (fun J h=> ?_)
 refine goo 5 rfl<|xC0 h (a ·) rfl (fun E h=> ?_)
 exact geo; exact gec; rcases q with u | s; exact en; exact gec; exact gec; rcases q with t | ⟨p,d,j⟩; exact en; exact gec
def xN:Nat→(gU)
  | 0=>(fun _ _ _ _ _ _ _ _=>none)
  | n+1=>lJ n (xN n)
def bQ(n:Nat):gU:=xN n
theorem Ax(n:Nat):oA (bQ n):=by
  induction n with
  | zero=>exact(fun h=>nomatch h)
  | succ n ih=>exact Ao (n:=n) ih
theorem tL{n:Nat}:oA (bQ n):=(Ax n)
theorem yL(n:Nat):bQ (n+1)=lJ n (bQ n):=rfl
abbrev Hf(p:Int→Int→(List UInt8)→(List aA)→(List aC)→Option (Bool)):Prop:= ∀ {a b:Int} {d:List UInt8} {f:List aA} {g:List aC} {r:Bool},p a b d f g=some r→Big Try.prog τ An (.fn 74 [.one (.ag [.int .i64 a, .int .i64 b, .str d, .sl (f.map aF), .sl (g.map aE)])] [] (.one (.c (.bool r))) none [] none)
def iT(n:Nat)(a:Int)(b:Int)(c:List UInt8)(d:List aA)(f:List aC):Option (Bool):=
  ((bQ n a b c d f true (10:Int) (300:Int)).bind fun g=>bif decide ((0:Int)≤g)then(eE n a b c d f).bind fun j=>(jJ n j).bind fun l=>some l else some false).bind fun m=>some m
theorem vK{n:Nat}:Hf (iT n):=by
 intro g j l m o r h; unfold iT at h; refine bF Try.func74 rfl rfl<|gco 7 rfl<|oJn h [(2,10)] [] (fun a=>(.n,[(2,Bo a)],[])) (fun _ h=> ?_) (fun a h=> ?_)
 refine xLd rfl<|xC0 h (tL ·) rfl (fun b h=> ?_)
 refine goo 2 rfl<|oIf 6 h rfl (fun f h=> ?_) (fun f h=> ?_)
 refine xLd rfl<|xC0 h (tP ·) rfl (fun c h=> ?_)
 refine xC0 h (tK ·) rfl (fun d h=> ?_)
 exact geo; exact geo; exact gec
abbrev jQ:Type:=Int→Int→(List UInt8)→(List aB)→Option (Int×Int×(List UInt8)×(List aB))
abbrev oF(p:jQ):Prop:= ∀ {a b:Int} {c:List UInt8} {d:List aB} {r:Int×Int×(List UInt8)×(List aB)},p a b c d=some r→Big Try.prog τ An (.fn 246 [.one (.ag [.int .i64 a, .int .i64 b, .str c, .sl (d.map aD)])] [] (.one (.ag [.int .i64 r.1, .int .i64 r.2.1, .str r.2.2.1, .sl (r.2.2.2.map aD)])) none [] none)
def iF(n:Nat)(c:jQ)(f:List aB):(Int×Int×Int×(List UInt8)×(List aB))→Option ((Int×Int×Int×(List UInt8)×(List aB))⊕((Int×Bool×Int×Int×(List UInt8)×(List aB))))
  | (d,j,l,m,o)=>bif decide (d<(f.length:Int))then(ix f d).bind fun b=>(c b.f0 b.f1 b.f2 b.f3).bind fun a=>(fE 56 o ([aB.mk a.1 a.2.1 a.2.2.1 a.2.2.2]:List aB)).bind fun g=>some (.inl ((IntKind.wrap .i64 (d+(1:Int))),j,l,m,g))else some (.inr (d,false,j,l,m,o))
def lO(n:Nat)(a:jQ)(d:Int)(f:Int)(g:List UInt8)(j:List aB):Option (Int×Int×(List UInt8)×(List aB)):=
  (loopN (iF n a j) n ((0:Int),d,f,g,([]:List aB))).bind fun(p,o,l,m,b,c)=>some (l,m,b,c)
theorem At{n:Nat}{b:jQ}(d:oF b):oF (lO n b):=by
 intro B C D E r h; unfold lO at h; refine bF Try.func246 rfl rfl<|gco 3 rfl<|xAz [.int .i64 0, .int .i64 0, .str [], .sl ([].map aD)] rfl<|goo 4 rfl<|xAz [.int .i64 0, .int .i64 0, .str [], .sl ([].map aD)] rfl<|goo 4 rfl<|cS (L:=([]:List aB)) (f:=aD) rfl rfl rfl rfl rfl rfl rfl<|goc 8 rfl<|cLp h [(4,4),(8,25)] [(3,3)] (fun(m,p,s,t,u)=>([(4,I64 m)],[(3,[.int .i64 p, .int .i64 s, .str t, .sl (u.map aD)])])) (fun(o,g,v,w,j,l)=>(.e 0,[(4,I64 o),(12,Bo g)],[(3,[.int .i64 v, .int .i64 w, .str j, .sl (l.map aD)])])) rfl (fun st _ h=> ?_) (fun q h=> ?_)
 obtain⟨m,p,s,t,u⟩:=st; unfold iF at h; refine gco 6 rfl<|xLn rfl<|goc 2 rfl<|cIf h rfl (fun z h=> ?_) (fun z h=> ?_)
 refine gco 9 rfl<|xIx h aN rfl (fun y h=> ?_)
 refine xLd rfl<|xC0 h (d ·) rfl (fun c h=> ?_)
 refine cS (L:=([aB.mk c.1 c.2.1 c.2.2.1 c.2.2.2]:List aB)) (f:=aD) rfl rfl rfl rfl (by simp only[List.map,bY]<;>rfl) rfl rfl<|wAp (f:=aD) h rfl rfl rfl rfl rfl rfl rfl rfl rfl (fun a=>by rw[aN]; rfl) rfl (fun A h=> ?_)
 exact geo; exact gec; obtain⟨o,g,v,w,j,l⟩:=q; exact gec
def xS:Nat→(jQ)
  | 0=>(fun _ _ _ _=>none)
  | n+1=>lO n (xS n)
def dA(n:Nat):jQ:=xS n
theorem BC(n:Nat):oF (dA n):=by
  induction n with
  | zero=>exact(fun h=>nomatch h)
  | succ n ih=>exact At (n:=n) ih
theorem oZ{n:Nat}:oF (dA n):=(BC n)
theorem yQ(n:Nat):dA (n+1)=lO n (dA n):=rfl
abbrev Fw(p:(List aG)→(List UInt8)→Option (Int×Int×(List UInt8)×(List aB)×Bool)):Prop:= ∀ {a:List aG} {b:List UInt8} {r:Int×Int×(List UInt8)×(List aB)×Bool},p a b=some r→Big Try.prog τ An (.fn 174 [.one (.c (.sl (a.map aL))), .one (.c (.str b))] [] (.tup [.ag [.int .i64 r.1, .int .i64 r.2.1, .str r.2.2.1, .sl (r.2.2.2.1.map aD)], .c (.bool r.2.2.2.2)]) none [] none)
def fN(n:Nat)(d:List aG)(o:List UInt8):(Int×Int×Int×(List UInt8)×(List aB))→Option ((Int×Int×Int×(List UInt8)×(List aB))⊕((Bool×Int×Int×(List UInt8)×(List aB))⊕(Int×Bool×Int×Int×(List UInt8)×(List aB))))
  | (c,g,j,l,m)=>bif decide (c<(d.length:Int))then(ix d c).bind fun f=>bif decide (f.f0=o)then(ix d c).bind fun b=>(dA n b.f1 b.f2 b.f3 b.f4).bind fun a=>some (.inr (.inl (true,a.1,a.2.1,a.2.2.1,a.2.2.2)))else some (.inl ((IntKind.wrap .i64 (c+(1:Int))),g,j,l,m))else some (.inr (.inr (c,false,g,j,l,m)))
def lT(n:Nat)(b:List aG)(c:List UInt8):Option (Int×Int×(List UInt8)×(List aB)×Bool):=
  (loopN (fN n b c) n ((0:Int),(0:Int),(0:Int),([]:List UInt8),([]:List aB))).bind fun q=>(match q with | .inl (d,f,g,j,a)=>some (f,g,j,a,d) | .inr (m,l,o,p,s,t)=>some ((0:Int),(0:Int),([]:List UInt8),([]:List aB),false))
theorem Cm{n:Nat}:Fw (lT n):=by
 intro D E r h; unfold lT at h; refine bF Try.func174 rfl rfl<|cRs<|xAz [.int .i64 0, .int .i64 0, .str [], .sl ([].map aD)] rfl<|goc 7 rfl<|cLp h [(4,25)] [(4,4)] (fun(m,o,p,s,t)=>([(4,Pt 4),(6,I64 m)],[(4,[.int .i64 o, .int .i64 p, .str s, .sl (t.map aD)])])) (fun q=>match q with | .inl (l,u,v,w,c)=>(.r,[(4,Pt 4),(5,Bo l)],[(4,[.int .i64 u, .int .i64 v, .str w, .sl (c.map aD)])]) | .inr (b,a,d,f,g,j)=>(.e 0,[(4,Pt 4),(6,I64 b),(10,Bo a)],[(4,[.int .i64 d, .int .i64 f, .str g, .sl (j.map aD)])])) rfl (fun st _ h=> ?_) (fun q h=> ?_)
 obtain⟨m,o,p,s,t⟩:=st; unfold fN at h; refine gco 5 rfl<|xLn rfl<|goc 2 rfl<|cIf h rfl (fun B h=> ?_) (fun B h=> ?_)
 refine gco 7 rfl<|xIx h jB rfl (fun z h=> ?_)
 refine goc 5 rfl<|cIf h rfl (fun C h=> ?_) (fun C h=> ?_)
 refine gco 4 rfl<|xIx h jB rfl (fun A h=> ?_)
 refine goo 2 rfl<|xC0 h (oZ ·) rfl (fun y h=> ?_)
 exact geo; exact gec; exact gec; rcases q with⟨l,u,v,w,c⟩ | ⟨b,a,d,f,g,j⟩; exact en; exact cRs<|wBd [.int .i64 0, .int .i64 0, .str [], .sl ([].map aD)] rfl rfl rfl rfl rfl rfl<|geo
abbrev gR:Type:=Int→Int→(List UInt8)→(List aA)→(List aC)→(List aG)→Option (Int×Int×(List UInt8)×(List aB)×Bool)
abbrev nZ(p:gR):Prop:= ∀ {a b:Int} {d:List UInt8} {f:List aA} {g:List aC} {j:List aG} {r:Int×Int×(List UInt8)×(List aB)×Bool},p a b d f g j=some r→Big Try.prog τ An (.fn 75 [.one (.ag [.int .i64 a, .int .i64 b, .str d, .sl (f.map aF), .sl (g.map aE)]), .one (.c (.sl (j.map aL)))] [] (.tup [.ag [.int .i64 r.1, .int .i64 r.2.1, .str r.2.2.1, .sl (r.2.2.2.1.map aD)], .c (.bool r.2.2.2.2)]) none [] none)
def iC(n:Nat)(c:gR)(y:Int)(z:List aG)(m:List aA):(Int×Int×Int×(List UInt8)×(List aB)×Int×Int×(List UInt8)×(List aB))→Option ((Int×Int×Int×(List UInt8)×(List aB)×Int×Int×(List UInt8)×(List aB))⊕((Bool×Int×Int×(List UInt8)×(List aB))⊕(Int×Bool×Int×Int×(List UInt8)×(List aB)×Int×Int×(List UInt8)×(List aB))))
  | (l,u,v,w,o,d,f,g,j)=>bif decide (l<(m.length:Int))then(ix m l).bind fun b=>(c b.f0 b.f1 b.f2 b.f3 b.f4 z).bind fun a=>bif !a.2.2.2.2 then some (.inr (.inl (false,d,f,g,j)))else(bif decide (y=(6:Int))then some (decide (l=(IntKind.wrap .i64 ((m.length:Int) - (1:Int)))))else some false).bind fun p=>bif p then(fE 56 j a.2.2.2.1).bind fun s=>some (.inr (.inl ((decide (a.1=(5:Int))),d,f,g,s)))else(fE 56 j ([aB.mk a.1 a.2.1 a.2.2.1 a.2.2.2.1]:List aB)).bind fun t=>some (.inl ((IntKind.wrap .i64 (l+(1:Int))),u,v,w,o,d,f,g,t))else some (.inr (.inr (l,false,u,v,w,o,d,f,g,j)))
def nO(n:Nat)(d:gR)(y:Int)(z:List aG)(m:List aA):(Int×Int×Int×(List UInt8)×(List aB)×Int×Int×(List UInt8)×(List aB))→Option ((Int×Int×Int×(List UInt8)×(List aB)×Int×Int×(List UInt8)×(List aB))⊕((Bool×Int×Int×(List UInt8)×(List aB))⊕(Int×Bool×Int×Int×(List UInt8)×(List aB)×Int×Int×(List UInt8)×(List aB))))
  | (c,o,p,s,t,f,g,j,l)=>bif decide (c<(m.length:Int))then(ix m c).bind fun b=>(d b.f0 b.f1 b.f2 b.f3 b.f4 z).bind fun a=>bif !a.2.2.2.2 then some (.inr (.inl (false,f,g,j,l)))else(bif decide (y=(6:Int))then some (decide (c=(IntKind.wrap .i64 ((m.length:Int) - (1:Int)))))else some false).bind fun u=>bif u then(fE 56 l a.2.2.2.1).bind fun v=>some (.inr (.inl ((decide (a.1=(5:Int))),f,g,j,v)))else(fE 56 l ([aB.mk a.1 a.2.1 a.2.2.1 a.2.2.2.1]:List aB)).bind fun w=>some (.inl ((IntKind.wrap .i64 (c+(1:Int))),o,p,s,t,f,g,j,w))else some (.inr (.inr (c,false,o,p,s,t,f,g,j,l)))
def lH(n:Nat)(a:gR)(c:Int)(H:Int)(f:List UInt8)(g:List aA)(X:List aC)(d:List aG):Option (Int×Int×(List UInt8)×(List aB)×Bool):=
  bif decide (c=(1:Int))then some ((1:Int),H,([]:List UInt8),([]:List aB),true)else bif decide (c=(2:Int))then some ((2:Int),(0:Int),f,([]:List aB),true)else bif decide (c=(3:Int))then(lT n d f).bind fun b=>some (b.1,b.2.1,b.2.2.1,b.2.2.2.1,b.2.2.2.2)else bif decide (c=(4:Int))then(loopN (iC n a c d g) n ((0:Int),(0:Int),(0:Int),([]:List UInt8),([]:List aB),(4:Int),(0:Int),([]:List UInt8),([]:List aB))).bind fun q=>(match q with | .inl (j,m,o,p,s)=>some (m,o,p,s,j) | .inr (K,I,M,N,Q,R,y,z,A,B)=>some (y,z,A,B,true))else(loopN (nO n a c d g) n ((0:Int),(0:Int),(0:Int),([]:List UInt8),([]:List aB),(5:Int),(0:Int),([]:List UInt8),([]:List aB))).bind fun q=>(match q with | .inl (l,t,u,v,w)=>some (t,u,v,w,l) | .inr (L,J,T,U,V,W,C,D,E,G)=>some (C,D,E,G,true))
theorem Al{n:Nat}{c:gR}(b:nZ c):nZ (lH n c):=by
 intro d8 b7 b8 d9 e0 e1 r h; unfold lH at h; refine bF Try.func75 rfl rfl<|gco 3 rfl<|xAz [.int .i64 0, .int .i64 0, .str [], .sl ([].map aD)] rfl<|goc 14 rfl<|cIf h rfl (fun q1 h=> ?_) (fun q1 h=> ?_)
 exact gco 4 rfl<|wBd [.int .i64 1, .int .i64 b7, .str [], .sl ([].map aD)] rfl rfl rfl rfl rfl rfl<|geo
 refine gcc 5 rfl<|cIf h rfl (fun q2 h=> ?_) (fun q2 h=> ?_)
 exact gco 4 rfl<|wBd [.int .i64 2, .int .i64 0, .str b8, .sl ([].map aD)] rfl rfl rfl rfl rfl rfl<|geo
 refine gcc 5 rfl<|cIf h rfl (fun q3 h=> ?_) (fun q3 h=> ?_)
 refine gco 5 rfl<|xC0 h (Cm ·) rfl (fun d3 h=> ?_)
 exact geo; refine gco 3 rfl<|wBd [.int .i64 5, .int .i64 0, .str [], .sl ([].map aD)] rfl rfl rfl rfl rfl rfl<|xAz [.int .i64 0, .int .i64 0, .str [], .sl ([].map aD)] rfl<|goc 9 rfl<|cIf h rfl (fun q5 h=> ?_) (fun q5 h=> ?_)
 refine gcc 9 rfl<|cLp h [(4,5),(7,9),(35,81)] [(4,4),(6,6),(8,8)] (fun(b3,b4,b5,b6,w,X,Y,Z,a0)=>([(4,Pt 4),(7,I64 b3)],[(4,[.int .i64 b4, .int .i64 b5, .str b6, .sl (w.map aD)]),(6,[.int .i64 X, .int .i64 Y, .str Z, .sl (a0.map aD)])])) (fun q=>match q with | .inl (p,y,z,A,B)=>(.r,[(4,Pt 4),(5,Bo p)],[(4,[.int .i64 y, .int .i64 z, .str A, .sl (B.map aD)])]) | .inr (t,j,C,D,E,G,a1,a2,a3,a4)=>(.e 1,[(4,Pt 4),(7,I64 t),(39,Bo j)],[(4,[.int .i64 C, .int .i64 D, .str E, .sl (G.map aD)]),(6,[.int .i64 a1, .int .i64 a2, .str a3, .sl (a4.map aD)])])) rfl (fun st _ h=> ?_) (fun q h=> ?_)
 obtain⟨b3,b4,b5,b6,w,X,Y,Z,a0⟩:=st; unfold iC at h; refine gco 6 rfl<|xLn rfl<|goc 2 rfl<|cIf h rfl (fun c1 h=> ?_) (fun c1 h=> ?_)
 refine gco 8 rfl<|xIx h aO rfl (fun b9 h=> ?_)
 refine goo 2 rfl<|xC0 h (b ·) rfl (fun d h=> ?_)
 refine goo 3 rfl<|xAz [.int .i64 0, .int .i64 0, .str [], .sl ([].map aD)] rfl<|goc 9 rfl<|cIf h rfl (fun c2 h=> ?_) (fun c2 h=> ?_)
 exact gec; refine gco 4 rfl<|oJn h [(55,65)] [] (fun m=>(.n,[(65,Bo m)],[])) (fun _ h=> ?_) (fun m h=> ?_)
 refine goo 4 rfl<|oIf 58 h rfl (fun c3 h=> ?_) (fun c3 h=> ?_)
 exact goo 3 rfl<|xLn rfl<|geo
 exact geo; refine cIf h rfl (fun c4 h=> ?_) (fun c4 h=> ?_)
 refine gco 6 rfl<|wAp (f:=aD) h rfl rfl rfl rfl rfl rfl rfl rfl rfl (fun a=>by rw[aN]; rfl) rfl (fun c9 h=> ?_)
 exact geo; refine gco 5 rfl<|cS (L:=([aB.mk d.1 d.2.1 d.2.2.1 d.2.2.2.1]:List aB)) (f:=aD) rfl rfl rfl rfl (by simp only[List.map,bY]<;>rfl) rfl rfl<|wAp (f:=aD) h rfl rfl rfl rfl rfl rfl rfl rfl rfl (fun a=>by rw[aN]; rfl) rfl (fun d1 h=> ?_)
 exact geo; exact gec; rcases q with⟨p,y,z,A,B⟩ | ⟨t,j,C,D,E,G,a1,a2,a3,a4⟩; exact en; exact gec; refine gcc 6 rfl<|cLp h [(4,5),(7,9),(35,81)] [(4,4),(6,6),(8,8)] (fun(u,H,I,J,K,a5,a6,a7,a8)=>([(4,Pt 4),(7,I64 u)],[(4,[.int .i64 H, .int .i64 I, .str J, .sl (K.map aD)]),(6,[.int .i64 a5, .int .i64 a6, .str a7, .sl (a8.map aD)])])) (fun q=>match q with | .inl (s,M,N,Q,R)=>(.r,[(4,Pt 4),(5,Bo s)],[(4,[.int .i64 M, .int .i64 N, .str Q, .sl (R.map aD)])]) | .inr (v,l,T,U,V,W,a9,b0,b1,b2)=>(.e 1,[(4,Pt 4),(7,I64 v),(39,Bo l)],[(4,[.int .i64 T, .int .i64 U, .str V, .sl (W.map aD)]),(6,[.int .i64 a9, .int .i64 b0, .str b1, .sl (b2.map aD)])])) rfl (fun st _ h=> ?_) (fun q h=> ?_)
 obtain⟨u,H,I,J,K,a5,a6,a7,a8⟩:=st; unfold nO at h; refine gco 6 rfl<|xLn rfl<|goc 2 rfl<|cIf h rfl (fun c5 h=> ?_) (fun c5 h=> ?_)
 refine gco 8 rfl<|xIx h aO rfl (fun c0 h=> ?_)
 refine goo 2 rfl<|xC0 h (b ·) rfl (fun g h=> ?_)
 refine goo 3 rfl<|xAz [.int .i64 0, .int .i64 0, .str [], .sl ([].map aD)] rfl<|goc 9 rfl<|cIf h rfl (fun c6 h=> ?_) (fun c6 h=> ?_)
 exact gec; refine gco 4 rfl<|oJn h [(55,65)] [] (fun o=>(.n,[(65,Bo o)],[])) (fun _ h=> ?_) (fun o h=> ?_)
 refine goo 4 rfl<|oIf 58 h rfl (fun c7 h=> ?_) (fun c7 h=> ?_)
 exact goo 3 rfl<|xLn rfl<|geo
 exact geo; refine cIf h rfl (fun c8 h=> ?_) (fun c8 h=> ?_)
 refine gco 6 rfl<|wAp (f:=aD) h rfl rfl rfl rfl rfl rfl rfl rfl rfl (fun a=>by rw[aN]; rfl) rfl (fun d0 h=> ?_)
 exact geo; refine gco 5 rfl<|cS (L:=([aB.mk g.1 g.2.1 g.2.2.1 g.2.2.2.1]:List aB)) (f:=aD) rfl rfl rfl rfl (by simp only[List.map,bY]<;>rfl) rfl rfl<|wAp (f:=aD) h rfl rfl rfl rfl rfl rfl rfl rfl rfl (fun a=>by rw[aN]; rfl) rfl (fun d2 h=> ?_)
 exact geo; exact gec; rcases q with⟨s,M,N,Q,R⟩ | ⟨v,l,T,U,V,W,a9,b0,b1,b2⟩; exact en; exact gec
def xM:Nat→(gR)
  | 0=>(fun _ _ _ _ _ _=>none)
  | n+1=>lH n (xM n)
def eC(n:Nat):gR:=xM n
theorem Aw(n:Nat):nZ (eC n):=by
  induction n with
  | zero=>exact(fun h=>nomatch h)
  | succ n ih=>exact Al (n:=n) ih
theorem Ch{n:Nat}:nZ (eC n):=(Aw n)
theorem yJ(n:Nat):eC (n+1)=lH n (eC n):=rfl
abbrev Do(p:Int→Int→(List UInt8)→(List aB)→Option (Bool)):Prop:= ∀ {a b:Int} {d:List UInt8} {f:List aB} {r:Bool},p a b d f=some r→Big Try.prog τ An (.fn 247 [.one (.ag [.int .i64 a, .int .i64 b, .str d, .sl (f.map aD)])] [] (.one (.c (.bool r))) none [] none)
def kG(n:Nat)(a:Int)(b:Int)(c:List UInt8)(d:List aB):Option (Bool):=
  bif decide (a=(1:Int))then((cH n b ((-1000000000000):Int) (1000000000000:Int)).bind fun o=>bif o then bif decide (c=([]:List UInt8))then some (decide ((d.length:Int)=(0:Int)))else some false else some false).bind fun p=>some p else bif decide (a=(2:Int))then((jM n c).bind fun g=>bif g then bif decide (b=(0:Int))then some (decide ((d.length:Int)=(0:Int)))else some false else some false).bind fun s=>some s else bif decide (a=(3:Int))then((cH n b (0:Int) (1000000:Int)).bind fun f=>bif f then bif decide (c=([]:List UInt8))then some (decide ((d.length:Int)=(0:Int)))else some false else some false).bind fun j=>some j else bif decide (a=(4:Int))then(bif decide (b=(0:Int))then bif decide (c=([]:List UInt8))then some (decide ((d.length:Int)≤(20:Int)))else some false else some false).bind fun l=>some l else bif decide (a=(5:Int))then(bif decide (b=(0:Int))then bif decide (c=([]:List UInt8))then some (decide ((d.length:Int)≤(60:Int)))else some false else some false).bind fun m=>some m else some false
theorem BL{n:Nat}:Do (kG n):=by
 intro G H I J r h; unfold kG at h; refine bF Try.func247 rfl rfl<|gcc 17 rfl<|cIf h rfl (fun A h=> ?_) (fun A h=> ?_)
 refine cRs<|oJn h [(2,2),(7,20)] [] (fun d=>(.n,[(2,Bo d)],[])) (fun _ h=> ?_) (fun d h=> ?_)
 refine goo 2 rfl<|xC0 h (cO ·) rfl (fun z h=> ?_)
 refine xMv rfl<|oIf 10 h rfl (fun B h=> ?_) (fun B h=> ?_)
 refine goo 5 rfl<|oIf 15 h rfl (fun C h=> ?_) (fun C h=> ?_)
 exact goo 2 rfl<|xLn rfl<|geo
 exact geo; exact geo; exact gec; refine gcc 5 rfl<|cIf h rfl (fun D h=> ?_) (fun D h=> ?_)
 refine cRs<|oJn h [(2,2),(23,36)] [] (fun f=>(.n,[(2,Bo f)],[])) (fun _ h=> ?_) (fun f h=> ?_)
 refine goo 2 rfl<|xC0 h (tR ·) rfl (fun y h=> ?_)
 refine xMv rfl<|oIf 26 h rfl (fun E h=> ?_) (fun E h=> ?_)
 refine goo 5 rfl<|oIf 31 h rfl (fun j h=> ?_) (fun j h=> ?_)
 exact goo 2 rfl<|xLn rfl<|geo
 exact geo; exact geo; exact gec; refine gcc 5 rfl<|cIf h rfl (fun l h=> ?_) (fun l h=> ?_)
 refine cRs<|oJn h [(2,2),(39,52)] [] (fun a=>(.n,[(2,Bo a)],[])) (fun _ h=> ?_) (fun a h=> ?_)
 refine goo 2 rfl<|xC0 h (cO ·) rfl (fun g h=> ?_)
 refine xMv rfl<|oIf 42 h rfl (fun m h=> ?_) (fun m h=> ?_)
 refine goo 5 rfl<|oIf 47 h rfl (fun o h=> ?_) (fun o h=> ?_)
 exact goo 2 rfl<|xLn rfl<|geo
 exact geo; exact geo; exact gec; refine gcc 5 rfl<|cIf h rfl (fun p h=> ?_) (fun p h=> ?_)
 refine cRs<|oJn h [(2,2),(55,68)] [] (fun b=>(.n,[(2,Bo b)],[])) (fun _ h=> ?_) (fun b h=> ?_)
 refine goo 4 rfl<|oIf 58 h rfl (fun s h=> ?_) (fun s h=> ?_)
 refine goo 5 rfl<|oIf 63 h rfl (fun t h=> ?_) (fun t h=> ?_)
 exact goo 2 rfl<|xLn rfl<|geo
 exact geo; exact geo; exact gec; refine gcc 5 rfl<|cIf h rfl (fun u h=> ?_) (fun u h=> ?_)
 refine cRs<|oJn h [(2,2),(71,84)] [] (fun c=>(.n,[(2,Bo c)],[])) (fun _ h=> ?_) (fun c h=> ?_)
 refine goo 4 rfl<|oIf 74 h rfl (fun v h=> ?_) (fun v h=> ?_)
 refine goo 5 rfl<|oIf 79 h rfl (fun w h=> ?_) (fun w h=> ?_)
 exact goo 2 rfl<|xLn rfl<|geo
 exact geo; exact geo; exact gec; exact gec
abbrev jO:Type:=Int→Int→(List UInt8)→(List aB)→Int→Int→Option (Int)
abbrev oD(p:jO):Prop:= ∀ {a b:Int} {d:List UInt8} {f:List aB} {g j:Int} {r:Int},p a b d f g j=some r→Big Try.prog τ An (.fn 175 [.one (.ag [.int .i64 a, .int .i64 b, .str d, .sl (f.map aD)]), .one (.c (.int .i64 g)), .one (.c (.int .i64 j))] [] (.one (.c (.int .i64 r))) none [] none)
def fM(n:Nat)(b:jO)(l:Int)(g:List aB):(Int×Int)→Option ((Int×Int)⊕((Int×Int×Bool)))
  | (d,c)=>(bif decide (c<(g.length:Int))then some (decide ((0:Int)≤d))else some false).bind fun j=>bif j then(ix g c).bind fun a=>(b a.f0 a.f1 a.f2 a.f3 (IntKind.wrap .i64 (l - (1:Int))) d).bind fun f=>some (.inl (f,(IntKind.wrap .i64 (c+(1:Int)))))else some (.inr (d,c,false))
def lM(n:Nat)(a:jO)(j:Int)(l:Int)(m:List UInt8)(b:List aB)(c:Int)(d:Int):Option (Int):=
  (bif decide (c<(1:Int))then some true else bif decide (d<(1:Int))then some true else(kG n j l m b).bind fun f=>some (!f)).bind fun g=>bif g then some ((-1):Int)else(loopN (fM n a c b) n ((IntKind.wrap .i64 (d - (1:Int))),(0:Int))).bind fun(o,s,p)=>some o
theorem Ar{n:Nat}{a:jO}(b:oD a):oD (lM n a):=by
 intro z A B C D E r h; unfold lM at h; refine bF Try.func175 rfl rfl<|gco 8 rfl<|oJn h [(8,18)] [] (fun f=>(.n,[(18,Bo f)],[])) (fun _ h=> ?_) (fun f h=> ?_)
 refine goo 3 rfl<|oIf 10 h rfl (fun v h=> ?_) (fun v h=> ?_)
 exact geo; refine goo 4 rfl<|oIf 14 h rfl (fun w h=> ?_) (fun w h=> ?_)
 exact geo; refine xLd rfl<|xC0 h (BL ·) rfl (fun u h=> ?_)
 exact geo; refine cIf h rfl (fun y h=> ?_) (fun y h=> ?_)
 exact gec; refine gcc 12 rfl<|cLp h [(2,2),(7,7),(21,40)] [] (fun(g,l)=>([(2,I64 g),(7,I64 l)],[])) (fun(j,m,c)=>(.e 0,[(2,I64 j),(7,I64 m),(29,Bo c)],[])) rfl (fun st _ h=> ?_) (fun q h=> ?_)
 obtain⟨g,l⟩:=st; unfold fM at h; refine gco 3 rfl<|oJn h [(21,29)] [] (fun d=>(.n,[(29,Bo d)],[])) (fun _ h=> ?_) (fun d h=> ?_)
 refine goo 3 rfl<|xLn rfl<|goo 2 rfl<|oIf 26 h rfl (fun s h=> ?_) (fun s h=> ?_)
 exact geo; exact geo; refine cIf h rfl (fun t h=> ?_) (fun t h=> ?_)
 refine gco 7 rfl<|xIx h aN rfl (fun p h=> ?_)
 refine goo 4 rfl<|xC0 h (b ·) rfl (fun o h=> ?_)
 exact geo; exact gec; obtain⟨j,m,c⟩:=q; exact gec
def xQ:Nat→(jO)
  | 0=>(fun _ _ _ _ _ _=>none)
  | n+1=>lM n (xQ n)
def eD(n:Nat):jO:=xQ n
theorem BA(n:Nat):oD (eD n):=by
  induction n with
  | zero=>exact(fun h=>nomatch h)
  | succ n ih=>exact Ar (n:=n) ih
theorem Cj{n:Nat}:oD (eD n):=(BA n)
theorem yO(n:Nat):eD (n+1)=lM n (eD n):=rfl
abbrev Fu(p:Int→Int→(List UInt8)→(List aB)→Option (Bool)):Prop:= ∀ {a b:Int} {d:List UInt8} {f:List aB} {r:Bool},p a b d f=some r→Big Try.prog τ An (.fn 76 [.one (.ag [.int .i64 a, .int .i64 b, .str d, .sl (f.map aD)])] [] (.one (.c (.bool r))) none [] none)
def gP(n:Nat)(b:Int)(c:Int)(d:List UInt8)(f:List aB):Option (Bool):=
  (eD n b c d f (8:Int) (300:Int)).bind fun a=>some (decide ((0:Int)≤a))
theorem tQ{n:Nat}:Fu (gP n):=by
 intro b c d f r h; unfold gP at h; refine bF Try.func76 rfl rfl<|gco 8 rfl<|xC0 h (Cj ·) rfl (fun a h=> ?_)
 exact geo
abbrev JA(p:Int→Int→(List UInt8)→(List aA)→(List aC)→(List aG)→Option (Int×Int×(List UInt8)×(List aB)×Bool)):Prop:= ∀ {a b:Int} {d:List UInt8} {f:List aA} {g:List aC} {j:List aG} {r:Int×Int×(List UInt8)×(List aB)×Bool},p a b d f g j=some r→Big Try.prog τ An (.fn 13 [.one (.ag [.int .i64 a, .int .i64 b, .str d, .sl (f.map aF), .sl (g.map aE)]), .one (.c (.sl (j.map aL)))] [] (.tup [.ag [.int .i64 r.1, .int .i64 r.2.1, .str r.2.2.1, .sl (r.2.2.2.1.map aD)], .c (.bool r.2.2.2.2)]) none [] none)
def rN(n:Nat)(b:Int)(c:Int)(d:List UInt8)(f:List aA)(g:List aC)(o:List aG):Option (Int×Int×(List UInt8)×(List aB)×Bool):=
  (iT n b c d f g).bind fun m=>bif !m then some ((0:Int),(0:Int),([]:List UInt8),([]:List aB),false)else(eC n b c d f g o).bind fun a=>(bif !a.2.2.2.2 then some true else(gP n a.1 a.2.1 a.2.2.1 a.2.2.2.1).bind fun j=>some (!j)).bind fun l=>bif l then some ((0:Int),(0:Int),([]:List UInt8),([]:List aB),false)else some (a.1,a.2.1,a.2.2.1,a.2.2.2.1,true)
theorem Fh{n:Nat}:JA (rN n):=by
 intro l m o p s t r h; unfold rN at h; refine bF Try.func13 rfl rfl<|gco 3 rfl<|xAz [.int .i64 0, .int .i64 0, .str [], .sl ([].map aD)] rfl<|goo 6 rfl<|xC0 h (vK ·) rfl (fun d h=> ?_)
 refine goc 2 rfl<|cIf h rfl (fun f h=> ?_) (fun f h=> ?_)
 exact cRs<|wBd [.int .i64 0, .int .i64 0, .str [], .sl ([].map aD)] rfl rfl rfl rfl rfl rfl<|geo
 refine gco 5 rfl<|xC0 h (Ch ·) rfl (fun b h=> ?_)
 refine goo 3 rfl<|xAz [.int .i64 0, .int .i64 0, .str [], .sl ([].map aD)] rfl<|goo 6 rfl<|oJn h [(18,24)] [] (fun a=>(.n,[(24,Bo a)],[])) (fun _ h=> ?_) (fun a h=> ?_)
 refine goo 3 rfl<|oIf 20 h rfl (fun g h=> ?_) (fun g h=> ?_)
 exact geo; refine xLd rfl<|xC0 h (tQ ·) rfl (fun c h=> ?_)
 exact geo; refine cIf h rfl (fun j h=> ?_) (fun j h=> ?_)
 exact cRs<|wBd [.int .i64 0, .int .i64 0, .str [], .sl ([].map aD)] rfl rfl rfl rfl rfl rfl<|geo
 exact gec
abbrev Du(p:Int→Int→Int→Option (Bool)):Prop:= ∀ {a b d:Int} {r:Bool},p a b d=some r→Big Try.prog τ An (.fn 130 [.one (.c (.int .i64 a)), .one (.c (.int .i64 b)), .one (.c (.int .i64 d))] [] (.one (.c (.bool r))) none [] none)
def cZ(n:Nat)(a:Int)(b:Int)(c:Int):Option (Bool):=
  (bif decide (b≤a)then some (decide (a≤c))else some false).bind fun d=>some d
theorem fQ{n:Nat}:Du (cZ n):=by
 intro c d f r h; unfold cZ at h; refine bF Try.func130 rfl rfl<|gco 6 rfl<|oJn h [(6,14)] [] (fun a=>(.n,[(6,Bo a)],[])) (fun _ h=> ?_) (fun a h=> ?_)
 refine goo 4 rfl<|oIf 10 h rfl (fun b h=> ?_) (fun b h=> ?_)
 exact geo; exact geo; exact gec
abbrev Ds(p:Int→Option (Bool)):Prop:= ∀ {a:Int} {r:Bool},p a=some r→Big Try.prog τ An (.fn 237 [.one (.c (.int .u8 a))] [] (.one (.c (.bool r))) none [] none)
def fZ(n:Nat)(a:Int):Option (Bool):=
  (bif decide ((97:Int)≤a)then some (decide (a≤(122:Int)))else some false).bind fun b=>some b
theorem sE{n:Nat}:Ds (fZ n):=by
 intro c r h; unfold fZ at h; refine bF Try.func237 rfl rfl<|gco 6 rfl<|oJn h [(2,8)] [] (fun a=>(.n,[(2,Bo a)],[])) (fun _ h=> ?_) (fun a h=> ?_)
 refine goo 3 rfl<|oIf 5 h rfl (fun b h=> ?_) (fun b h=> ?_)
 exact geo; exact geo; exact gec
abbrev Cw(p:Int→Option (Bool)):Prop:= ∀ {a:Int} {r:Bool},p a=some r→Big Try.prog τ An (.fn 238 [.one (.c (.int .u8 a))] [] (.one (.c (.bool r))) none [] none)
def eP(n:Nat)(a:Int):Option (Bool):=
  (bif decide ((48:Int)≤a)then some (decide (a≤(57:Int)))else some false).bind fun b=>some b
theorem rG{n:Nat}:Cw (eP n):=by
 intro c r h; unfold eP at h; refine bF Try.func238 rfl rfl<|gco 6 rfl<|oJn h [(2,8)] [] (fun a=>(.n,[(2,Bo a)],[])) (fun _ h=> ?_) (fun a h=> ?_)
 refine goo 3 rfl<|oIf 5 h rfl (fun b h=> ?_) (fun b h=> ?_)
 exact geo; exact geo; exact gec
abbrev GB(p:(List UInt8)→Option (Bool)):Prop:= ∀ {a:List UInt8} {r:Bool},p a=some r→Big Try.prog τ An (.fn 159 [.one (.c (.str a))] [] (.one (.c (.bool r))) none [] none)
def kT(n:Nat)(b:List UInt8):(Int)→Option ((Int)⊕((Bool)⊕(Int×Bool)))
  | a=>bif decide (a<(b.length:Int))then((ixs b a).bind fun j=>(fZ n j).bind fun g=>bif !g then bif decide (a=(0:Int))then some true else(ixs b a).bind fun d=>(eP n d).bind fun c=>bif !c then(ixs b a).bind fun f=>some (!decide (f=(95:Int)))else some false else some false).bind fun l=>bif l then some (.inr (.inl false))else some (.inl (IntKind.wrap .i64 (a+(1:Int))))else some (.inr (.inr (a,false)))
def jN(n:Nat)(b:List UInt8):Option (Bool):=
  (loopN (kT n b) n (0:Int)).bind fun q=>(match q with | .inl c=>some c | .inr (d,f)=>(cZ n (b.length:Int) (1:Int) (20:Int)).bind fun a=>some a)
theorem tT{n:Nat}:GB (jN n):=by
 intro y r h; unfold jN at h; refine bF Try.func159 rfl rfl<|gcc 9 rfl<|cLp h [(2,31)] [] (fun c=>([(3,I64 c)],[])) (fun q=>match q with | .inl b=>(.r,[(2,Bo b)],[]) | .inr (d,f)=>(.e 0,[(3,I64 d),(7,Bo f)],[])) rfl (fun c _ h=> ?_) (fun q h=> ?_)
 unfold kT at h; refine gco 5 rfl<|xLs rfl<|goc 2 rfl<|cIf h rfl (fun v h=> ?_) (fun v h=> ?_)
 refine gco 5 rfl<|oJn h [(10,31)] [] (fun a=>(.n,[(31,Bo a)],[])) (fun _ h=> ?_) (fun a h=> ?_)
 refine goo 2 rfl<|LE h rfl rfl rfl rfl rfl (fun u h=> ?_)
 refine xC0 h (sE ·) rfl (fun t h=> ?_)
 refine goo 2 rfl<|oIf 15 h rfl (fun w h=> ?_) (fun w h=> ?_)
 refine goo 3 rfl<|oIf 18 h rfl (fun o h=> ?_) (fun o h=> ?_)
 exact geo; refine goo 2 rfl<|LE h rfl rfl rfl rfl rfl (fun l h=> ?_)
 refine xC0 h (rG ·) rfl (fun g h=> ?_)
 refine goo 2 rfl<|oIf 24 h rfl (fun p h=> ?_) (fun p h=> ?_)
 refine goo 2 rfl<|LE h rfl rfl rfl rfl rfl (fun m h=> ?_)
 exact geo; exact geo; exact geo; refine cIf h rfl (fun s h=> ?_) (fun s h=> ?_)
 exact gec; exact gec; exact gec; rcases q with b | ⟨d,f⟩; exact en; refine gco 3 rfl<|xLs rfl<|xC0 h (fQ ·) rfl (fun j h=> ?_)
 exact geo
abbrev wK(p:Int→Int→(List UInt8)→(List aB)→Option (Bool)):Prop:= ∀ {a b:Int} {d:List UInt8} {f:List aB} {r:Bool},p a b d f=some r→Big Try.prog τ An (.fn 189 [.one (.ag [.int .i64 a, .int .i64 b, .str d, .sl (f.map aD)])] [] (.one (.c (.bool r))) none [] none)
def fC(n:Nat)(a:Int)(b:Int)(c:List UInt8)(d:List aB):Option (Bool):=
  bif decide (a=(1:Int))then((cZ n b ((-1000000000000):Int) (1000000000000:Int)).bind fun o=>bif o then bif decide (c=([]:List UInt8))then some (decide ((d.length:Int)=(0:Int)))else some false else some false).bind fun p=>some p else bif decide (a=(2:Int))then(bif decide (b=(0:Int))then(jN n c).bind fun g=>bif g then some (decide ((d.length:Int)=(0:Int)))else some false else some false).bind fun s=>some s else bif decide (a=(3:Int))then((cZ n b (0:Int) (1000000:Int)).bind fun f=>bif f then bif decide (c=([]:List UInt8))then some (decide ((d.length:Int)=(0:Int)))else some false else some false).bind fun j=>some j else bif decide (a=(4:Int))then(bif decide (b=(0:Int))then bif decide (c=([]:List UInt8))then some (decide ((d.length:Int)≤(20:Int)))else some false else some false).bind fun l=>some l else bif decide (a=(5:Int))then(bif decide (b=(0:Int))then bif decide (c=([]:List UInt8))then some (decide ((d.length:Int)≤(60:Int)))else some false else some false).bind fun m=>some m else some false
theorem uG{n:Nat}:wK (fC n):=by
 intro G H I J r h; unfold fC at h; refine bF Try.func189 rfl rfl<|gcc 17 rfl<|cIf h rfl (fun A h=> ?_) (fun A h=> ?_)
 refine cRs<|oJn h [(2,2),(7,20)] [] (fun d=>(.n,[(2,Bo d)],[])) (fun _ h=> ?_) (fun d h=> ?_)
 refine goo 2 rfl<|xC0 h (fQ ·) rfl (fun z h=> ?_)
 refine xMv rfl<|oIf 10 h rfl (fun B h=> ?_) (fun B h=> ?_)
 refine goo 5 rfl<|oIf 15 h rfl (fun C h=> ?_) (fun C h=> ?_)
 exact goo 2 rfl<|xLn rfl<|geo
 exact geo; exact geo; exact gec; refine gcc 5 rfl<|cIf h rfl (fun D h=> ?_) (fun D h=> ?_)
 refine cRs<|oJn h [(2,2),(23,36)] [] (fun f=>(.n,[(2,Bo f)],[])) (fun _ h=> ?_) (fun f h=> ?_)
 refine goo 4 rfl<|oIf 26 h rfl (fun E h=> ?_) (fun E h=> ?_)
 refine goo 2 rfl<|xC0 h (tT ·) rfl (fun y h=> ?_)
 refine goo 2 rfl<|oIf 31 h rfl (fun j h=> ?_) (fun j h=> ?_)
 exact goo 2 rfl<|xLn rfl<|geo
 exact geo; exact geo; exact gec; refine gcc 5 rfl<|cIf h rfl (fun l h=> ?_) (fun l h=> ?_)
 refine cRs<|oJn h [(2,2),(39,52)] [] (fun a=>(.n,[(2,Bo a)],[])) (fun _ h=> ?_) (fun a h=> ?_)
 refine goo 2 rfl<|xC0 h (fQ ·) rfl (fun g h=> ?_)
 refine xMv rfl<|oIf 42 h rfl (fun m h=> ?_) (fun m h=> ?_)
 refine goo 5 rfl<|oIf 47 h rfl (fun o h=> ?_) (fun o h=> ?_)
 exact goo 2 rfl<|xLn rfl<|geo
 exact geo; exact geo; exact gec; refine gcc 5 rfl<|cIf h rfl (fun p h=> ?_) (fun p h=> ?_)
 refine cRs<|oJn h [(2,2),(55,68)] [] (fun b=>(.n,[(2,Bo b)],[])) (fun _ h=> ?_) (fun b h=> ?_)
 refine goo 4 rfl<|oIf 58 h rfl (fun s h=> ?_) (fun s h=> ?_)
 refine goo 5 rfl<|oIf 63 h rfl (fun t h=> ?_) (fun t h=> ?_)
 exact goo 2 rfl<|xLn rfl<|geo
 exact geo; exact geo; exact gec; refine gcc 5 rfl<|cIf h rfl (fun u h=> ?_) (fun u h=> ?_)
 refine cRs<|oJn h [(2,2),(71,84)] [] (fun c=>(.n,[(2,Bo c)],[])) (fun _ h=> ?_) (fun c h=> ?_)
 refine goo 4 rfl<|oIf 74 h rfl (fun v h=> ?_) (fun v h=> ?_)
 refine goo 5 rfl<|oIf 79 h rfl (fun w h=> ?_) (fun w h=> ?_)
 exact goo 2 rfl<|xLn rfl<|geo
 exact geo; exact geo; exact gec; exact gec
abbrev dL:Type:=Int→Int→(List UInt8)→(List aB)→Int→Option (Int)
abbrev gW(p:dL):Prop:= ∀ {a b:Int} {d:List UInt8} {f:List aB} {g:Int} {r:Int},p a b d f g=some r→Big Try.prog τ An (.fn 97 [.one (.ag [.int .i64 a, .int .i64 b, .str d, .sl (f.map aD)]), .one (.c (.int .i64 g))] [] (.one (.c (.int .i64 r))) none [] none)
def cM(n:Nat)(a:dL)(j:Int)(g:List aB):(Int×Int)→Option ((Int×Int)⊕((Int)⊕(Int×Int×Bool)))
  | (f,c)=>bif decide (c<(g.length:Int))then(ix g c).bind fun b=>(a b.f0 b.f1 b.f2 b.f3 (IntKind.wrap .i64 (j+(1:Int)))).bind fun d=>bif decide ((300:Int)<(IntKind.wrap .i64 (f+d)))then some (.inr (.inl (301:Int)))else some (.inl ((IntKind.wrap .i64 (f+d)),(IntKind.wrap .i64 (c+(1:Int)))))else some (.inr (.inr (f,c,false)))
def eV(n:Nat)(a:dL)(g:Int)(j:Int)(l:List UInt8)(b:List aB)(c:Int):Option (Int):=
  (bif decide ((8:Int)<c)then some true else(fC n g j l b).bind fun d=>some (!d)).bind fun f=>bif f then some (301:Int)else(loopN (cM n a c b) n ((1:Int),(0:Int))).bind fun q=>(match q with | .inl m=>some m | .inr (o,s,p)=>some o)
theorem sJ{n:Nat}{a:dL}(b:gW a):gW (eV n a):=by
 intro y z A B C r h; unfold eV at h; refine bF Try.func97 rfl rfl<|gco 8 rfl<|oJn h [(8,14)] [] (fun d=>(.n,[(14,Bo d)],[])) (fun _ h=> ?_) (fun d h=> ?_)
 refine goo 3 rfl<|oIf 10 h rfl (fun v h=> ?_) (fun v h=> ?_)
 exact geo; refine xLd rfl<|xC0 h (uG ·) rfl (fun u h=> ?_)
 exact geo; refine cIf h rfl (fun w h=> ?_) (fun w h=> ?_)
 exact gec; refine gco 10 rfl<|xLn rfl<|goc 2 rfl<|cLp h [(4,5),(7,7),(18,30)] [(7,7)] (fun(l,f)=>([(5,I64 l),(18,I64 f)],[])) (fun q=>match q with | .inl j=>(.r,[(4,I64 j)],[]) | .inr (m,g,c)=>(.e 0,[(5,I64 m),(18,I64 g),(19,Bo c)],[])) rfl (fun st _ h=> ?_) (fun q h=> ?_)
 obtain⟨l,f⟩:=st; unfold cM at h; refine gcc 5 rfl<|cIf h rfl (fun s h=> ?_) (fun s h=> ?_)
 refine gco 5 rfl<|xIx h aN rfl (fun p h=> ?_)
 refine xLd rfl<|xAz [.int .i64 0, .int .i64 0, .str [], .sl ([].map aD)] rfl<|goo 8 rfl<|xC0 h (b ·) rfl (fun o h=> ?_)
 refine goc 8 rfl<|cIf h rfl (fun t h=> ?_) (fun t h=> ?_)
 exact gec; exact gec; exact gec; rcases q with j | ⟨m,g,c⟩; exact en; exact gec
def pD:Nat→(dL)
  | 0=>(fun _ _ _ _ _=>none)
  | n+1=>eV n (pD n)
def bR(n:Nat):dL:=pD n
theorem sK(n:Nat):gW (bR n):=by
  induction n with
  | zero=>exact(fun h=>nomatch h)
  | succ n ih=>exact sJ (n:=n) ih
theorem uH{n:Nat}:gW (bR n):=(sK n)
theorem rL(n:Nat):bR (n+1)=eV n (bR n):=rfl
abbrev Fz(p:Int→Int→(List UInt8)→(List aB)→Option (Bool)):Prop:= ∀ {a b:Int} {d:List UInt8} {f:List aB} {r:Bool},p a b d f=some r→Big Try.prog τ An (.fn 28 [.one (.ag [.int .i64 a, .int .i64 b, .str d, .sl (f.map aD)])] [] (.one (.c (.bool r))) none [] none)
def fT(n:Nat)(b:Int)(c:Int)(d:List UInt8)(f:List aB):Option (Bool):=
  (bR n b c d f (1:Int)).bind fun a=>some (decide (a≤(300:Int)))
theorem pA{n:Nat}:Fz (fT n):=by
 intro b c d f r h; unfold fT at h; refine bF Try.func28 rfl rfl<|gco 8 rfl<|xC0 h (uH ·) rfl (fun a h=> ?_)
 exact geo
abbrev wJ(p:(List (List UInt8))→(List UInt8)→Option (Int)):Prop:= ∀ {a:List (List UInt8)} {b:List UInt8} {r:Int},p a b=some r→Big Try.prog τ An (.fn 208 [.one (.c (.sl (a.map eF))), .one (.c (.str b))] [] (.one (.c (.int .i64 r))) none [] none)
def dH(n:Nat)(b:List (List UInt8))(d:List UInt8):(Int)→Option ((Int)⊕((Int)⊕(Int×Bool)))
  | a=>bif decide (a<(b.length:Int))then(ix b a).bind fun c=>bif decide (d=c)then some (.inr (.inl a))else some (.inl (IntKind.wrap .i64 (a+(1:Int))))else some (.inr (.inr (a,false)))
def eW(n:Nat)(a:List (List UInt8))(b:List UInt8):Option (Int):=
  (loopN (dH n a b) n (0:Int)).bind fun q=>(match q with | .inl c=>some c | .inr (d,f)=>some ((-1):Int))
theorem uF{n:Nat}:wJ (eW n):=by
 intro l m r h; unfold eW at h; refine bF Try.func208 rfl rfl<|gco 8 rfl<|xLn rfl<|goc 2 rfl<|cLp h [(4,5),(8,18)] [] (fun b=>([(8,I64 b)],[])) (fun q=>match q with | .inl a=>(.r,[(4,I64 a)],[]) | .inr (c,d)=>(.e 0,[(8,I64 c),(9,Bo d)],[])) rfl (fun b _ h=> ?_) (fun q h=> ?_)
 unfold dH at h; refine gcc 5 rfl<|cIf h rfl (fun g h=> ?_) (fun g h=> ?_)
 refine gco 13 rfl<|xIx h pM rfl (fun f h=> ?_)
 refine goc 3 rfl<|cIf h rfl (fun j h=> ?_) (fun j h=> ?_)
 exact gec; exact gec; exact gec; rcases q with a | ⟨c,d⟩; exact en; exact gec
abbrev sM(p:(List (List UInt8))→(List UInt8)→Option (Bool)):Prop:= ∀ {a:List (List UInt8)} {b:List UInt8} {r:Bool},p a b=some r→Big Try.prog τ An (.fn 210 [.one (.c (.sl (a.map eF))), .one (.c (.str b))] [] (.one (.c (.bool r))) none [] none)
def dI(n:Nat)(b:List (List UInt8))(c:List UInt8):Option (Bool):=
  (eW n b c).bind fun a=>some (decide ((0:Int)≤a))
theorem rM{n:Nat}:sM (dI n):=by
 intro b c r h; unfold dI at h; refine bF Try.func210 rfl rfl<|gco 8 rfl<|xC0 h (uF ·) rfl (fun a h=> ?_)
 exact geo
abbrev Dq(p:(List UInt8)→Option (Bool)):Prop:= ∀ {a:List UInt8} {r:Bool},p a=some r→Big Try.prog τ An (.fn 138 [.one (.c (.str a))] [] (.one (.c (.bool r))) none [] none)
def iK(n:Nat)(a:List UInt8):Option (Bool):=
  ((jN n a).bind fun b=>bif b then bif !decide (a=([99,97,115,101]:List UInt8))then bif !decide (a=([111,102]:List UInt8))then some (!decide (a=([101,110,100]:List UInt8)))else some false else some false else some false).bind fun c=>some c
theorem sD{n:Nat}:Dq (iK n):=by
 intro g r h; unfold iK at h; refine bF Try.func138 rfl rfl<|gco 6 rfl<|oJn h [(2,16)] [] (fun a=>(.n,[(2,Bo a)],[])) (fun _ h=> ?_) (fun a h=> ?_)
 refine xMv rfl<|xC0 h (tT ·) rfl (fun b h=> ?_)
 refine xMv rfl<|oIf 5 h rfl (fun c h=> ?_) (fun c h=> ?_)
 refine goo 4 rfl<|oIf 9 h rfl (fun d h=> ?_) (fun d h=> ?_)
 refine goo 4 rfl<|oIf 13 h rfl (fun f h=> ?_) (fun f h=> ?_)
 exact geo; exact geo; exact geo; exact geo; exact gec
abbrev Dt(p:Int→Option (Bool)):Prop:= ∀ {a:Int} {r:Bool},p a=some r→Big Try.prog τ An (.fn 299 [.one (.c (.int .u8 a))] [] (.one (.c (.bool r))) none [] none)
def iL(n:Nat)(a:Int):Option (Bool):=
  (bif decide ((65:Int)≤a)then bif decide (a≤(90:Int))then some true else some (decide (a=(95:Int)))else some (decide (a=(95:Int)))).bind fun b=>some b
theorem sF{n:Nat}:Dt (iL n):=by
 intro d r h; unfold iL at h; refine bF Try.func299 rfl rfl<|gco 6 rfl<|oJn h [(2,12)] [] (fun a=>(.n,[(2,Bo a)],[])) (fun _ h=> ?_) (fun a h=> ?_)
 refine goo 3 rfl<|oIf 5 h rfl (fun b h=> ?_) (fun b h=> ?_)
 refine goo 4 rfl<|oIf 9 h rfl (fun c h=> ?_) (fun c h=> ?_)
 exact geo; exact geo; exact geo; exact gec
abbrev AD(p:Int→Option (Bool)):Prop:= ∀ {a:Int} {r:Bool},p a=some r→Big Try.prog τ An (.fn 298 [.one (.c (.int .u8 a))] [] (.one (.c (.bool r))) none [] none)
def gF(n:Nat)(a:Int):Option (Bool):=
  ((fZ n a).bind fun c=>bif c then some true else(iL n a).bind fun d=>bif d then some true else(eP n a).bind fun b=>some b).bind fun f=>some f
theorem wI{n:Nat}:AD (gF n):=by
 intro j r h; unfold gF at h; refine bF Try.func298 rfl rfl<|gco 6 rfl<|oJn h [(2,12)] [] (fun a=>(.n,[(2,Bo a)],[])) (fun _ h=> ?_) (fun a h=> ?_)
 refine xMv rfl<|xC0 h (sE ·) rfl (fun c h=> ?_)
 refine xMv rfl<|oIf 5 h rfl (fun f h=> ?_) (fun f h=> ?_)
 exact geo; refine xMv rfl<|xC0 h (sF ·) rfl (fun d h=> ?_)
 refine goo 2 rfl<|oIf 9 h rfl (fun g h=> ?_) (fun g h=> ?_)
 exact geo; refine xMv rfl<|xC0 h (rG ·) rfl (fun b h=> ?_)
 exact geo; exact gec
abbrev Hh(p:(List UInt8)→Option (Bool)):Prop:= ∀ {a:List UInt8} {r:Bool},p a=some r→Big Try.prog τ An (.fn 268 [.one (.c (.str a))] [] (.one (.c (.bool r))) none [] none)
def mD(n:Nat)(b:List UInt8):(Int)→Option ((Int)⊕((Bool)⊕(Int×Bool)))
  | a=>bif decide (a<(b.length:Int))then(ixs b a).bind fun d=>(gF n d).bind fun c=>bif !c then some (.inr (.inl false))else some (.inl (IntKind.wrap .i64 (a+(1:Int))))else some (.inr (.inr (a,false)))
def nF(n:Nat)(a:List UInt8):Option (Bool):=
  (loopN (mD n a) n (0:Int)).bind fun q=>(match q with | .inl f=>some f | .inr (j,l)=>((cZ n (a.length:Int) (1:Int) (20:Int)).bind fun b=>bif b then(ixs a (0:Int)).bind fun d=>(iL n d).bind fun c=>some c else some false).bind fun g=>some g)
theorem Df{n:Nat}:Hh (nF n):=by
 intro u r h; unfold nF at h; refine bF Try.func268 rfl rfl<|gcc 9 rfl<|cLp h [(2,14)] [] (fun c=>([(3,I64 c)],[])) (fun q=>match q with | .inl a=>(.r,[(2,Bo a)],[]) | .inr (d,f)=>(.e 0,[(3,I64 d),(7,Bo f)],[])) rfl (fun c _ h=> ?_) (fun q h=> ?_)
 unfold mD at h; refine gco 5 rfl<|xLs rfl<|goc 2 rfl<|cIf h rfl (fun s h=> ?_) (fun s h=> ?_)
 refine gco 7 rfl<|LE h rfl rfl rfl rfl rfl (fun p h=> ?_)
 refine xC0 h (wI ·) rfl (fun o h=> ?_)
 refine goc 2 rfl<|cIf h rfl (fun t h=> ?_) (fun t h=> ?_)
 exact gec; exact gec; exact gec; rcases q with a | ⟨d,f⟩; exact en; refine cRs<|oJn h [(2,2),(15,22)] [] (fun b=>(.n,[(2,Bo b)],[])) (fun _ h=> ?_) (fun b h=> ?_)
 refine xMv rfl<|xLs rfl<|xC0 h (fQ ·) rfl (fun g h=> ?_)
 refine xMv rfl<|oIf 18 h rfl (fun m h=> ?_) (fun m h=> ?_)
 refine xMv rfl<|LE h rfl rfl rfl rfl rfl (fun l h=> ?_)
 refine xC0 h (sF ·) rfl (fun j h=> ?_)
 exact geo; exact geo; exact gec
abbrev JC(p:(List UInt8)→Option (Bool)):Prop:= ∀ {a:List UInt8} {r:Bool},p a=some r→Big Try.prog τ An (.fn 271 [.one (.c (.str a))] [] (.one (.c (.bool r))) none [] none)
def oS(n:Nat)(a:List UInt8):Option (Bool):=
  bif decide (a=([43]:List UInt8))then some true else bif decide (a=([45]:List UInt8))then some true else bif decide (a=([42]:List UInt8))then some true else bif decide (a=([61,61]:List UInt8))then some true else bif decide (a=([60]:List UInt8))then some true else some false
theorem Fj{n:Nat}:JC (oS n):=by
 intro g r h; unfold oS at h; refine bF Try.func271 rfl rfl<|gcc 16 rfl<|cIf h rfl (fun a h=> ?_) (fun a h=> ?_)
 exact gec; refine gcc 5 rfl<|cIf h rfl (fun b h=> ?_) (fun b h=> ?_)
 exact gec; refine gcc 5 rfl<|cIf h rfl (fun c h=> ?_) (fun c h=> ?_)
 exact gec; refine gcc 5 rfl<|cIf h rfl (fun d h=> ?_) (fun d h=> ?_)
 exact gec; refine gcc 4 rfl<|cIf h rfl (fun f h=> ?_) (fun f h=> ?_)
 exact gec; exact gec
abbrev Dr(p:Int→Int→(List UInt8)→Int→Option (Bool)):Prop:= ∀ {a b:Int} {d:List UInt8} {f:Int} {r:Bool},p a b d f=some r→Big Try.prog τ An (.fn 217 [.one (.c (.int .i64 a)), .one (.c (.int .i64 b)), .one (.c (.str d)), .one (.c (.int .i64 f))] [] (.one (.c (.bool r))) none [] none)
def kH(n:Nat)(a:Int)(b:Int)(c:List UInt8)(d:Int):Option (Bool):=
  bif decide (a=(1:Int))then((cZ n b (0:Int) (1000000000000:Int)).bind fun m=>bif m then bif decide (c=([]:List UInt8))then some (decide (d=(0:Int)))else some false else some false).bind fun z=>some z else bif decide (a=(2:Int))then(bif decide (b=(0:Int))then(iK n c).bind fun o=>bif o then some (decide (d=(0:Int)))else some false else some false).bind fun A=>some A else bif decide (a=(3:Int))then(bif decide (b=(0:Int))then(nF n c).bind fun f=>bif f then some (decide (d=(0:Int)))else some false else some false).bind fun p=>some p else bif decide (a=(4:Int))then(bif decide (b=(0:Int))then bif decide (c=([]:List UInt8))then some (decide (d≤(20:Int)))else some false else some false).bind fun s=>some s else bif decide (a=(5:Int))then(bif decide (b=(0:Int))then bif decide (c=([]:List UInt8))then some (decide (d≤(20:Int)))else some false else some false).bind fun t=>some t else bif decide (a=(6:Int))then(bif decide (b=(0:Int))then bif decide (c=([]:List UInt8))then(cZ n d (2:Int) (6:Int)).bind fun g=>some g else some false else some false).bind fun u=>some u else bif decide (a=(7:Int))then(bif decide (b=(0:Int))then(oS n c).bind fun j=>bif j then some (decide (d=(2:Int)))else some false else some false).bind fun v=>some v else bif decide (a=(8:Int))then(bif decide (b=(0:Int))then(iK n c).bind fun l=>bif l then some (decide (d≤(4:Int)))else some false else some false).bind fun w=>some w else bif decide (a=(9:Int))then(bif decide (b=(0:Int))then bif decide (c=([]:List UInt8))then some (decide (d=(1:Int)))else some false else some false).bind fun y=>some y else some false
theorem BM{n:Nat}:Dr (kH n):=by
 intro a2 a3 a4 a5 r h; unfold kH at h; refine bF Try.func217 rfl rfl<|gcc 15 rfl<|cIf h rfl (fun X h=> ?_) (fun X h=> ?_)
 refine cRs<|oJn h [(8,8),(12,21)] [] (fun l=>(.n,[(8,Bo l)],[])) (fun _ h=> ?_) (fun l h=> ?_)
 refine xMv rfl<|xC0 h (fQ ·) rfl (fun V h=> ?_)
 refine xMv rfl<|oIf 14 h rfl (fun Y h=> ?_) (fun Y h=> ?_)
 refine goo 4 rfl<|oIf 18 h rfl (fun Z h=> ?_) (fun Z h=> ?_)
 exact geo; exact geo; exact geo; exact gec; refine gcc 5 rfl<|cIf h rfl (fun q6 h=> ?_) (fun q6 h=> ?_)
 refine cRs<|oJn h [(8,8),(24,33)] [] (fun m=>(.n,[(8,Bo m)],[])) (fun _ h=> ?_) (fun m h=> ?_)
 refine goo 3 rfl<|oIf 26 h rfl (fun q8 h=> ?_) (fun q8 h=> ?_)
 refine xMv rfl<|xC0 h (sD ·) rfl (fun W h=> ?_)
 refine goo 2 rfl<|oIf 30 h rfl (fun u h=> ?_) (fun u h=> ?_)
 exact geo; exact geo; exact geo; exact gec; refine gcc 5 rfl<|cIf h rfl (fun v h=> ?_) (fun v h=> ?_)
 refine cRs<|oJn h [(8,8),(36,45)] [] (fun a=>(.n,[(8,Bo a)],[])) (fun _ h=> ?_) (fun a h=> ?_)
 refine goo 3 rfl<|oIf 38 h rfl (fun w h=> ?_) (fun w h=> ?_)
 refine xMv rfl<|xC0 h (Df ·) rfl (fun o h=> ?_)
 refine goo 2 rfl<|oIf 42 h rfl (fun y h=> ?_) (fun y h=> ?_)
 exact geo; exact geo; exact geo; exact gec; refine gcc 6 rfl<|cIf h rfl (fun z h=> ?_) (fun z h=> ?_)
 refine gco 4 rfl<|oJn h [(8,8),(49,58)] [] (fun b=>(.n,[(8,Bo b)],[])) (fun _ h=> ?_) (fun b h=> ?_)
 refine goo 3 rfl<|oIf 51 h rfl (fun A h=> ?_) (fun A h=> ?_)
 refine goo 4 rfl<|oIf 55 h rfl (fun B h=> ?_) (fun B h=> ?_)
 exact geo; exact geo; exact geo; exact gec; refine gcc 4 rfl<|cIf h rfl (fun C h=> ?_) (fun C h=> ?_)
 refine cRs<|oJn h [(8,8),(49,58)] [] (fun c=>(.n,[(8,Bo c)],[])) (fun _ h=> ?_) (fun c h=> ?_)
 refine goo 3 rfl<|oIf 51 h rfl (fun D h=> ?_) (fun D h=> ?_)
 refine goo 4 rfl<|oIf 55 h rfl (fun E h=> ?_) (fun E h=> ?_)
 exact geo; exact geo; exact geo; exact gec; refine gcc 5 rfl<|cIf h rfl (fun G h=> ?_) (fun G h=> ?_)
 refine cRs<|oJn h [(8,8),(61,70)] [] (fun d=>(.n,[(8,Bo d)],[])) (fun _ h=> ?_) (fun d h=> ?_)
 refine goo 3 rfl<|oIf 63 h rfl (fun H h=> ?_) (fun H h=> ?_)
 refine goo 4 rfl<|oIf 67 h rfl (fun I h=> ?_) (fun I h=> ?_)
 refine xMv rfl<|xC0 h (fQ ·) rfl (fun p h=> ?_)
 exact geo; exact geo; exact geo; exact gec; refine gcc 5 rfl<|cIf h rfl (fun J h=> ?_) (fun J h=> ?_)
 refine cRs<|oJn h [(8,8),(73,82)] [] (fun f=>(.n,[(8,Bo f)],[])) (fun _ h=> ?_) (fun f h=> ?_)
 refine goo 3 rfl<|oIf 75 h rfl (fun K h=> ?_) (fun K h=> ?_)
 refine xMv rfl<|xC0 h (Fj ·) rfl (fun s h=> ?_)
 refine goo 2 rfl<|oIf 79 h rfl (fun L h=> ?_) (fun L h=> ?_)
 exact geo; exact geo; exact geo; exact gec; refine gcc 5 rfl<|cIf h rfl (fun M h=> ?_) (fun M h=> ?_)
 refine cRs<|oJn h [(8,8),(85,94)] [] (fun g=>(.n,[(8,Bo g)],[])) (fun _ h=> ?_) (fun g h=> ?_)
 refine goo 3 rfl<|oIf 87 h rfl (fun N h=> ?_) (fun N h=> ?_)
 refine xMv rfl<|xC0 h (sD ·) rfl (fun t h=> ?_)
 refine goo 2 rfl<|oIf 91 h rfl (fun Q h=> ?_) (fun Q h=> ?_)
 exact geo; exact geo; exact geo; exact gec; refine gcc 5 rfl<|cIf h rfl (fun R h=> ?_) (fun R h=> ?_)
 refine cRs<|oJn h [(8,8),(97,106)] [] (fun j=>(.n,[(8,Bo j)],[])) (fun _ h=> ?_) (fun j h=> ?_)
 refine goo 3 rfl<|oIf 99 h rfl (fun T h=> ?_) (fun T h=> ?_)
 refine goo 4 rfl<|oIf 103 h rfl (fun U h=> ?_) (fun U h=> ?_)
 exact geo; exact geo; exact geo; exact gec; exact gec
abbrev dX:Type:=Int→Int→(List UInt8)→(List aA)→(List aC)→Int→Int→(List (List UInt8))→Option (Bool×Int×(List (List UInt8)))
abbrev kU(p:dX):Prop:= ∀ {d f:Int} {g:List UInt8} {j:List aA} {l:List aC} {m a:Int} {b:List (List UInt8)} {r:Bool×Int×(List (List UInt8))},p d f g j l m a b=some r→Big Try.prog τ An (.fn 178 [.one (.ptr 1000000 0), .one (.ag [.int .i64 d, .int .i64 f, .str g, .sl (j.map aF), .sl (l.map aE)]), .one (.c (.int .i64 m))] [[.int .i64 a, .sl (b.map eF)]] (.one (.c (.bool r.1))) none [[.int .i64 r.2.1, .sl (r.2.2.map eF)]] none)
def eZ(n:Nat)(f:dX)(l:Int)(j:List aA):(Int×Int×(List (List UInt8)))→Option ((Int×Int×(List (List UInt8)))⊕((Bool×Int×(List (List UInt8)))⊕(Int×Bool×Int×(List (List UInt8)))))
  | (g,c,d)=>bif decide (g<(j.length:Int))then(ix j g).bind fun b=>(f b.f0 b.f1 b.f2 b.f3 b.f4 (IntKind.wrap .i64 (l+(1:Int))) c d).bind fun a=>bif !a.1 then some (.inr (.inl (false,a.2.1,a.2.2)))else some (.inl ((IntKind.wrap .i64 (g+(1:Int))),a.2.1,a.2.2))else some (.inr (.inr (g,false,c,d)))
def cB(n:Nat)(f:dX)(l:Int)(j:List aA):(Int×Int×(List (List UInt8)))→Option ((Int×Int×(List (List UInt8)))⊕((Bool×Int×(List (List UInt8)))⊕(Int×Bool×Int×(List (List UInt8)))))
  | (g,c,d)=>bif decide (g<(j.length:Int))then(ix j g).bind fun b=>(f b.f0 b.f1 b.f2 b.f3 b.f4 (IntKind.wrap .i64 (l+(1:Int))) c d).bind fun a=>bif !a.1 then some (.inr (.inl (false,a.2.1,a.2.2)))else some (.inl ((IntKind.wrap .i64 (g+(1:Int))),a.2.1,a.2.2))else some (.inr (.inr (g,false,c,d)))
def iA(n:Nat)(a:dX)(t:Int)(E:Int)(s:List UInt8)(u:List aA)(G:List aC)(v:Int)(b:Int)(c:List (List UInt8)):Option (Bool×Int×(List (List UInt8))):=
  (bif decide ((10:Int)<v)then some true else bif decide ((300:Int)<(IntKind.wrap .i64 (b+(1:Int))))then some true else bif decide ((6:Int)<t)then some true else bif decide ((0:Int)<(G.length:Int))then some true else(kH n t E s (u.length:Int)).bind fun z=>some (!z)).bind fun A=>bif A then some (false,(IntKind.wrap .i64 (b+(1:Int))),c)else(bif decide (t=(3:Int))then some (!decide (s=([95]:List UInt8)))else some false).bind fun B=>bif B then(dI n c s).bind fun w=>bif w then some (false,(IntKind.wrap .i64 (b+(1:Int))),c)else(fE 16 c ([s]:List (List UInt8))).bind fun y=>(loopN (eZ n a v u) n ((0:Int),(IntKind.wrap .i64 (b+(1:Int))),y)).bind fun q=>(match q with | .inl (C,d,f)=>some (C,d,f) | .inr (H,J,g,j)=>some (true,g,j))else(loopN (cB n a v u) n ((0:Int),(IntKind.wrap .i64 (b+(1:Int))),c)).bind fun q=>(match q with | .inl (D,l,m)=>some (D,l,m) | .inr (I,K,o,p)=>some (true,o,p))
theorem wC{n:Nat}{b:dX}(a:kU b):kU (iA n b):=by
 intro a8 a9 I b0 b1 b2 a0 a1 r h; unfold iA at h; refine bF Try.func178 rfl rfl<|gco 19 rfl<|oJn h [(16,48)] [] (fun D=>(.n,[(48,Bo D)],[])) (fun _ h=> ?_) (fun D h=> ?_)
 refine goo 3 rfl<|oIf 18 h rfl (fun q2 h=> ?_) (fun q2 h=> ?_)
 exact geo; refine goo 7 rfl<|oIf 25 h rfl (fun q3 h=> ?_) (fun q3 h=> ?_)
 exact geo; refine goo 5 rfl<|oIf 30 h rfl (fun q4 h=> ?_) (fun q4 h=> ?_)
 exact geo; refine goo 2 rfl<|xLn rfl<|goo 3 rfl<|oIf 36 h rfl (fun q5 h=> ?_) (fun q5 h=> ?_)
 exact geo; refine goo 8 rfl<|xLn rfl<|xC0 h (BM ·) rfl (fun Z h=> ?_)
 exact geo; refine cIf h rfl (fun q7 h=> ?_) (fun q7 h=> ?_)
 exact gec; refine gco 4 rfl<|oJn h [(49,56)] [] (fun E=>(.n,[(56,Bo E)],[])) (fun _ h=> ?_) (fun E h=> ?_)
 refine goo 4 rfl<|oIf 52 h rfl (fun q9 h=> ?_) (fun q9 h=> ?_)
 exact geo; exact geo; refine cIf h rfl (fun R h=> ?_) (fun R h=> ?_)
 refine gco 9 rfl<|xC0 h (rM ·) rfl (fun J h=> ?_)
 refine oNl<|cIf h rfl (fun T h=> ?_) (fun T h=> ?_)
 exact gec; refine gco 9 rfl<|cS (L:=([I]:List (List UInt8))) (f:=eF) rfl rfl rfl rfl rfl rfl rfl<|wAp (f:=eF) h rfl rfl rfl rfl rfl rfl rfl rfl rfl (fun _=>rfl) rfl (fun Y h=> ?_)
 refine goo 9 rfl<|xLn rfl<|goc 2 rfl<|cLp h [(6,6),(8,8),(78,88)] [(8,8),(1000000,1000000)] (fun(w,c,d)=>([(78,I64 w)],[(1000000,[.int .i64 c, .sl (d.map eF)])])) (fun q=>match q with | .inl (G,g,j)=>(.r,[(6,Bo G)],[(1000000,[.int .i64 g, .sl (j.map eF)])]) | .inr (y,B,l,m)=>(.e 0,[(78,I64 y),(79,Bo B)],[(1000000,[.int .i64 l, .sl (m.map eF)])])) rfl (fun st _ h=> ?_) (fun q h=> ?_)
 obtain⟨w,c,d⟩:=st; unfold eZ at h; refine gcc 5 rfl<|cIf h rfl (fun U h=> ?_) (fun U h=> ?_)
 refine gco 5 rfl<|xIx h aO rfl (fun N h=> ?_)
 refine xLd rfl<|xAz [.int .i64 0, .int .i64 0, .str [], .sl ([].map aF), .sl ([].map aE)] rfl<|goo 8 rfl<|xC1 h (a ·) rfl (fun K h=> ?_)
 refine goc 2 rfl<|cIf h rfl (fun V h=> ?_) (fun V h=> ?_)
 exact gec; exact gec; exact gec; rcases q with⟨G,g,j⟩ | ⟨y,B,l,m⟩; exact en; exact gec; refine gco 6 rfl<|xLn rfl<|goc 2 rfl<|cLp h [(6,6),(8,8),(78,88)] [(8,8),(1000000,1000000)] (fun(z,o,p)=>([(78,I64 z)],[(1000000,[.int .i64 o, .sl (p.map eF)])])) (fun q=>match q with | .inl (H,s,t)=>(.r,[(6,Bo H)],[(1000000,[.int .i64 s, .sl (t.map eF)])]) | .inr (A,C,u,v)=>(.e 0,[(78,I64 A),(79,Bo C)],[(1000000,[.int .i64 u, .sl (v.map eF)])])) rfl (fun st _ h=> ?_) (fun q h=> ?_)
 obtain⟨z,o,p⟩:=st; unfold cB at h; refine gcc 5 rfl<|cIf h rfl (fun W h=> ?_) (fun W h=> ?_)
 refine gco 5 rfl<|xIx h aO rfl (fun Q h=> ?_)
 refine xLd rfl<|xAz [.int .i64 0, .int .i64 0, .str [], .sl ([].map aF), .sl ([].map aE)] rfl<|goo 8 rfl<|xC1 h (a ·) rfl (fun M h=> ?_)
 refine goc 2 rfl<|cIf h rfl (fun X h=> ?_) (fun X h=> ?_)
 exact gec; exact gec; exact gec; rcases q with⟨H,s,t⟩ | ⟨A,C,u,v⟩; exact en; exact gec
def rY:Nat→(dX)
  | 0=>(fun _ _ _ _ _ _ _ _=>none)
  | n+1=>iA n (rY n)
def bT(n:Nat):dX:=rY n
theorem wG(n:Nat):kU (bT n):=by
  induction n with
  | zero=>exact(fun h=>nomatch h)
  | succ n ih=>exact wC (n:=n) ih
theorem yT{n:Nat}:kU (bT n):=(wG n)
theorem uD(n:Nat):bT (n+1)=iA n (bT n):=rfl
abbrev Hi(p:Int→Int→(List UInt8)→(List aA)→(List aC)→Option (Bool)):Prop:= ∀ {a b:Int} {d:List UInt8} {f:List aA} {g:List aC} {r:Bool},p a b d f g=some r→Big Try.prog τ An (.fn 80 [.one (.ag [.int .i64 a, .int .i64 b, .str d, .sl (f.map aF), .sl (g.map aE)])] [] (.one (.c (.bool r))) none [] none)
def iU(n:Nat)(b:Int)(c:Int)(d:List UInt8)(f:List aA)(g:List aC):Option (Bool):=
  (bT n b c d f g (1:Int) (0:Int) ([]:List (List UInt8))).bind fun a=>some a.1
theorem vL{n:Nat}:Hi (iU n):=by
 intro b c d f g r h; unfold iU at h; refine bF Try.func80 rfl rfl<|gco 7 rfl<|xAz [.int .i64 0, .sl ([].map eF)] rfl<|goo 4 rfl<|xC1 h (yT ·) rfl (fun a h=> ?_)
 exact geo
abbrev dY:Type:=(List aB)→Option ((List aB))
abbrev iI(p:dY):Prop:= ∀ {a:List aB} {r:(List aB)},p a=some r→Big Try.prog τ An (.fn 190 [.one (.c (.sl (a.map aD)))] [] (.one (.c (.sl (r.map aD)))) none [] none)
abbrev dO:Type:=Int→Int→(List UInt8)→(List aB)→Option (Int×Int×(List UInt8)×(List aB))
abbrev jG(p:dO):Prop:= ∀ {a b:Int} {c:List UInt8} {d:List aB} {r:Int×Int×(List UInt8)×(List aB)},p a b c d=some r→Big Try.prog τ An (.fn 98 [.one (.ag [.int .i64 a, .int .i64 b, .str c, .sl (d.map aD)])] [] (.one (.ag [.int .i64 r.1, .int .i64 r.2.1, .str r.2.2.1, .sl (r.2.2.2.map aD)])) none [] none)
def fA(n:Nat)(a:dO)(f:List aB):((List aB)×Int)→Option (((List aB)×Int)⊕(((List aB)×Int×Bool)))
  | (g,d)=>bif decide (d<(f.length:Int))then(ix f d).bind fun c=>(a c.f0 c.f1 c.f2 c.f3).bind fun b=>(fE 56 g ([aB.mk b.1 b.2.1 b.2.2.1 b.2.2.2]:List aB)).bind fun j=>some (.inl (j,(IntKind.wrap .i64 (d+(1:Int)))))else some (.inr (g,d,false))
def iB(n:Nat)(a:dO)(b:dY)(c:List aB):Option ((List aB)):=
  (loopN (fA n a c) n (([]:List aB),(0:Int))).bind fun(d,f,g)=>some d
theorem wE{n:Nat}{c:dO}(d:jG c){b:dY}(j:iI b):iI (iB n c b):=by
 intro w r h; unfold iB at h; refine bF Try.func190 rfl rfl<|cRs<|wAe (Li aD []) rfl rfl rfl rfl<|oRs<|wAe (Li aD []) rfl rfl rfl rfl<|goo 5 rfl<|xLn rfl<|goc 2 rfl<|cLp h [(3,3),(5,5),(8,17)] [(5,5)] (fun(l,o)=>([(3,Li aD l),(8,I64 o)],[])) (fun(m,p,s)=>(.e 0,[(3,Li aD m),(8,I64 p),(9,Bo s)],[])) rfl (fun st _ h=> ?_) (fun q h=> ?_)
 obtain⟨l,o⟩:=st; unfold fA at h; refine gcc 5 rfl<|cIf h rfl (fun v h=> ?_) (fun v h=> ?_)
 refine gco 5 rfl<|xIx h aN rfl (fun t h=> ?_)
 refine xLd rfl<|xAz [.int .i64 0, .int .i64 0, .str [], .sl ([].map aD)] rfl<|goo 5 rfl<|xC0 h (d ·) rfl (fun g h=> ?_)
 refine cS (L:=([aB.mk g.1 g.2.1 g.2.2.1 g.2.2.2]:List aB)) (f:=aD) rfl rfl rfl rfl (by simp only[List.map,bY]<;>rfl) rfl rfl<|wAp (f:=aD) h rfl rfl rfl rfl rfl rfl rfl rfl rfl (fun a=>by rw[aN]; rfl) rfl (fun u h=> ?_)
 exact geo; exact gec; obtain⟨m,p,s⟩:=q; exact gec
def iY(n:Nat)(b:dO)(a:dY)(d:Int)(f:Int)(g:List UInt8)(j:List aB):Option (Int×Int×(List UInt8)×(List aB)):=
  (a j).bind fun c=>some (d,f,g,c)
theorem yH{n:Nat}{b:dO}(d:jG b){a:dY}(c:iI a):jG (iY n b a):=by
 intro g j l m r h; unfold iY at h; refine bF Try.func98 rfl rfl<|gco 3 rfl<|xAz [.int .i64 0, .int .i64 0, .str [], .sl ([].map aD)] rfl<|goo 5 rfl<|xC0 h (c ·) rfl (fun f h=> ?_)
 exact geo
def gD:Nat→(dO)×(dY)
  | 0=>((fun _ _ _ _=>none),(fun _=>none))
  | n+1=>(iY n ((gD n).1) ((gD n).2),iB n ((gD n).1) ((gD n).2))
def bZ(n:Nat):dO:=(gD n).1
def fO(n:Nat):dY:=(gD n).2
theorem qE(n:Nat):jG (bZ n)∧iI (fO n):=by
  induction n with
  | zero=>exact⟨(fun h=>nomatch h),(fun h=>nomatch h)⟩
  | succ n ih=>exact⟨yH (n:=n) (ih.1) (ih.2),wE (n:=n) (ih.1) (ih.2)⟩
theorem rH{n:Nat}:jG (bZ n):=(qE n).1
theorem Jz{n:Nat}:iI (fO n):=(qE n).2
theorem uW(n:Nat):bZ (n+1)=iY n (bZ n) (fO n):=rfl
theorem uE(n:Nat):fO (n+1)=iB n (bZ n) (fO n):=rfl
abbrev GA(p:(List aG)→(List UInt8)→Option (Int×Int×(List UInt8)×(List aB)×Bool)):Prop:= ∀ {a:List aG} {b:List UInt8} {r:Int×Int×(List UInt8)×(List aB)×Bool},p a b=some r→Big Try.prog τ An (.fn 29 [.one (.c (.sl (a.map aL))), .one (.c (.str b))] [] (.tup [.ag [.int .i64 r.1, .int .i64 r.2.1, .str r.2.2.1, .sl (r.2.2.2.1.map aD)], .c (.bool r.2.2.2.2)]) none [] none)
def fP(n:Nat)(d:List aG)(m:List UInt8):(Int×Int×Int×(List UInt8)×(List aB))→Option ((Int×Int×Int×(List UInt8)×(List aB))⊕((Bool×Int×Int×(List UInt8)×(List aB))⊕(Int×Bool×Int×Int×(List UInt8)×(List aB))))
  | (c,f,g,j,l)=>bif decide (c<(d.length:Int))then(ix d c).bind fun a=>bif decide (a.f0=m)then(bZ n a.f1 a.f2 a.f3 a.f4).bind fun b=>some (.inr (.inl (true,b.1,b.2.1,b.2.2.1,b.2.2.2)))else some (.inl ((IntKind.wrap .i64 (c+(1:Int))),f,g,j,l))else some (.inr (.inr (c,false,f,g,j,l)))
def gQ(n:Nat)(b:List aG)(c:List UInt8):Option (Int×Int×(List UInt8)×(List aB)×Bool):=
  (loopN (fP n b c) n ((0:Int),(0:Int),(0:Int),([]:List UInt8),([]:List aB))).bind fun q=>(match q with | .inl (d,f,g,j,a)=>some (f,g,j,a,d) | .inr (l,m,o,p,s,t)=>some ((0:Int),(0:Int),([]:List UInt8),([]:List aB),false))
theorem tS{n:Nat}:GA (gQ n):=by
 intro C D r h; unfold gQ at h; refine bF Try.func29 rfl rfl<|cRs<|xAz [.int .i64 0, .int .i64 0, .str [], .sl ([].map aD)] rfl<|goo 6 rfl<|xLn rfl<|goc 2 rfl<|cLp h [(4,5),(7,7),(10,21)] [(4,4),(7,7)] (fun(c,o,p,s,t)=>([(4,Pt 4),(10,I64 c)],[(4,[.int .i64 o, .int .i64 p, .str s, .sl (t.map aD)])])) (fun q=>match q with | .inl (m,u,v,w,d)=>(.r,[(4,Pt 4),(5,Bo m)],[(4,[.int .i64 u, .int .i64 v, .str w, .sl (d.map aD)])]) | .inr (a,b,f,g,j,l)=>(.e 0,[(4,Pt 4),(10,I64 a),(11,Bo b)],[(4,[.int .i64 f, .int .i64 g, .str j, .sl (l.map aD)])])) rfl (fun st _ h=> ?_) (fun q h=> ?_)
 obtain⟨c,o,p,s,t⟩:=st; unfold fP at h; refine gcc 5 rfl<|cIf h rfl (fun A h=> ?_) (fun A h=> ?_)
 refine gco 5 rfl<|xIx h jB rfl (fun z h=> ?_)
 refine xLd rfl<|xAz [.str [], .int .i64 0, .int .i64 0, .str [], .sl ([].map aD)] rfl<|goc 9 rfl<|cIf h rfl (fun B h=> ?_) (fun B h=> ?_)
 refine gco 4 rfl<|xC0 h (rH ·) rfl (fun y h=> ?_)
 exact geo; exact gec; exact gec; rcases q with⟨m,u,v,w,d⟩ | ⟨a,b,f,g,j,l⟩; exact en; exact cRs<|wBd [.int .i64 0, .int .i64 0, .str [], .sl ([].map aD)] rfl rfl rfl rfl rfl rfl<|geo
abbrev yU(p:(List aB)→Int→Option ((List aB))):Prop:= ∀ {a:List aB} {b:Int} {r:(List aB)},p a b=some r→Big Try.prog τ An (.fn 287 [.one (.c (.sl (a.map aD))), .one (.c (.int .i64 b))] [] (.one (.c (.sl (r.map aD)))) none [] none)
def fU(n:Nat)(b:List aB)(a:Int):Option (List aB):=bif b.isEmpty&&(decide (0≤a)&&decide (a*56≤140737488355328))then some []else none
set_option maxRecDepth 100000 in
theorem uY{n:Nat}:yU (fU n):=by
 intro b a r h; unfold fU at h; cases hc:(b.isEmpty&&(decide (0≤a)&&decide (a*56≤140737488355328)))with
 | false=>rw[hc]at h; cases h
 | true=>
  rw[hc]at h; cases h; simp only[z7,List.isEmpty_iff,z28]at hc; obtain⟨rfl,h1,h2⟩:=hc; exact Big.lib Try.func287 rfl rfl (Qv PK rfl rfl rfl rfl rfl rfl h1 h2 (by omega))

abbrev uZ(p:(List (List aB))→Option ((List aB))):Prop:= ∀ {a:List (List aB)} {r:(List aB)},p a=some r→Big Try.prog τ An (.fn 249 [.one (.c (.sl (a.map qK)))] [] (.one (.c (.sl (r.map aD)))) none [] none)
def bL(n:Nat)(d:List (List aB)):(Int×Int)→Option ((Int×Int)⊕((Int×Int×Bool)))
  | (b,a)=>bif decide (a<(d.length:Int))then(ix d a).bind fun c=>bif decide ((IntKind.wrap .i64 (b+(c.length:Int)))<(0:Int))then none else some (.inl ((IntKind.wrap .i64 (b+(c.length:Int))),(IntKind.wrap .i64 (a+(1:Int)))))else some (.inr (b,a,false))
def bK(n:Nat)(d:List (List aB)):((List aB)×Int)→Option (((List aB)×Int)⊕(((List aB)×Int×Bool)))
  | (b,a)=>bif decide (a<(d.length:Int))then(ix d a).bind fun c=>(fE 56 b c).bind fun f=>some (.inl (f,(IntKind.wrap .i64 (a+(1:Int)))))else some (.inr (b,a,false))
def eA(n:Nat)(a:List (List aB)):Option ((List aB)):=
  (loopN (bL n a) n ((0:Int),(0:Int))).bind fun(d,j,l)=>(fU n ([]:List aB) d).bind fun b=>(loopN (bK n a) n (b,(0:Int))).bind fun(c,f,g)=>some c
theorem sL{n:Nat}:uZ (eA n):=by
 intro B r h; unfold eA at h; refine bF Try.func249 rfl rfl<|cRs<|wAe (Li aD []) rfl rfl rfl rfl<|goo 9 rfl<|xLn rfl<|goc 2 rfl<|cLp h [(3,3),(5,5),(11,22)] [] (fun(p,g)=>([(3,I64 p),(11,I64 g)],[])) (fun(s,j,l)=>(.e 0,[(3,I64 s),(11,I64 j),(12,Bo l)],[])) rfl (fun st _ h=> ?_) (fun q h=> ?_)
 obtain⟨p,g⟩:=st; unfold bL at h; refine gcc 5 rfl<|cIf h rfl (fun z h=> ?_) (fun z h=> ?_)
 refine gco 5 rfl<|xIx h rC rfl (fun y h=> ?_)
 refine goo 7 rfl<|xLn rfl<|goc 8 rfl<|cIf h rfl (fun A h=> ?_) (fun A h=> ?_)
 cases h; exact gec; exact gec; obtain⟨s,j,l⟩:=q; refine gco 3 rfl<|xC0 h (uY ·) rfl (fun w h=> ?_)
 refine goo 6 rfl<|xLn rfl<|goc 2 rfl<|cLp h [(6,6),(8,8),(27,34)] [] (fun(m,b)=>([(6,Li aD m),(27,I64 b)],[])) (fun(o,c,d)=>(.e 2,[(6,Li aD o),(27,I64 c),(28,Bo d)],[])) rfl (fun st _ h=> ?_) (fun q h=> ?_)
 obtain⟨m,b⟩:=st; unfold bK at h; refine gcc 5 rfl<|cIf h rfl (fun u h=> ?_) (fun u h=> ?_)
 refine gco 5 rfl<|xIx h rC rfl (fun t h=> ?_)
 refine goo 6 rfl<|wAp (f:=aD) h rfl rfl rfl rfl rfl rfl rfl rfl rfl (fun a=>by rw[aN]; rfl) rfl (fun v h=> ?_)
 exact geo; exact gec; obtain⟨o,c,d⟩:=q; exact gec
abbrev Fy(p:(List aB)→Option (Int×Int×(List UInt8)×(List aB)×Bool)):Prop:= ∀ {a:List aB} {r:Int×Int×(List UInt8)×(List aB)×Bool},p a=some r→Big Try.prog τ An (.fn 179 [.one (.c (.sl (a.map aD)))] [] (.tup [.ag [.int .i64 r.1, .int .i64 r.2.1, .str r.2.2.1, .sl (r.2.2.2.1.map aD)], .c (.bool r.2.2.2.2)]) none [] none)
def lU(n:Nat)(a:List aB):Option (Int×Int×(List UInt8)×(List aB)×Bool):=
  (ix a (IntKind.wrap .i64 ((a.length:Int) - (1:Int)))).bind fun b=>bif !decide (b.f0=(5:Int))then some ((0:Int),(0:Int),([]:List UInt8),([]:List aB),false)else(sub a none (some (IntKind.wrap .i64 ((a.length:Int) - (1:Int))))).bind fun d=>(eA n ([d,b.f3]:List (List aB))).bind fun c=>some ((5:Int),(0:Int),([]:List UInt8),c,true)
theorem Cn{n:Nat}:Fy (lU n):=by
 intro j r h; unfold lU at h; refine bF Try.func179 rfl rfl<|cRs<|xAz [.int .i64 0, .int .i64 0, .str [], .sl ([].map aD)] rfl<|goo 6 rfl<|xLn rfl<|xSub rfl<|xIx h aN rfl (fun d h=> ?_)
 refine xLd rfl<|xAz [.int .i64 0, .int .i64 0, .str [], .sl ([].map aD)] rfl<|goc 9 rfl<|cIf h rfl (fun g h=> ?_) (fun g h=> ?_)
 exact cRs<|wBd [.int .i64 0, .int .i64 0, .str [], .sl ([].map aD)] rfl rfl rfl rfl rfl rfl<|geo
 refine gco 5 rfl<|xLn rfl<|xSub rfl<|wSl (rf:=aD) h rfl rfl rfl rfl .no (.so rfl) (fun a=>by rw[aN]; rfl) rfl (fun c h=> ?_)
 refine goo 2 rfl<|cS (L:=([c,d.f3]:List (List aB))) (f:=qK) rfl rfl rfl rfl rfl rfl rfl<|xC0 h (sL ·) rfl (fun b h=> ?_)
 exact wBd [.int .i64 5, .int .i64 0, .str [], .sl (b.map aD)] rfl rfl rfl rfl rfl rfl<|geo
abbrev mQ:Type:=Int→Int→(List UInt8)→(List aA)→(List aC)→(List aG)→Option (Int×Int×(List UInt8)×(List aB)×Bool)
abbrev rT(p:mQ):Prop:= ∀ {a b:Int} {d:List UInt8} {f:List aA} {g:List aC} {j:List aG} {r:Int×Int×(List UInt8)×(List aB)×Bool},p a b d f g j=some r→Big Try.prog τ An (.fn 81 [.one (.ag [.int .i64 a, .int .i64 b, .str d, .sl (f.map aF), .sl (g.map aE)]), .one (.c (.sl (j.map aL)))] [] (.tup [.ag [.int .i64 r.1, .int .i64 r.2.1, .str r.2.2.1, .sl (r.2.2.2.1.map aD)], .c (.bool r.2.2.2.2)]) none [] none)
def gA(n:Nat)(d:mQ)(s:List aG)(g:List aA):((List aB)×Int×Int×Int×(List UInt8)×(List aB))→Option (((List aB)×Int×Int×Int×(List UInt8)×(List aB))⊕((Bool×Int×Int×(List UInt8)×(List aB))⊕((List aB)×Int×Bool×Int×Int×(List UInt8)×(List aB))))
  | (l,c,m,o,p,f)=>bif decide (c<(g.length:Int))then(ix g c).bind fun b=>(d b.f0 b.f1 b.f2 b.f3 b.f4 s).bind fun a=>bif !a.2.2.2.2 then some (.inr (.inl (false,(0:Int),(0:Int),([]:List UInt8),([]:List aB))))else(fE 56 l ([aB.mk a.1 a.2.1 a.2.2.1 a.2.2.2.1]:List aB)).bind fun j=>some (.inl (j,(IntKind.wrap .i64 (c+(1:Int))),m,o,p,f))else some (.inr (.inr (l,c,false,m,o,p,f)))
def oQ(n:Nat)(d:mQ)(c:Int)(t:Int)(g:List UInt8)(u:List aA)(C:List aC)(j:List aG):Option (Int×Int×(List UInt8)×(List aB)×Bool):=
  bif decide (c=(1:Int))then some ((1:Int),t,([]:List UInt8),([]:List aB),true)else bif decide (c=(2:Int))then some ((2:Int),(0:Int),g,([]:List aB),true)else bif decide (c=(3:Int))then(gQ n j g).bind fun b=>some (b.1,b.2.1,b.2.2.1,b.2.2.2.1,b.2.2.2.2)else(loopN (gA n d j u) n (([]:List aB),(0:Int),(0:Int),(0:Int),([]:List UInt8),([]:List aB))).bind fun q=>(match q with | .inl (l,m,o,p,s)=>some (m,o,p,s,l) | .inr (f,v,w,y,z,A,B)=>bif decide (c=(4:Int))then some ((4:Int),(0:Int),([]:List UInt8),f,true)else bif decide (c=(5:Int))then some ((5:Int),(0:Int),([]:List UInt8),f,true)else(lU n f).bind fun a=>some (a.1,a.2.1,a.2.2.1,a.2.2.2.1,a.2.2.2.2))
theorem DW{n:Nat}{b:mQ}(g:rT b):rT (oQ n b):=by
 intro X G H Y Z a0 r h; unfold oQ at h; refine bF Try.func81 rfl rfl<|gco 3 rfl<|xAz [.int .i64 0, .int .i64 0, .str [], .sl ([].map aD)] rfl<|goc 14 rfl<|cIf h rfl (fun U h=> ?_) (fun U h=> ?_)
 exact gco 4 rfl<|wBd [.int .i64 1, .int .i64 G, .str [], .sl ([].map aD)] rfl rfl rfl rfl rfl rfl<|geo
 refine gcc 5 rfl<|cIf h rfl (fun V h=> ?_) (fun V h=> ?_)
 exact gco 4 rfl<|wBd [.int .i64 2, .int .i64 0, .str H, .sl ([].map aD)] rfl rfl rfl rfl rfl rfl<|geo
 refine gcc 5 rfl<|cIf h rfl (fun W h=> ?_) (fun W h=> ?_)
 refine gco 5 rfl<|xC0 h (tS ·) rfl (fun T h=> ?_)
 exact geo; refine gco 3 rfl<|wAe (Li aD []) rfl rfl rfl rfl<|goo 6 rfl<|xLn rfl<|goc 2 rfl<|cLp h [(4,6),(8,10),(34,51)] [(4,4),(8,9)] (fun(B,m,C,D,E,p)=>([(4,Pt 4),(6,Li aD B),(34,I64 m)],[(4,[.int .i64 C, .int .i64 D, .str E, .sl (p.map aD)])])) (fun q=>match q with | .inl (o,s,t,u,v)=>(.r,[(4,Pt 4),(5,Bo o)],[(4,[.int .i64 s, .int .i64 t, .str u, .sl (v.map aD)])]) | .inr (d,j,l,w,y,z,A)=>(.e 1,[(4,Pt 4),(6,Li aD d),(34,I64 j),(35,Bo l)],[(4,[.int .i64 w, .int .i64 y, .str z, .sl (A.map aD)])])) rfl (fun st _ h=> ?_) (fun q h=> ?_)
 obtain⟨B,m,C,D,E,p⟩:=st; unfold gA at h; refine gcc 5 rfl<|cIf h rfl (fun K h=> ?_) (fun K h=> ?_)
 refine gco 5 rfl<|xIx h aO rfl (fun J h=> ?_)
 refine xLd rfl<|xAz [.int .i64 0, .int .i64 0, .str [], .sl ([].map aF), .sl ([].map aE)] rfl<|goo 6 rfl<|xC0 h (g ·) rfl (fun c h=> ?_)
 refine goo 3 rfl<|xAz [.int .i64 0, .int .i64 0, .str [], .sl ([].map aD)] rfl<|goc 9 rfl<|cIf h rfl (fun M h=> ?_) (fun M h=> ?_)
 exact cRs<|wBd [.int .i64 0, .int .i64 0, .str [], .sl ([].map aD)] rfl rfl rfl rfl rfl rfl<|geo
 refine gco 4 rfl<|cS (L:=([aB.mk c.1 c.2.1 c.2.2.1 c.2.2.2.1]:List aB)) (f:=aD) rfl rfl rfl rfl (by simp only[List.map,bY]<;>rfl) rfl rfl<|wAp (f:=aD) h rfl rfl rfl rfl rfl rfl rfl rfl rfl (fun a=>by rw[aN]; rfl) rfl (fun R h=> ?_)
 exact geo; exact gec; rcases q with⟨o,s,t,u,v⟩ | ⟨d,j,l,w,y,z,A⟩; exact en; refine gcc 12 rfl<|cIf h rfl (fun N h=> ?_) (fun N h=> ?_)
 exact gco 3 rfl<|wBd [.int .i64 4, .int .i64 0, .str [], .sl (d.map aD)] rfl rfl rfl rfl rfl rfl<|geo
 refine gcc 5 rfl<|cIf h rfl (fun Q h=> ?_) (fun Q h=> ?_)
 exact gco 3 rfl<|wBd [.int .i64 5, .int .i64 0, .str [], .sl (d.map aD)] rfl rfl rfl rfl rfl rfl<|geo
 refine gco 4 rfl<|xC0 h (Cn ·) rfl (fun I h=> ?_)
 exact geo
def CG:Nat→(mQ)
  | 0=>(fun _ _ _ _ _ _=>none)
  | n+1=>oQ n (CG n)
def fV(n:Nat):mQ:=CG n
theorem Db(n:Nat):rT (fV n):=by
  induction n with
  | zero=>exact(fun h=>nomatch h)
  | succ n ih=>exact DW (n:=n) ih
theorem Fk{n:Nat}:rT (fV n):=(Db n)
theorem Av(n:Nat):fV (n+1)=oQ n (fV n):=rfl
abbrev JD(p:Int→Int→(List UInt8)→(List aA)→(List aC)→(List aG)→Option (Int×Int×(List UInt8)×(List aB)×Bool)):Prop:= ∀ {a b:Int} {d:List UInt8} {f:List aA} {g:List aC} {j:List aG} {r:Int×Int×(List UInt8)×(List aB)×Bool},p a b d f g j=some r→Big Try.prog τ An (.fn 16 [.one (.ag [.int .i64 a, .int .i64 b, .str d, .sl (f.map aF), .sl (g.map aE)]), .one (.c (.sl (j.map aL)))] [] (.tup [.ag [.int .i64 r.1, .int .i64 r.2.1, .str r.2.2.1, .sl (r.2.2.2.1.map aD)], .c (.bool r.2.2.2.2)]) none [] none)
def rQ(n:Nat)(b:Int)(c:Int)(d:List UInt8)(f:List aA)(g:List aC)(o:List aG):Option (Int×Int×(List UInt8)×(List aB)×Bool):=
  (iU n b c d f g).bind fun m=>bif !m then some ((0:Int),(0:Int),([]:List UInt8),([]:List aB),false)else(fV n b c d f g o).bind fun a=>(bif !a.2.2.2.2 then some true else(fT n a.1 a.2.1 a.2.2.1 a.2.2.2.1).bind fun j=>some (!j)).bind fun l=>bif l then some ((0:Int),(0:Int),([]:List UInt8),([]:List aB),false)else some (a.1,a.2.1,a.2.2.1,a.2.2.2.1,true)
theorem Fl{n:Nat}:JD (rQ n):=by
 intro l m o p s t r h; unfold rQ at h; refine bF Try.func16 rfl rfl<|gco 3 rfl<|xAz [.int .i64 0, .int .i64 0, .str [], .sl ([].map aD)] rfl<|goo 6 rfl<|xC0 h (vL ·) rfl (fun d h=> ?_)
 refine goc 2 rfl<|cIf h rfl (fun f h=> ?_) (fun f h=> ?_)
 exact cRs<|wBd [.int .i64 0, .int .i64 0, .str [], .sl ([].map aD)] rfl rfl rfl rfl rfl rfl<|geo
 refine gco 5 rfl<|xC0 h (Fk ·) rfl (fun b h=> ?_)
 refine goo 3 rfl<|xAz [.int .i64 0, .int .i64 0, .str [], .sl ([].map aD)] rfl<|goo 6 rfl<|oJn h [(18,24)] [] (fun a=>(.n,[(24,Bo a)],[])) (fun _ h=> ?_) (fun a h=> ?_)
 refine goo 3 rfl<|oIf 20 h rfl (fun g h=> ?_) (fun g h=> ?_)
 exact geo; refine xLd rfl<|xC0 h (pA ·) rfl (fun c h=> ?_)
 exact geo; refine cIf h rfl (fun j h=> ?_) (fun j h=> ?_)
 exact cRs<|wBd [.int .i64 0, .int .i64 0, .str [], .sl ([].map aD)] rfl rfl rfl rfl rfl rfl<|geo
 exact gec
abbrev Kj(p:(List Int)→Option (Bool)):Prop:= ∀ {a:List Int} {r:Bool},p a=some r→Big Try.prog τ An (.fn 24 [.one (.c (.sl (a.map rI_u8)))] [] (.one (.c (.bool r))) none [] none)
def tW(n:Nat)(a:List Int):Option (Bool):=
  some (decide ((1048576:Int)<(a.length:Int)))
theorem HW{n:Nat}:Kj (tW n):=by
 intro a r h; unfold tW at h; exact bF Try.func24 rfl rfl<|gco 7 rfl<|xLn rfl<|geo
abbrev Hd(p:(List Int)→Option ((List Int)×Int×Int)):Prop:= ∀ {a:List Int} {r:(List Int)×Int×Int},p a=some r→Big Try.prog τ An (.fn 91 [.one (.c (.sl (a.map rI_u8)))] [] (.one (.ptr 0 0)) none [] (some [.sl (r.1.map rI_u8), .int .i64 r.2.1, .int .i64 r.2.2]))
def oX(n:Nat)(b:List Int):(Int×Int)→Option ((Int×Int)⊕((Int×Int×Bool)))
  | (c,a)=>(bif decide (a<(b.length:Int))then some (decide (a<(4000:Int)))else some false).bind fun f=>bif f then(ix b a).bind fun d=>some (.inl ((bits .and .i64 (IntKind.wrap .i64 ((IntKind.wrap .i64 ((IntKind.wrap .i64 (c*(137:Int)))+(IntKind.wrap .i64 d)))+(11:Int))) (1073741823:Int)),(IntKind.wrap .i64 (a+(1:Int)))))else some (.inr (c,a,false))
def lB(n:Nat)(a:List Int):Option ((List Int)×Int×Int):=
  (loopN (oX n a) n ((IntKind.wrap .i64 ((375375:Int)+(a.length:Int))),(0:Int))).bind fun(b,d,c)=>some (a,(0:Int),b)
theorem vJ{n:Nat}:Hd (lB n):=by
 intro l r h; unfold lB at h; refine bF Try.func91 rfl rfl<|gco 7 rfl<|xLn rfl<|goc 8 rfl<|cLp h [(3,4),(8,27)] [] (fun(a,f)=>([(3,I64 a),(4,I64 f)],[])) (fun(b,g,c)=>(.e 0,[(3,I64 b),(4,I64 g),(15,Bo c)],[])) rfl (fun st _ h=> ?_) (fun q h=> ?_)
 obtain⟨a,f⟩:=st; unfold oX at h; refine gco 3 rfl<|oJn h [(8,15)] [] (fun d=>(.n,[(15,Bo d)],[])) (fun _ h=> ?_) (fun d h=> ?_)
 refine goo 2 rfl<|xLn rfl<|goo 2 rfl<|oIf 12 h rfl (fun m h=> ?_) (fun m h=> ?_)
 exact geo; exact geo; refine cIf h rfl (fun o h=> ?_) (fun o h=> ?_)
 refine gco 8 rfl<|xIx h JU rfl (fun j h=> ?_)
 exact goo 4 rfl<|wBi (.int .i64 (bits .and .i64 (IntKind.wrap .i64 ((IntKind.wrap .i64 ((IntKind.wrap .i64 (a*(137:Int)))+(IntKind.wrap .i64 j)))+(11:Int))) (1073741823:Int))) rfl rfl rfl rfl rfl<|geo
 exact gec; obtain⟨b,g,c⟩:=q; exact gco 4 rfl<|wBd [.sl (l.map rI_u8), .int .i64 0, .int .i64 b] rfl rfl rfl rfl rfl rfl<|geo
abbrev Fs(p:(List Int)→Int→Int→Option (Int×(List Int)×Int×Int)):Prop:= ∀ {a:List Int} {b d:Int} {r:Int×(List Int)×Int×Int},p a b d=some r→Big Try.prog τ An (.fn 253 [.one (.ptr 1000000 0)] [[.sl (a.map rI_u8), .int .i64 b, .int .i64 d]] (.one (.c (.int .i64 r.1))) none [[.sl (r.2.1.map rI_u8), .int .i64 r.2.2.1, .int .i64 r.2.2.2]] none)
def fS(n:Nat)(b:List Int)(c:Int)(a:Int):Option (Int×(List Int)×Int×Int):=
  bif decide (c<(b.length:Int))then(ix b c).bind fun d=>some ((bits .and .i64 (IntKind.wrap .i64 ((bits .and .i64 (bits .xor .i64 (Int.fdiv (IntKind.wrap .i64 ((IntKind.wrap .i64 (a*(6364136223846793005:Int)))+(1442695040888963407:Int))) (2 ^ 33)) (Int.fdiv (IntKind.wrap .i64 ((IntKind.wrap .i64 (a*(6364136223846793005:Int)))+(1442695040888963407:Int))) (2 ^ 47))) (255:Int))+(IntKind.wrap .i64 d))) (255:Int)),b,(IntKind.wrap .i64 (c+(1:Int))),(IntKind.wrap .i64 ((IntKind.wrap .i64 (a*(6364136223846793005:Int)))+(1442695040888963407:Int))))else some ((bits .and .i64 (bits .xor .i64 (Int.fdiv (IntKind.wrap .i64 ((IntKind.wrap .i64 (a*(6364136223846793005:Int)))+(1442695040888963407:Int))) (2 ^ 33)) (Int.fdiv (IntKind.wrap .i64 ((IntKind.wrap .i64 (a*(6364136223846793005:Int)))+(1442695040888963407:Int))) (2 ^ 47))) (255:Int)),b,c,(IntKind.wrap .i64 ((IntKind.wrap .i64 (a*(6364136223846793005:Int)))+(1442695040888963407:Int))))
theorem mE{n:Nat}:Fs (fS n):=by
 intro c d a r h; unfold fS at h; refine bF Try.func253 rfl rfl<|gco 23 rfl<|wBi (.int .i64 (Int.fdiv (IntKind.wrap .i64 ((IntKind.wrap .i64 (a*(6364136223846793005:Int)))+(1442695040888963407:Int))) (2 ^ 33))) rfl rfl rfl rfl rfl<|goo 4 rfl<|wBi (.int .i64 (Int.fdiv (IntKind.wrap .i64 ((IntKind.wrap .i64 (a*(6364136223846793005:Int)))+(1442695040888963407:Int))) (2 ^ 47))) rfl rfl rfl rfl rfl<|wBi (.int .i64 (bits .xor .i64 (Int.fdiv (IntKind.wrap .i64 ((IntKind.wrap .i64 (a*(6364136223846793005:Int)))+(1442695040888963407:Int))) (2 ^ 33)) (Int.fdiv (IntKind.wrap .i64 ((IntKind.wrap .i64 (a*(6364136223846793005:Int)))+(1442695040888963407:Int))) (2 ^ 47)))) rfl rfl rfl rfl rfl<|wBi (.int .i64 (bits .and .i64 (bits .xor .i64 (Int.fdiv (IntKind.wrap .i64 ((IntKind.wrap .i64 (a*(6364136223846793005:Int)))+(1442695040888963407:Int))) (2 ^ 33)) (Int.fdiv (IntKind.wrap .i64 ((IntKind.wrap .i64 (a*(6364136223846793005:Int)))+(1442695040888963407:Int))) (2 ^ 47))) (255:Int))) rfl rfl rfl rfl rfl<|goo 13 rfl<|xLn rfl<|goc 2 rfl<|cIf h rfl (fun f h=> ?_) (fun f h=> ?_)
 refine gco 11 rfl<|xIx h JU rfl (fun b h=> ?_)
 exact goo 3 rfl<|wBi (.int .i64 (bits .and .i64 (IntKind.wrap .i64 ((bits .and .i64 (bits .xor .i64 (Int.fdiv (IntKind.wrap .i64 ((IntKind.wrap .i64 (a*(6364136223846793005:Int)))+(1442695040888963407:Int))) (2 ^ 33)) (Int.fdiv (IntKind.wrap .i64 ((IntKind.wrap .i64 (a*(6364136223846793005:Int)))+(1442695040888963407:Int))) (2 ^ 47))) (255:Int))+(IntKind.wrap .i64 b))) (255:Int))) rfl rfl rfl rfl rfl<|geo
 exact gec
abbrev Dp(p:Int→(List Int)→Int→Int→Option (Int×(List Int)×Int×Int)):Prop:= ∀ {f:Int} {a:List Int} {b d:Int} {r:Int×(List Int)×Int×Int},p f a b d=some r→Big Try.prog τ An (.fn 183 [.one (.ptr 1000000 0), .one (.c (.int .i64 f))] [[.sl (a.map rI_u8), .int .i64 b, .int .i64 d]] (.one (.c (.int .i64 r.1))) none [[.sl (r.2.1.map rI_u8), .int .i64 r.2.2.1, .int .i64 r.2.2.2]] none)
def aJ(n:Nat)(a:Int)(g:List Int)(j:Int)(l:Int):Option (Int×(List Int)×Int×Int):=
  bif decide (a≤(0:Int))then some ((0:Int),g,j,l)else bif decide (a≤(256:Int))then(fS n g j l).bind fun b=>(ck (!decide (a=0))).bind fun _=>some ((Int.tmod b.1 a),b.2.1,b.2.2.1,b.2.2.2)else(fS n g j l).bind fun c=>(fS n c.2.1 c.2.2.1 c.2.2.2).bind fun d=>(fS n d.2.1 d.2.2.1 d.2.2.2).bind fun f=>(ck (!decide (a=0))).bind fun _=>some ((Int.tmod (IntKind.wrap .i64 ((IntKind.wrap .i64 ((IntKind.wrap .i64 (c.1*(65536:Int)))+(IntKind.wrap .i64 (d.1*(256:Int)))))+f.1)) a),f.2.1,f.2.2.1,f.2.2.2)
theorem aK{n:Nat}:Dp (aJ n):=by
 intro s j l m r h; unfold aJ at h; refine bF Try.func183 rfl rfl<|gcc 10 rfl<|cIf h rfl (fun o h=> ?_) (fun o h=> ?_)
 exact gec; refine gcc 7 rfl<|cIf h rfl (fun p h=> ?_) (fun p h=> ?_)
 refine gco 3 rfl<|xC1 h (mE ·) rfl (fun c h=> ?_)
 refine xMv rfl<|oCk h (fun a h=> ?_)
 exact wRem a rfl rfl rfl rfl<|geo
 refine gco 4 rfl<|xC1 h (mE ·) rfl (fun d h=> ?_)
 refine goo 5 rfl<|xC1 h (mE ·) rfl (fun f h=> ?_)
 refine goo 5 rfl<|xC1 h (mE ·) rfl (fun g h=> ?_)
 refine goo 12 rfl<|oCk h (fun b h=> ?_)
 exact wRem b rfl rfl rfl rfl<|geo
abbrev Fr(p:Int→(List Int)→Int→Int→Option (Bool×(List Int)×Int×Int)):Prop:= ∀ {f:Int} {a:List Int} {b d:Int} {r:Bool×(List Int)×Int×Int},p f a b d=some r→Big Try.prog τ An (.fn 94 [.one (.ptr 1000000 0), .one (.c (.int .i64 f))] [[.sl (a.map rI_u8), .int .i64 b, .int .i64 d]] (.one (.c (.bool r.1))) none [[.sl (r.2.1.map rI_u8), .int .i64 r.2.2.1, .int .i64 r.2.2.2]] none)
def cN(n:Nat)(f:Int)(b:List Int)(c:Int)(d:Int):Option (Bool×(List Int)×Int×Int):=
  (aJ n f b c d).bind fun a=>some ((decide (a.1=(0:Int))),a.2.1,a.2.2.1,a.2.2.2)
theorem eQ{n:Nat}:Fr (cN n):=by
 intro f b c d r h; unfold cN at h; refine bF Try.func94 rfl rfl<|gco 8 rfl<|xC1 h (aK ·) rfl (fun a h=> ?_)
 exact geo
abbrev Hc(p:(List (List UInt8))→(List Int)→Int→Int→Option ((List UInt8)×(List Int)×Int×Int)):Prop:= ∀ {f:List (List UInt8)} {a:List Int} {b d:Int} {r:(List UInt8)×(List Int)×Int×Int},p f a b d=some r→Big Try.prog τ An (.fn 201 [.one (.ptr 1000000 0), .one (.c (.sl (f.map eF)))] [[.sl (a.map rI_u8), .int .i64 b, .int .i64 d]] (.one (.c (.str r.1))) none [[.sl (r.2.1.map rI_u8), .int .i64 r.2.2.1, .int .i64 r.2.2.2]] none)
def aV(n:Nat)(b:List (List UInt8))(d:List Int)(f:Int)(g:Int):Option ((List UInt8)×(List Int)×Int×Int):=
  (aJ n (b.length:Int) d f g).bind fun a=>(ix b a.1).bind fun c=>some (c,a.2.1,a.2.2.1,a.2.2.2)
theorem bD{n:Nat}:Hc (aV n):=by
 intro g c d f r h; unfold aV at h; refine bF Try.func201 rfl rfl<|gco 9 rfl<|xLn rfl<|xC1 h (aK ·) rfl (fun b h=> ?_)
 refine xIx h pM rfl (fun a h=> ?_)
 exact geo
abbrev He(p:(List Int)→(List Int)→Int→Int→Option (Int×(List Int)×Int×Int)):Prop:= ∀ {f a:List Int} {b d:Int} {r:Int×(List Int)×Int×Int},p f a b d=some r→Big Try.prog τ An (.fn 252 [.one (.ptr 1000000 0), .one (.c (.sl (f.map pX)))] [[.sl (a.map rI_u8), .int .i64 b, .int .i64 d]] (.one (.c (.int .i64 r.1))) none [[.sl (r.2.1.map rI_u8), .int .i64 r.2.2.1, .int .i64 r.2.2.2]] none)
def bO(n:Nat)(b:List Int)(d:List Int)(f:Int)(g:Int):Option (Int×(List Int)×Int×Int):=
  (aJ n (b.length:Int) d f g).bind fun a=>(ix b a.1).bind fun c=>some (c,a.2.1,a.2.2.1,a.2.2.2)
theorem cL{n:Nat}:He (bO n):=by
 intro g c d f r h; unfold bO at h; refine bF Try.func252 rfl rfl<|gco 9 rfl<|xLn rfl<|xC1 h (aK ·) rfl (fun b h=> ?_)
 refine xIx h MZ rfl (fun a h=> ?_)
 exact geo
abbrev jP:Type:=Int→(List Int)→Int→Int→Option (Int×Int×(List UInt8)×(List aB)×(List Int)×Int×Int)
abbrev oE(p:jP):Prop:= ∀ {f:Int} {a:List Int} {b d:Int} {r:Int×Int×(List UInt8)×(List aB)×(List Int)×Int×Int},p f a b d=some r→Big Try.prog τ An (.fn 186 [.one (.ptr 1000000 0), .one (.c (.int .i64 f))] [[.sl (a.map rI_u8), .int .i64 b, .int .i64 d]] (.one (.ag [.int .i64 r.1, .int .i64 r.2.1, .str r.2.2.1, .sl (r.2.2.2.1.map aD)])) none [[.sl (r.2.2.2.2.1.map rI_u8), .int .i64 r.2.2.2.2.2.1, .int .i64 r.2.2.2.2.2.2]] none)
def nQ(n:Nat)(f:jP)(p:Int):(Int×Int×Int×(List UInt8)×(List aB)×(List Int)×Int×Int)→Option ((Int×Int×Int×(List UInt8)×(List aB)×(List Int)×Int×Int)⊕((Int×Bool×Int×Int×(List UInt8)×(List aB)×(List Int)×Int×Int)))
  | (g,j,l,m,o,b,c,d)=>(bif decide ((0:Int)<g)then some (decide ((0:Int)<p))else some false).bind fun s=>bif s then(f (IntKind.wrap .i64 (p - (1:Int))) b c d).bind fun a=>(fE 56 o ([aB.mk a.1 a.2.1 a.2.2.1 a.2.2.2.1]:List aB)).bind fun t=>some (.inl ((IntKind.wrap .i64 (g - (1:Int))),j,l,m,t,a.2.2.2.2.1,a.2.2.2.2.2.1,a.2.2.2.2.2.2))else some (.inr (g,false,j,l,m,o,b,c,d))
def lN(n:Nat)(l:jP)(G:Int)(C:List Int)(D:Int)(E:Int):Option (Int×Int×(List UInt8)×(List aB)×(List Int)×Int×Int):=
  (aJ n (8:Int) C D E).bind fun a=>bif decide (a.1=(0:Int))then(aJ n (1000:Int) a.2.1 a.2.2.1 a.2.2.2).bind fun m=>(bO n ([(0:Int),(1:Int),(2:Int),((-1):Int),(7:Int),(1000000000000:Int),((-1000000000000):Int),m.1]:List Int) m.2.1 m.2.2.1 m.2.2.2).bind fun s=>some ((1:Int),s.1,([]:List UInt8),([]:List aB),s.2.1,s.2.2.1,s.2.2.2)else bif decide (a.1=(1:Int))then(aJ n (1000:Int) a.2.1 a.2.2.1 a.2.2.2).bind fun o=>(bO n ([(0:Int),(1:Int),(2:Int),((-1):Int),(7:Int),(1000000000000:Int),((-1000000000000):Int),o.1]:List Int) o.2.1 o.2.2.1 o.2.2.2).bind fun t=>some ((1:Int),t.1,([]:List UInt8),([]:List aB),t.2.1,t.2.2.1,t.2.2.2)else bif decide (a.1=(2:Int))then(aJ n (1000:Int) a.2.1 a.2.2.1 a.2.2.2).bind fun p=>(bO n ([(0:Int),(1:Int),(2:Int),((-1):Int),(7:Int),(1000000000000:Int),((-1000000000000):Int),p.1]:List Int) p.2.1 p.2.2.1 p.2.2.2).bind fun b=>some ((1:Int),b.1,([]:List UInt8),([]:List aB),b.2.1,b.2.2.1,b.2.2.2)else bif decide (a.1=(3:Int))then(aV n ([([111,107]:List UInt8),([115,116,111,112]:List UInt8),([97]:List UInt8),([116,114,117,101]:List UInt8),([97,100,100]:List UInt8)]:List (List UInt8)) a.2.1 a.2.2.1 a.2.2.2).bind fun c=>some ((2:Int),(0:Int),c.1,([]:List aB),c.2.1,c.2.2.1,c.2.2.2)else bif decide (a.1=(4:Int))then(aV n ([([111,107]:List UInt8),([115,116,111,112]:List UInt8),([97]:List UInt8),([116,114,117,101]:List UInt8),([97,100,100]:List UInt8)]:List (List UInt8)) a.2.1 a.2.2.1 a.2.2.2).bind fun d=>some ((2:Int),(0:Int),d.1,([]:List aB),d.2.1,d.2.2.1,d.2.2.2)else bif decide (a.1=(5:Int))then(aJ n (5:Int) a.2.1 a.2.2.1 a.2.2.2).bind fun f=>some ((3:Int),f.1,([]:List UInt8),([]:List aB),f.2.1,f.2.2.1,f.2.2.2)else(bO n ([(4:Int),(5:Int)]:List Int) a.2.1 a.2.2.1 a.2.2.2).bind fun g=>(aJ n (4:Int) g.2.1 g.2.2.1 g.2.2.2).bind fun j=>(loopN (nQ n l G) n (j.1,g.1,(0:Int),([]:List UInt8),([]:List aB),j.2.1,j.2.2.1,j.2.2.2)).bind fun(I,H,y,z,A,B,u,v,w)=>some (y,z,A,B,u,v,w)
theorem As{n:Nat}{b:jP}(p:oE b):oE (lN n b):=by
 intro a8 a2 a3 a4 r h; unfold lN at h; refine bF Try.func186 rfl rfl<|cRs<|xAz [.int .i64 0, .int .i64 0, .str [], .sl ([].map aD)] rfl<|goo 5 rfl<|xC1 h (aK ·) rfl (fun a1 h=> ?_)
 refine goc 8 rfl<|cIf h rfl (fun q2 h=> ?_) (fun q2 h=> ?_)
 refine gco 6 rfl<|xC1 h (aK ·) rfl (fun M h=> ?_)
 refine cS (L:=([(0:Int),(1:Int),(2:Int),((-1):Int),(7:Int),(1000000000000:Int),((-1000000000000):Int),M.1]:List Int)) (f:=pX) rfl rfl rfl rfl rfl rfl rfl<|xC1 h (cL ·) rfl (fun R h=> ?_)
 exact wBd [.int .i64 1, .int .i64 R.1, .str [], .sl ([].map aD)] rfl rfl rfl rfl rfl rfl<|geo
 refine gcc 5 rfl<|cIf h rfl (fun q5 h=> ?_) (fun q5 h=> ?_)
 refine gco 6 rfl<|xC1 h (aK ·) rfl (fun N h=> ?_)
 refine cS (L:=([(0:Int),(1:Int),(2:Int),((-1):Int),(7:Int),(1000000000000:Int),((-1000000000000):Int),N.1]:List Int)) (f:=pX) rfl rfl rfl rfl rfl rfl rfl<|xC1 h (cL ·) rfl (fun T h=> ?_)
 exact wBd [.int .i64 1, .int .i64 T.1, .str [], .sl ([].map aD)] rfl rfl rfl rfl rfl rfl<|geo
 refine gcc 4 rfl<|cIf h rfl (fun q8 h=> ?_) (fun q8 h=> ?_)
 refine gco 4 rfl<|xC1 h (aK ·) rfl (fun Q h=> ?_)
 refine cS (L:=([(0:Int),(1:Int),(2:Int),((-1):Int),(7:Int),(1000000000000:Int),((-1000000000000):Int),Q.1]:List Int)) (f:=pX) rfl rfl rfl rfl rfl rfl rfl<|xC1 h (cL ·) rfl (fun G h=> ?_)
 exact wBd [.int .i64 1, .int .i64 G.1, .str [], .sl ([].map aD)] rfl rfl rfl rfl rfl rfl<|geo
 refine gcc 6 rfl<|cIf h rfl (fun V h=> ?_) (fun V h=> ?_)
 refine gco 5 rfl<|cS (L:=([([111,107]:List UInt8),([115,116,111,112]:List UInt8),([97]:List UInt8),([116,114,117,101]:List UInt8),([97,100,100]:List UInt8)]:List (List UInt8))) (f:=eF) rfl rfl rfl rfl rfl rfl rfl<|xC1 h (bD ·) rfl (fun H h=> ?_)
 exact wBd [.int .i64 2, .int .i64 0, .str H.1, .sl ([].map aD)] rfl rfl rfl rfl rfl rfl<|geo
 refine gcc 4 rfl<|cIf h rfl (fun W h=> ?_) (fun W h=> ?_)
 refine gco 3 rfl<|cS (L:=([([111,107]:List UInt8),([115,116,111,112]:List UInt8),([97]:List UInt8),([116,114,117,101]:List UInt8),([97,100,100]:List UInt8)]:List (List UInt8))) (f:=eF) rfl rfl rfl rfl rfl rfl rfl<|xC1 h (bD ·) rfl (fun I h=> ?_)
 exact wBd [.int .i64 2, .int .i64 0, .str I.1, .sl ([].map aD)] rfl rfl rfl rfl rfl rfl<|geo
 refine gcc 5 rfl<|cIf h rfl (fun X h=> ?_) (fun X h=> ?_)
 refine gco 3 rfl<|xC1 h (aK ·) rfl (fun J h=> ?_)
 exact wBd [.int .i64 3, .int .i64 J.1, .str [], .sl ([].map aD)] rfl rfl rfl rfl rfl rfl<|geo
 refine gco 4 rfl<|cS (L:=([(4:Int),(5:Int)]:List Int)) (f:=pX) rfl rfl rfl rfl rfl rfl rfl<|xC1 h (cL ·) rfl (fun K h=> ?_)
 refine wBd [.int .i64 K.1, .int .i64 0, .str [], .sl ([].map aD)] rfl rfl rfl rfl rfl rfl<|xAz [.int .i64 0, .int .i64 0, .str [], .sl ([].map aD)] rfl<|goo 6 rfl<|xC1 h (aK ·) rfl (fun U h=> ?_)
 refine goc 2 rfl<|cLp h [(6,6),(37,53)] [(5,5),(1000000,1000000)] (fun(u,w,y,z,A,c,d,g)=>([(6,I64 u)],[(5,[.int .i64 w, .int .i64 y, .str z, .sl (A.map aD)]),(1000000,[.sl (c.map rI_u8), .int .i64 d, .int .i64 g])])) (fun(v,s,B,C,D,E,j,l,m)=>(.e 1,[(6,I64 v),(42,Bo s)],[(5,[.int .i64 B, .int .i64 C, .str D, .sl (E.map aD)]),(1000000,[.sl (j.map rI_u8), .int .i64 l, .int .i64 m])])) rfl (fun st _ h=> ?_) (fun q h=> ?_)
 obtain⟨u,w,y,z,A,c,d,g⟩:=st; unfold nQ at h; refine gco 3 rfl<|oJn h [(37,42)] [] (fun t=>(.n,[(42,Bo t)],[])) (fun _ h=> ?_) (fun t h=> ?_)
 refine goo 3 rfl<|oIf 39 h rfl (fun Y h=> ?_) (fun Y h=> ?_)
 exact geo; exact geo; refine cIf h rfl (fun Z h=> ?_) (fun Z h=> ?_)
 refine gco 9 rfl<|xC1 h (p ·) rfl (fun o h=> ?_)
 refine cS (L:=([aB.mk o.1 o.2.1 o.2.2.1 o.2.2.2.1]:List aB)) (f:=aD) rfl rfl rfl rfl (by simp only[List.map,bY]<;>rfl) rfl rfl<|wAp (f:=aD) h rfl rfl rfl rfl rfl rfl rfl rfl rfl (fun a=>by rw[aN]; rfl) rfl (fun a0 h=> ?_)
 exact geo; exact gec; obtain⟨v,s,B,C,D,E,j,l,m⟩:=q; exact gec
def xR:Nat→(jP)
  | 0=>(fun _ _ _ _=>none)
  | n+1=>lN n (xR n)
def gO(n:Nat):jP:=xR n
theorem BB(n:Nat):oE (gO n):=by
  induction n with
  | zero=>exact(fun h=>nomatch h)
  | succ n ih=>exact As (n:=n) ih
theorem tO{n:Nat}:oE (gO n):=(BB n)
theorem yP(n:Nat):gO (n+1)=lN n (gO n):=rfl
abbrev Fq(p:Int→Int→(List UInt8)→(List aB)→(List Int)→Int→Int→Option (Int×Int×(List UInt8)×(List aB)×(List Int)×Int×Int)):Prop:= ∀ {d f:Int} {g:List UInt8} {j:List aB} {a:List Int} {b c:Int} {r:Int×Int×(List UInt8)×(List aB)×(List Int)×Int×Int},p d f g j a b c=some r→Big Try.prog τ An (.fn 187 [.one (.ptr 1000000 0), .one (.ag [.int .i64 d, .int .i64 f, .str g, .sl (j.map aD)])] [[.sl (a.map rI_u8), .int .i64 b, .int .i64 c]] (.one (.ag [.int .i64 r.1, .int .i64 r.2.1, .str r.2.2.1, .sl (r.2.2.2.1.map aD)])) none [[.sl (r.2.2.2.2.1.map rI_u8), .int .i64 r.2.2.2.2.2.1, .int .i64 r.2.2.2.2.2.2]] none)
def nR(n:Nat):(Int×Int×Int×(List UInt8)×(List aB))→Option ((Int×Int×Int×(List UInt8)×(List aB))⊕((Int×Bool×Int×Int×(List UInt8)×(List aB))))
  | (a,b,c,d,f)=>bif decide (a<(8:Int))then some (.inl ((IntKind.wrap .i64 (a+(1:Int))),(4:Int),(0:Int),([]:List UInt8),([aB.mk b c d f]:List aB)))else some (.inr (a,false,b,c,d,f))
def lS(n:Nat)(u:Int)(v:Int)(w:List UInt8)(y:List aB)(p:List Int)(s:Int)(t:Int):Option (Int×Int×(List UInt8)×(List aB)×(List Int)×Int×Int):=
  (dA n u v w y).bind fun b=>(aJ n (6:Int) p s t).bind fun a=>bif decide (a.1=(0:Int))then(aJ n (7:Int) a.2.1 a.2.2.1 a.2.2.2).bind fun c=>some (c.1,b.2.1,b.2.2.1,b.2.2.2,c.2.1,c.2.2.1,c.2.2.2)else bif decide (a.1=(1:Int))then(bO n ([((-1):Int),(1000000000001:Int),(1000001:Int),(3:Int)]:List Int) a.2.1 a.2.2.1 a.2.2.2).bind fun d=>some (b.1,d.1,b.2.2.1,b.2.2.2,d.2.1,d.2.2.1,d.2.2.2)else bif decide (a.1=(2:Int))then(aV n ([([]:List UInt8),([65]:List UInt8),([120]:List UInt8),([116,119,101,110,116,121,111,110,101,98,121,116,101,115,116,119,101,110,116,121,111]:List UInt8)]:List (List UInt8)) a.2.1 a.2.2.1 a.2.2.2).bind fun f=>some (b.1,b.2.1,f.1,b.2.2.2,f.2.1,f.2.2.1,f.2.2.2)else bif decide (a.1=(3:Int))then(fE 56 b.2.2.2 ([aB.mk (1:Int) (4:Int) ([]:List UInt8) ([]:List aB)]:List aB)).bind fun g=>some (b.1,b.2.1,b.2.2.1,g,a.2.1,a.2.2.1,a.2.2.2)else bif decide (a.1=(4:Int))then(loopN (nR n) n ((0:Int),b.1,b.2.1,b.2.2.1,b.2.2.2)).bind fun(A,z,j,l,m,o)=>some (j,l,m,o,a.2.1,a.2.2.1,a.2.2.2)else some (b.1,b.2.1,b.2.2.1,b.2.2.2,a.2.1,a.2.2.1,a.2.2.2)
theorem Ck{n:Nat}:Fq (lS n):=by
 intro M N Q R D E G r h; unfold lS at h; refine bF Try.func187 rfl rfl<|gco 3 rfl<|xAz [.int .i64 0, .int .i64 0, .str [], .sl ([].map aD)] rfl<|goo 4 rfl<|xC0 h (oZ ·) rfl (fun B h=> ?_)
 refine goo 6 rfl<|xC1 h (aK ·) rfl (fun C h=> ?_)
 refine goc 7 rfl<|cIf h rfl (fun H h=> ?_) (fun H h=> ?_)
 refine gco 2 rfl<|xC1 h (aK ·) rfl (fun y h=> ?_)
 exact geo; refine gcc 5 rfl<|cIf h rfl (fun I h=> ?_) (fun I h=> ?_)
 refine gco 2 rfl<|cS (L:=([((-1):Int),(1000000000001:Int),(1000001:Int),(3:Int)]:List Int)) (f:=pX) rfl rfl rfl rfl rfl rfl rfl<|xC1 h (cL ·) rfl (fun z h=> ?_)
 exact geo; refine gcc 5 rfl<|cIf h rfl (fun J h=> ?_) (fun J h=> ?_)
 refine gco 2 rfl<|cS (L:=([([]:List UInt8),([65]:List UInt8),([120]:List UInt8),([116,119,101,110,116,121,111,110,101,98,121,116,101,115,116,119,101,110,116,121,111]:List UInt8)]:List (List UInt8))) (f:=eF) rfl rfl rfl rfl rfl rfl rfl<|xC1 h (bD ·) rfl (fun A h=> ?_)
 exact geo; refine gcc 5 rfl<|cIf h rfl (fun K h=> ?_) (fun K h=> ?_)
 refine gco 3 rfl<|wBd [.int .i64 1, .int .i64 4, .str [], .sl ([].map aD)] rfl rfl rfl rfl rfl rfl<|cS (L:=([aB.mk (1:Int) (4:Int) ([]:List UInt8) ([]:List aB)]:List aB)) (f:=aD) rfl rfl rfl rfl (by simp only[List.map,bY]<;>rfl) rfl rfl<|wAp (f:=aD) h rfl rfl rfl rfl rfl rfl rfl rfl rfl (fun a=>by rw[aN]; rfl) rfl (fun w h=> ?_)
 exact geo; refine gcc 5 rfl<|cIf h rfl (fun u h=> ?_) (fun u h=> ?_)
 refine gcc 4 rfl<|cLp h [(5,5),(37,43)] [(3,3)] (fun(l,b,c,d,g)=>([(5,I64 l)],[(3,[.int .i64 b, .int .i64 c, .str d, .sl (g.map aD)])])) (fun(m,j,o,p,s,t)=>(.e 1,[(5,I64 m),(38,Bo j)],[(3,[.int .i64 o, .int .i64 p, .str s, .sl (t.map aD)])])) rfl (fun st _ h=> ?_) (fun q h=> ?_)
 obtain⟨l,b,c,d,g⟩:=st; unfold nR at h; refine gcc 6 rfl<|cIf h rfl (fun v h=> ?_) (fun v h=> ?_)
 exact gco 5 rfl<|cS (L:=([aB.mk b c d g]:List aB)) (f:=aD) rfl rfl rfl rfl (by simp only[List.map,bY]<;>rfl) rfl rfl<|wBd [.int .i64 4, .int .i64 0, .str [], .sl ([aB.mk b c d g].map aD)] rfl rfl rfl rfl rfl rfl<|geo
 exact gec; obtain⟨m,j,o,p,s,t⟩:=q; exact gec; exact gec
abbrev Hb(p:(List Int)→Int→Int→Option (Int×Int×(List UInt8)×(List aB)×(List Int)×Int×Int)):Prop:= ∀ {a:List Int} {b c:Int} {r:Int×Int×(List UInt8)×(List aB)×(List Int)×Int×Int},p a b c=some r→Big Try.prog τ An (.fn 95 [.one (.ptr 1000000 0)] [[.sl (a.map rI_u8), .int .i64 b, .int .i64 c]] (.one (.ag [.int .i64 r.1, .int .i64 r.2.1, .str r.2.2.1, .sl (r.2.2.2.1.map aD)])) none [[.sl (r.2.2.2.2.1.map rI_u8), .int .i64 r.2.2.2.2.2.1, .int .i64 r.2.2.2.2.2.2]] none)
def lA(n:Nat)(d:List Int)(f:Int)(g:Int):Option (Int×Int×(List UInt8)×(List aB)×(List Int)×Int×Int):=
  (gO n (3:Int) d f g).bind fun a=>(cN n (5:Int) a.2.2.2.2.1 a.2.2.2.2.2.1 a.2.2.2.2.2.2).bind fun c=>bif c.1 then(lS n a.1 a.2.1 a.2.2.1 a.2.2.2.1 c.2.1 c.2.2.1 c.2.2.2).bind fun b=>some (b.1,b.2.1,b.2.2.1,b.2.2.2.1,b.2.2.2.2.1,b.2.2.2.2.2.1,b.2.2.2.2.2.2)else some (a.1,a.2.1,a.2.2.1,a.2.2.2.1,c.2.1,c.2.2.1,c.2.2.2)
theorem vH{n:Nat}:Hb (lA n):=by
 intro d f g r h; unfold lA at h; refine bF Try.func95 rfl rfl<|cRs<|xAz [.int .i64 0, .int .i64 0, .str [], .sl ([].map aD)] rfl<|goo 4 rfl<|xC1 h (tO ·) rfl (fun b h=> ?_)
 refine xAz [.int .i64 0, .int .i64 0, .str [], .sl ([].map aD)] rfl<|goo 6 rfl<|xC1 h (eQ ·) rfl (fun c h=> ?_)
 refine oNl<|cIf h rfl (fun j h=> ?_) (fun j h=> ?_)
 refine gco 3 rfl<|xC1 h (Ck ·) rfl (fun a h=> ?_)
 exact geo; exact gec
abbrev HY(p:Int→Option (Int×Int×(List UInt8)×(List aA)×(List aC))):Prop:= ∀ {a:Int} {r:Int×Int×(List UInt8)×(List aA)×(List aC)},p a=some r→Big Try.prog τ An (.fn 250 [.one (.c (.int .i64 a))] [] (.one (.ag [.int .i64 r.1, .int .i64 r.2.1, .str r.2.2.1, .sl (r.2.2.2.1.map aF), .sl (r.2.2.2.2.map aE)])) none [] none)
def bN(n:Nat)(a:Int):Option (Int×Int×(List UInt8)×(List aA)×(List aC)):=
  some ((1:Int),a,([]:List UInt8),([]:List aA),([]:List aC))
theorem cA{n:Nat}:HY (bN n):=by
 intro a r h; unfold bN at h; exact bF Try.func250 rfl rfl<|cRs<|xAz [.int .i64 0, .int .i64 0, .str [], .sl ([].map aF), .sl ([].map aE)] rfl<|goo 4 rfl<|wBd [.int .i64 1, .int .i64 a, .str [], .sl ([].map aF), .sl ([].map aE)] rfl rfl rfl rfl rfl rfl<|geo
abbrev Iy(p:(List UInt8)→Option (Int×Int×(List UInt8)×(List aA)×(List aC))):Prop:= ∀ {a:List UInt8} {r:Int×Int×(List UInt8)×(List aA)×(List aC)},p a=some r→Big Try.prog τ An (.fn 251 [.one (.c (.str a))] [] (.one (.ag [.int .i64 r.1, .int .i64 r.2.1, .str r.2.2.1, .sl (r.2.2.2.1.map aF), .sl (r.2.2.2.2.map aE)])) none [] none)
def kK(n:Nat)(a:List UInt8):Option (Int×Int×(List UInt8)×(List aA)×(List aC)):=
  some ((2:Int),(0:Int),a,([]:List aA),([]:List aC))
theorem rU{n:Nat}:Iy (kK n):=by
 intro a r h; unfold kK at h; exact bF Try.func251 rfl rfl<|cRs<|xAz [.int .i64 0, .int .i64 0, .str [], .sl ([].map aF), .sl ([].map aE)] rfl<|goo 4 rfl<|wBd [.int .i64 2, .int .i64 0, .str a, .sl ([].map aF), .sl ([].map aE)] rfl rfl rfl rfl rfl rfl<|geo
abbrev iV:Type:=Int→(List Int)→Int→Int→(List (List UInt8))→Option (Int×Int×(List UInt8)×(List aA)×(List aC)×(List Int)×Int×Int×(List (List UInt8)))
abbrev qC(p:iV):Prop:= ∀ {g:Int} {a:List Int} {b d:Int} {f:List (List UInt8)} {r:Int×Int×(List UInt8)×(List aA)×(List aC)×(List Int)×Int×Int×(List (List UInt8))},p g a b d f=some r→Big Try.prog τ An (.fn 181 [.one (.ptr 1000000 0), .one (.c (.int .i64 g)), .one (.ptr 1000001 0)] [[.sl (a.map rI_u8), .int .i64 b, .int .i64 d],[.sl (f.map eF)]] (.one (.ag [.int .i64 r.1, .int .i64 r.2.1, .str r.2.2.1, .sl (r.2.2.2.1.map aF), .sl (r.2.2.2.2.1.map aE)])) none [[.sl (r.2.2.2.2.2.1.map rI_u8), .int .i64 r.2.2.2.2.2.2.1, .int .i64 r.2.2.2.2.2.2.2.1],[.sl (r.2.2.2.2.2.2.2.2.map eF)]] none)
def mB(n:Nat)(g:iV)(y:Int):(Int×Int×Int×(List UInt8)×(List aA)×(List aC)×(List Int)×Int×Int×(List (List UInt8)))→Option ((Int×Int×Int×(List UInt8)×(List aA)×(List aC)×(List Int)×Int×Int×(List (List UInt8)))⊕((Int×Bool×Int×Int×(List UInt8)×(List aA)×(List aC)×(List Int)×Int×Int×(List (List UInt8)))))
  | (j,s,t,u,v,w,b,c,d,f)=>bif decide (j<(2:Int))then((bif decide ((0:Int)<y)then(g (IntKind.wrap .i64 (y - (1:Int))) b c d f).bind fun a=>(fE 80 v ([aA.mk a.1 a.2.1 a.2.2.1 a.2.2.2.1 a.2.2.2.2.1]:List aA)).bind fun z=>some (s,t,u,z,w,a.2.2.2.2.2.1,a.2.2.2.2.2.2.1,a.2.2.2.2.2.2.2.1,a.2.2.2.2.2.2.2.2)else(fE 80 v ([aA.mk (3:Int) (0:Int) ([95]:List UInt8) ([]:List aA) ([]:List aC)]:List aA)).bind fun A=>some (s,t,u,A,w,b,c,d,f):Option ((Int×Int×(List UInt8)×(List aA)×(List aC)×(List Int)×Int×Int×(List (List UInt8)))))).bind fun(B,C,D,E,G,l,m,o,p)=>some (.inl ((IntKind.wrap .i64 (j+(1:Int))),B,C,D,E,G,l,m,o,p))else some (.inr (j,false,s,t,u,v,w,b,c,d,f))
def mA(n:Nat)(g:iV)(z:Int)(y:Int×(List Int)×Int×Int):(Int×Int×Int×(List UInt8)×(List aA)×(List aC)×(List Int)×Int×Int×(List (List UInt8)))→Option ((Int×Int×Int×(List UInt8)×(List aA)×(List aC)×(List Int)×Int×Int×(List (List UInt8)))⊕((Int×Bool×Int×Int×(List UInt8)×(List aA)×(List aC)×(List Int)×Int×Int×(List (List UInt8)))))
  | (j,s,t,u,v,w,b,c,d,f)=>bif decide (j<y.1)then((bif decide ((0:Int)<z)then(g (IntKind.wrap .i64 (z - (1:Int))) b c d f).bind fun a=>(fE 80 v ([aA.mk a.1 a.2.1 a.2.2.1 a.2.2.2.1 a.2.2.2.2.1]:List aA)).bind fun A=>some (s,t,u,A,w,a.2.2.2.2.2.1,a.2.2.2.2.2.2.1,a.2.2.2.2.2.2.2.1,a.2.2.2.2.2.2.2.2)else(fE 80 v ([aA.mk (3:Int) (0:Int) ([95]:List UInt8) ([]:List aA) ([]:List aC)]:List aA)).bind fun B=>some (s,t,u,B,w,b,c,d,f):Option ((Int×Int×(List UInt8)×(List aA)×(List aC)×(List Int)×Int×Int×(List (List UInt8)))))).bind fun(C,D,E,G,H,l,m,o,p)=>some (.inl ((IntKind.wrap .i64 (j+(1:Int))),C,D,E,G,H,l,m,o,p))else some (.inr (j,false,s,t,u,v,w,b,c,d,f))
def nB(n:Nat)(l:iV)(G:Int)(X:List Int)(Y:Int)(Z:Int)(f:List (List UInt8)):Option (Int×Int×(List UInt8)×(List aA)×(List aC)×(List Int)×Int×Int×(List (List UInt8))):=
  (aJ n (8:Int) X Y Z).bind fun a=>bif decide (a.1=(0:Int))then(aJ n (3:Int) a.2.1 a.2.2.1 a.2.2.2).bind fun p=>(bN n p.1).bind fun m=>some (m.1,m.2.1,m.2.2.1,m.2.2.2.1,m.2.2.2.2,p.2.1,p.2.2.1,p.2.2.2,f)else bif decide (a.1=(1:Int))then(aV n ([([111,107]:List UInt8),([97]:List UInt8),([115,116,111,112]:List UInt8)]:List (List UInt8)) a.2.1 a.2.2.1 a.2.2.2).bind fun s=>(kK n s.1).bind fun o=>some (o.1,o.2.1,o.2.2.1,o.2.2.2.1,o.2.2.2.2,s.2.1,s.2.2.1,s.2.2.2,f)else bif decide (a.1=(2:Int))then some ((3:Int),(0:Int),([95]:List UInt8),([]:List aA),([]:List aC),a.2.1,a.2.2.1,a.2.2.2,f)else bif decide (a.1=(3:Int))then(aV n ([([65]:List UInt8),([66]:List UInt8),([67]:List UInt8),([68]:List UInt8),([72]:List UInt8),([84]:List UInt8)]:List (List UInt8)) a.2.1 a.2.2.1 a.2.2.2).bind fun b=>(fJ n f b.1).bind fun C=>bif C then some ((3:Int),(0:Int),([95]:List UInt8),([]:List aA),([]:List aC),b.2.1,b.2.2.1,b.2.2.2,f)else(fE 16 f ([b.1]:List (List UInt8))).bind fun H=>some ((3:Int),(0:Int),b.1,([]:List aA),([]:List aC),b.2.1,b.2.2.1,b.2.2.2,H)else bif decide (a.1=(4:Int))then(aV n ([([65]:List UInt8),([66]:List UInt8),([67]:List UInt8),([68]:List UInt8),([72]:List UInt8),([84]:List UInt8)]:List (List UInt8)) a.2.1 a.2.2.1 a.2.2.2).bind fun c=>(fJ n f c.1).bind fun D=>bif D then some ((3:Int),(0:Int),([95]:List UInt8),([]:List aA),([]:List aC),c.2.1,c.2.2.1,c.2.2.2,f)else(fE 16 f ([c.1]:List (List UInt8))).bind fun I=>some ((3:Int),(0:Int),c.1,([]:List aA),([]:List aC),c.2.1,c.2.2.1,c.2.2.2,I)else bif decide (a.1=(5:Int))then(aV n ([([65]:List UInt8),([66]:List UInt8),([67]:List UInt8),([68]:List UInt8),([72]:List UInt8),([84]:List UInt8)]:List (List UInt8)) a.2.1 a.2.2.1 a.2.2.2).bind fun d=>(fJ n f d.1).bind fun E=>bif E then some ((3:Int),(0:Int),([95]:List UInt8),([]:List aA),([]:List aC),d.2.1,d.2.2.1,d.2.2.2,f)else(fE 16 f ([d.1]:List (List UInt8))).bind fun J=>some ((3:Int),(0:Int),d.1,([]:List aA),([]:List aC),d.2.1,d.2.2.1,d.2.2.2,J)else(bO n ([(4:Int),(5:Int),(6:Int)]:List Int) a.2.1 a.2.2.1 a.2.2.2).bind fun j=>(aJ n (3:Int) j.2.1 j.2.2.1 j.2.2.2).bind fun g=>bif decide (j.1=(6:Int))then(loopN (mB n l G) n ((0:Int),j.1,(0:Int),([]:List UInt8),([]:List aA),([]:List aC),g.2.1,g.2.2.1,g.2.2.2,f)).bind fun(a0,a2,K,L,M,N,Q,t,u,v,A)=>some (K,L,M,N,Q,t,u,v,A)else(loopN (mA n l G g) n ((0:Int),j.1,(0:Int),([]:List UInt8),([]:List aA),([]:List aC),g.2.1,g.2.2.1,g.2.2.2,f)).bind fun(a1,a3,R,T,U,V,W,w,y,z,B)=>some (R,T,U,V,W,w,y,z,B)
theorem Cb{n:Nat}{g:iV}(b:qC g):qC (nB n g):=by
 intro g5 f7 f8 f9 g0 r h; unfold nB at h; refine bF Try.func181 rfl rfl<|cRs<|xAz [.int .i64 0, .int .i64 0, .str [], .sl ([].map aF), .sl ([].map aE)] rfl<|goo 5 rfl<|xC1 h (aK ·) rfl (fun f2 h=> ?_)
 refine goc 7 rfl<|cIf h rfl (fun q2 h=> ?_) (fun q2 h=> ?_)
 refine gco 3 rfl<|xC1 h (aK ·) rfl (fun f3 h=> ?_)
 refine xC0 h (cA ·) rfl (fun f4 h=> ?_)
 exact geo; refine gcc 5 rfl<|cIf h rfl (fun q5 h=> ?_) (fun q5 h=> ?_)
 refine gco 3 rfl<|cS (L:=([([111,107]:List UInt8),([97]:List UInt8),([115,116,111,112]:List UInt8)]:List (List UInt8))) (f:=eF) rfl rfl rfl rfl rfl rfl rfl<|xC1 h (bD ·) rfl (fun f5 h=> ?_)
 refine xC0 h (rU ·) rfl (fun f6 h=> ?_)
 exact geo; refine gcc 5 rfl<|cIf h rfl (fun q8 h=> ?_) (fun q8 h=> ?_)
 exact cRs<|wBd [.int .i64 3, .int .i64 0, .str [95], .sl ([].map aF), .sl ([].map aE)] rfl rfl rfl rfl rfl rfl<|geo
 refine gcc 6 rfl<|cIf h rfl (fun q9 h=> ?_) (fun q9 h=> ?_)
 refine gco 5 rfl<|cS (L:=([([65]:List UInt8),([66]:List UInt8),([67]:List UInt8),([68]:List UInt8),([72]:List UInt8),([84]:List UInt8)]:List (List UInt8))) (f:=eF) rfl rfl rfl rfl rfl rfl rfl<|xC1 h (bD ·) rfl (fun Q h=> ?_)
 refine goo 9 rfl<|xC0 h (mZ ·) rfl (fun d1 h=> ?_)
 refine oNl<|cIf h rfl (fun d5 h=> ?_) (fun d5 h=> ?_)
 exact cRs<|wBd [.int .i64 3, .int .i64 0, .str [95], .sl ([].map aF), .sl ([].map aE)] rfl rfl rfl rfl rfl rfl<|geo
 refine gco 8 rfl<|cS (L:=([Q.1]:List (List UInt8))) (f:=eF) rfl rfl rfl rfl rfl rfl rfl<|wAp (f:=eF) h rfl rfl rfl rfl rfl rfl rfl rfl rfl (fun _=>rfl) rfl (fun e5 h=> ?_)
 exact goo 6 rfl<|wBd [.int .i64 3, .int .i64 0, .str Q.1, .sl ([].map aF), .sl ([].map aE)] rfl rfl rfl rfl rfl rfl<|geo
 refine gcc 5 rfl<|cIf h rfl (fun d6 h=> ?_) (fun d6 h=> ?_)
 refine gco 5 rfl<|cS (L:=([([65]:List UInt8),([66]:List UInt8),([67]:List UInt8),([68]:List UInt8),([72]:List UInt8),([84]:List UInt8)]:List (List UInt8))) (f:=eF) rfl rfl rfl rfl rfl rfl rfl<|xC1 h (bD ·) rfl (fun R h=> ?_)
 refine goo 9 rfl<|xC0 h (mZ ·) rfl (fun d2 h=> ?_)
 refine oNl<|cIf h rfl (fun d7 h=> ?_) (fun d7 h=> ?_)
 exact cRs<|wBd [.int .i64 3, .int .i64 0, .str [95], .sl ([].map aF), .sl ([].map aE)] rfl rfl rfl rfl rfl rfl<|geo
 refine gco 8 rfl<|cS (L:=([R.1]:List (List UInt8))) (f:=eF) rfl rfl rfl rfl rfl rfl rfl<|wAp (f:=eF) h rfl rfl rfl rfl rfl rfl rfl rfl rfl (fun _=>rfl) rfl (fun e6 h=> ?_)
 exact goo 6 rfl<|wBd [.int .i64 3, .int .i64 0, .str R.1, .sl ([].map aF), .sl ([].map aE)] rfl rfl rfl rfl rfl rfl<|geo
 refine gcc 4 rfl<|cIf h rfl (fun d8 h=> ?_) (fun d8 h=> ?_)
 refine gco 3 rfl<|cS (L:=([([65]:List UInt8),([66]:List UInt8),([67]:List UInt8),([68]:List UInt8),([72]:List UInt8),([84]:List UInt8)]:List (List UInt8))) (f:=eF) rfl rfl rfl rfl rfl rfl rfl<|xC1 h (bD ·) rfl (fun T h=> ?_)
 refine goo 9 rfl<|xC0 h (mZ ·) rfl (fun d3 h=> ?_)
 refine oNl<|cIf h rfl (fun d9 h=> ?_) (fun d9 h=> ?_)
 exact cRs<|wBd [.int .i64 3, .int .i64 0, .str [95], .sl ([].map aF), .sl ([].map aE)] rfl rfl rfl rfl rfl rfl<|geo
 refine gco 8 rfl<|cS (L:=([T.1]:List (List UInt8))) (f:=eF) rfl rfl rfl rfl rfl rfl rfl<|wAp (f:=eF) h rfl rfl rfl rfl rfl rfl rfl rfl rfl (fun _=>rfl) rfl (fun e7 h=> ?_)
 exact goo 6 rfl<|wBd [.int .i64 3, .int .i64 0, .str T.1, .sl ([].map aF), .sl ([].map aE)] rfl rfl rfl rfl rfl rfl<|geo
 refine gco 4 rfl<|cS (L:=([(4:Int),(5:Int),(6:Int)]:List Int)) (f:=pX) rfl rfl rfl rfl rfl rfl rfl<|xC1 h (cL ·) rfl (fun d0 h=> ?_)
 refine wBd [.int .i64 d0.1, .int .i64 0, .str [], .sl ([].map aF), .sl ([].map aE)] rfl rfl rfl rfl rfl rfl<|xAz [.int .i64 0, .int .i64 0, .str [], .sl ([].map aF), .sl ([].map aE)] rfl<|goo 5 rfl<|xC1 h (aK ·) rfl (fun d4 h=> ?_)
 refine goc 9 rfl<|cIf h rfl (fun e0 h=> ?_) (fun e0 h=> ?_)
 refine gcc 8 rfl<|cLp h [(10,10),(59,81)] [(8,8),(1000000,1000001)] (fun(U,a0,a1,a2,a3,a4,j,l,m,H)=>([(10,I64 U)],[(8,[.int .i64 a0, .int .i64 a1, .str a2, .sl (a3.map aF), .sl (a4.map aE)]),(1000000,[.sl (j.map rI_u8), .int .i64 l, .int .i64 m]),(1000001,[.sl (H.map eF)])])) (fun(V,Y,a5,a6,a7,a8,a9,o,p,s,I)=>(.e 1,[(10,I64 V),(61,Bo Y)],[(8,[.int .i64 a5, .int .i64 a6, .str a7, .sl (a8.map aF), .sl (a9.map aE)]),(1000000,[.sl (o.map rI_u8), .int .i64 p, .int .i64 s]),(1000001,[.sl (I.map eF)])])) rfl (fun st _ h=> ?_) (fun q h=> ?_)
 obtain⟨U,a0,a1,a2,a3,a4,j,l,m,H⟩:=st; unfold mB at h; refine gcc 7 rfl<|cIf h rfl (fun e1 h=> ?_) (fun e1 h=> ?_)
 refine gcc 2 rfl<|cJn h [(64,81)] [(8,8),(1000000,1000001)] (fun(b0,b1,b2,b3,b4,t,u,v,J)=>(.n,[],[(8,[.int .i64 b0, .int .i64 b1, .str b2, .sl (b3.map aF), .sl (b4.map aE)]),(1000000,[.sl (t.map rI_u8), .int .i64 u, .int .i64 v]),(1000001,[.sl (J.map eF)])])) (fun _ h=> ?_) (fun q h=> ?_)
 refine gcc 6 rfl<|cIf h rfl (fun e2 h=> ?_) (fun e2 h=> ?_)
 refine gco 7 rfl<|xCk h (b ·) rfl (fun c h=> ?_)
 refine cS (L:=([aA.mk c.1 c.2.1 c.2.2.1 c.2.2.2.1 c.2.2.2.2.1]:List aA)) (f:=aF) rfl rfl rfl rfl (by simp only[List.map,aP]<;>rfl) rfl rfl<|wAp (f:=aF) h rfl rfl rfl rfl rfl rfl rfl rfl rfl (fun a=>by rw[aO]; rfl) rfl (fun e8 h=> ?_)
 exact geo; refine gco 3 rfl<|wBd [.int .i64 3, .int .i64 0, .str [95], .sl ([].map aF), .sl ([].map aE)] rfl rfl rfl rfl rfl rfl<|cS (L:=([aA.mk (3:Int) (0:Int) ([95]:List UInt8) ([]:List aA) ([]:List aC)]:List aA)) (f:=aF) rfl rfl rfl rfl (by simp only[List.map,aP]<;>rfl) rfl rfl<|wAp (f:=aF) h rfl rfl rfl rfl rfl rfl rfl rfl rfl (fun a=>by rw[aO]; rfl) rfl (fun f0 h=> ?_)
 exact geo; obtain⟨b0,b1,b2,b3,b4,t,u,v,J⟩:=q; exact gec; exact gec; obtain⟨V,Y,a5,a6,a7,a8,a9,o,p,s,I⟩:=q; exact gec; refine gcc 6 rfl<|cLp h [(10,10),(59,81)] [(8,8),(1000000,1000001)] (fun(W,b5,b6,b7,b8,b9,w,y,z,K)=>([(10,I64 W)],[(8,[.int .i64 b5, .int .i64 b6, .str b7, .sl (b8.map aF), .sl (b9.map aE)]),(1000000,[.sl (w.map rI_u8), .int .i64 y, .int .i64 z]),(1000001,[.sl (K.map eF)])])) (fun(X,Z,c0,c1,c2,c3,c4,A,B,C,M)=>(.e 1,[(10,I64 X),(61,Bo Z)],[(8,[.int .i64 c0, .int .i64 c1, .str c2, .sl (c3.map aF), .sl (c4.map aE)]),(1000000,[.sl (A.map rI_u8), .int .i64 B, .int .i64 C]),(1000001,[.sl (M.map eF)])])) rfl (fun st _ h=> ?_) (fun q h=> ?_)
 obtain⟨W,b5,b6,b7,b8,b9,w,y,z,K⟩:=st; unfold mA at h; refine gcc 7 rfl<|cIf h rfl (fun e3 h=> ?_) (fun e3 h=> ?_)
 refine gcc 2 rfl<|cJn h [(64,81)] [(8,8),(1000000,1000001)] (fun(c5,c6,c7,c8,c9,D,E,G,N)=>(.n,[],[(8,[.int .i64 c5, .int .i64 c6, .str c7, .sl (c8.map aF), .sl (c9.map aE)]),(1000000,[.sl (D.map rI_u8), .int .i64 E, .int .i64 G]),(1000001,[.sl (N.map eF)])])) (fun _ h=> ?_) (fun q h=> ?_)
 refine gcc 6 rfl<|cIf h rfl (fun e4 h=> ?_) (fun e4 h=> ?_)
 refine gco 7 rfl<|xCk h (b ·) rfl (fun d h=> ?_)
 refine cS (L:=([aA.mk d.1 d.2.1 d.2.2.1 d.2.2.2.1 d.2.2.2.2.1]:List aA)) (f:=aF) rfl rfl rfl rfl (by simp only[List.map,aP]<;>rfl) rfl rfl<|wAp (f:=aF) h rfl rfl rfl rfl rfl rfl rfl rfl rfl (fun a=>by rw[aO]; rfl) rfl (fun e9 h=> ?_)
 exact geo; refine gco 3 rfl<|wBd [.int .i64 3, .int .i64 0, .str [95], .sl ([].map aF), .sl ([].map aE)] rfl rfl rfl rfl rfl rfl<|cS (L:=([aA.mk (3:Int) (0:Int) ([95]:List UInt8) ([]:List aA) ([]:List aC)]:List aA)) (f:=aF) rfl rfl rfl rfl (by simp only[List.map,aP]<;>rfl) rfl rfl<|wAp (f:=aF) h rfl rfl rfl rfl rfl rfl rfl rfl rfl (fun a=>by rw[aO]; rfl) rfl (fun f1 h=> ?_)
 exact geo; obtain⟨c5,c6,c7,c8,c9,D,E,G,N⟩:=q; exact gec; exact gec; obtain⟨X,Z,c0,c1,c2,c3,c4,A,B,C,M⟩:=q; exact gec
def AN:Nat→(iV)
  | 0=>(fun _ _ _ _ _=>none)
  | n+1=>nB n (AN n)
def cK(n:Nat):iV:=AN n
theorem Cg(n:Nat):qC (cK n):=by
  induction n with
  | zero=>exact(fun h=>nomatch h)
  | succ n ih=>exact Cb (n:=n) ih
theorem mY{n:Nat}:qC (cK n):=(Cg n)
theorem zU(n:Nat):cK (n+1)=nB n (cK n):=rfl
abbrev gI:Type:=Int→Int→(List UInt8)→(List aA)→(List aC)→(List Int)→Int→Int→Option (Int×Int×(List UInt8)×(List aB)×(List Int)×Int×Int)
abbrev qB(p:gI):Prop:= ∀ {d f:Int} {g:List UInt8} {j:List aA} {l:List aC} {a:List Int} {b c:Int} {r:Int×Int×(List UInt8)×(List aB)×(List Int)×Int×Int},p d f g j l a b c=some r→Big Try.prog τ An (.fn 182 [.one (.ptr 1000000 0), .one (.ag [.int .i64 d, .int .i64 f, .str g, .sl (j.map aF), .sl (l.map aE)])] [[.sl (a.map rI_u8), .int .i64 b, .int .i64 c]] (.one (.ag [.int .i64 r.1, .int .i64 r.2.1, .str r.2.2.1, .sl (r.2.2.2.1.map aD)])) none [[.sl (r.2.2.2.2.1.map rI_u8), .int .i64 r.2.2.2.2.2.1, .int .i64 r.2.2.2.2.2.2]] none)
def lZ(n:Nat)(m:gI)(C:Int)(s:List aA):(Int×Int×Int×(List UInt8)×(List aB)×Int×Int×(List UInt8)×(List aB)×(List Int)×Int×Int)→Option ((Int×Int×Int×(List UInt8)×(List aB)×Int×Int×(List UInt8)×(List aB)×(List Int)×Int×Int)⊕((Int×Int×(List UInt8)×(List aB)×(List Int)×Int×Int)⊕(Int×Bool×Int×Int×(List UInt8)×(List aB)×Int×Int×(List UInt8)×(List aB)×(List Int)×Int×Int)))
  | (o,y,z,A,B,p,g,j,l,c,d,f)=>bif decide (o<(s.length:Int))then(ix s o).bind fun b=>(m b.f0 b.f1 b.f2 b.f3 b.f4 c d f).bind fun a=>(bif decide (C=(6:Int))then some (decide (o=(IntKind.wrap .i64 ((s.length:Int) - (1:Int)))))else some false).bind fun t=>bif t then bif !decide (a.1=(5:Int))then(fE 56 l ([]:List aB)).bind fun u=>some (.inr (.inl (p,g,j,u,a.2.2.2.2.1,a.2.2.2.2.2.1,a.2.2.2.2.2.2)))else(fE 56 l a.2.2.2.1).bind fun v=>some (.inr (.inl (p,g,j,v,a.2.2.2.2.1,a.2.2.2.2.2.1,a.2.2.2.2.2.2)))else(fE 56 l ([aB.mk a.1 a.2.1 a.2.2.1 a.2.2.2.1]:List aB)).bind fun w=>some (.inl ((IntKind.wrap .i64 (o+(1:Int))),y,z,A,B,p,g,j,w,a.2.2.2.2.1,a.2.2.2.2.2.1,a.2.2.2.2.2.2))else some (.inr (.inr (o,false,y,z,A,B,p,g,j,l,c,d,f)))
def lY(n:Nat)(p:gI)(C:Int)(s:List aA):(Int×Int×Int×(List UInt8)×(List aB)×Int×Int×(List UInt8)×(List aB)×(List Int)×Int×Int)→Option ((Int×Int×Int×(List UInt8)×(List aB)×Int×Int×(List UInt8)×(List aB)×(List Int)×Int×Int)⊕((Int×Int×(List UInt8)×(List aB)×(List Int)×Int×Int)⊕(Int×Bool×Int×Int×(List UInt8)×(List aB)×Int×Int×(List UInt8)×(List aB)×(List Int)×Int×Int)))
  | (g,t,u,v,w,j,l,m,o,c,d,f)=>bif decide (g<(s.length:Int))then(ix s g).bind fun b=>(p b.f0 b.f1 b.f2 b.f3 b.f4 c d f).bind fun a=>(bif decide (C=(6:Int))then some (decide (g=(IntKind.wrap .i64 ((s.length:Int) - (1:Int)))))else some false).bind fun y=>bif y then bif !decide (a.1=(5:Int))then(fE 56 o ([]:List aB)).bind fun z=>some (.inr (.inl (j,l,m,z,a.2.2.2.2.1,a.2.2.2.2.2.1,a.2.2.2.2.2.2)))else(fE 56 o a.2.2.2.1).bind fun A=>some (.inr (.inl (j,l,m,A,a.2.2.2.2.1,a.2.2.2.2.2.1,a.2.2.2.2.2.2)))else(fE 56 o ([aB.mk a.1 a.2.1 a.2.2.1 a.2.2.2.1]:List aB)).bind fun B=>some (.inl ((IntKind.wrap .i64 (g+(1:Int))),t,u,v,w,j,l,m,B,a.2.2.2.2.1,a.2.2.2.2.2.1,a.2.2.2.2.2.2))else some (.inr (.inr (g,false,t,u,v,w,j,l,m,o,c,d,f)))
def lX(n:Nat)(p:gI)(s:List aA):(Int×Int×Int×(List UInt8)×(List aB)×Int×Int×(List UInt8)×(List aB)×(List Int)×Int×Int)→Option ((Int×Int×Int×(List UInt8)×(List aB)×Int×Int×(List UInt8)×(List aB)×(List Int)×Int×Int)⊕((Int×Int×(List UInt8)×(List aB)×(List Int)×Int×Int)⊕(Int×Bool×Int×Int×(List UInt8)×(List aB)×Int×Int×(List UInt8)×(List aB)×(List Int)×Int×Int)))
  | (g,t,u,v,w,j,l,m,o,f,c,d)=>bif decide (g<(s.length:Int))then(ix s g).bind fun b=>(p b.f0 b.f1 b.f2 b.f3 b.f4 f c d).bind fun a=>bif decide (g=(IntKind.wrap .i64 ((s.length:Int) - (1:Int))))then bif !decide (a.1=(5:Int))then(fE 56 o ([]:List aB)).bind fun y=>some (.inr (.inl (j,l,m,y,a.2.2.2.2.1,a.2.2.2.2.2.1,a.2.2.2.2.2.2)))else(fE 56 o a.2.2.2.1).bind fun z=>some (.inr (.inl (j,l,m,z,a.2.2.2.2.1,a.2.2.2.2.2.1,a.2.2.2.2.2.2)))else(fE 56 o ([aB.mk a.1 a.2.1 a.2.2.1 a.2.2.2.1]:List aB)).bind fun A=>some (.inl ((IntKind.wrap .i64 (g+(1:Int))),t,u,v,w,j,l,m,A,a.2.2.2.2.1,a.2.2.2.2.2.1,a.2.2.2.2.2.2))else some (.inr (.inr (g,false,t,u,v,w,j,l,m,o,f,c,d)))
def nA(n:Nat)(b:gI)(c:Int)(a9:Int)(b0:List UInt8)(H:List aA)(c9:List aC)(d:List Int)(f:Int)(g:Int):Option (Int×Int×(List UInt8)×(List aB)×(List Int)×Int×Int):=
  bif decide (c=(1:Int))then some ((1:Int),a9,([]:List UInt8),([]:List aB),d,f,g)else bif decide (c=(2:Int))then some ((2:Int),(0:Int),b0,([]:List aB),d,f,g)else bif decide (c=(4:Int))then(loopN (lZ n b c H) n ((0:Int),(0:Int),(0:Int),([]:List UInt8),([]:List aB),(4:Int),(0:Int),([]:List UInt8),([]:List aB),d,f,g)).bind fun q=>(match q with | .inl (T,U,V,W,t,u,v)=>some (T,U,V,W,t,u,v) | .inr (b9,b2,c1,c2,c3,c4,a1,a2,a3,a4,w,y,z)=>some (a1,a2,a3,a4,w,y,z))else bif decide (c=(5:Int))then(loopN (lY n b c H) n ((0:Int),(0:Int),(0:Int),([]:List UInt8),([]:List aB),(5:Int),(0:Int),([]:List UInt8),([]:List aB),d,f,g)).bind fun q=>(match q with | .inl (X,Y,Z,a0,A,B,C)=>some (X,Y,Z,a0,A,B,C) | .inr (c0,b3,c5,c6,c7,c8,a5,a6,a7,a8,D,E,G)=>some (a5,a6,a7,a8,D,E,G))else bif decide (c=(6:Int))then(loopN (lX n b H) n ((0:Int),(0:Int),(0:Int),([]:List UInt8),([]:List aB),(5:Int),(0:Int),([]:List UInt8),([]:List aB),d,f,g)).bind fun q=>(match q with | .inl (I,J,K,L,j,l,m)=>some (I,J,K,L,j,l,m) | .inr (b4,b1,b5,b6,b7,b8,M,N,Q,R,o,p,s)=>some (M,N,Q,R,o,p,s))else(gO n (1:Int) d f g).bind fun a=>some (a.1,a.2.1,a.2.2.1,a.2.2.2.1,a.2.2.2.2.1,a.2.2.2.2.2.1,a.2.2.2.2.2.2)
theorem Ca{n:Nat}{c:gI}(b:qB c):qB (nA n c):=by
 intro k0 h1 h2 k1 k2 j5 j6 j7 r h; unfold nA at h; refine bF Try.func182 rfl rfl<|gco 3 rfl<|xAz [.int .i64 0, .int .i64 0, .str [], .sl ([].map aD)] rfl<|goc 13 rfl<|cIf h rfl (fun q1 h=> ?_) (fun q1 h=> ?_)
 exact gco 4 rfl<|wBd [.int .i64 1, .int .i64 h1, .str [], .sl ([].map aD)] rfl rfl rfl rfl rfl rfl<|geo
 refine gcc 5 rfl<|cIf h rfl (fun q2 h=> ?_) (fun q2 h=> ?_)
 exact gco 4 rfl<|wBd [.int .i64 2, .int .i64 0, .str h2, .sl ([].map aD)] rfl rfl rfl rfl rfl rfl<|geo
 refine gcc 6 rfl<|cIf h rfl (fun q3 h=> ?_) (fun q3 h=> ?_)
 refine gco 4 rfl<|wBd [.int .i64 5, .int .i64 0, .str [], .sl ([].map aD)] rfl rfl rfl rfl rfl rfl<|xAz [.int .i64 0, .int .i64 0, .str [], .sl ([].map aD)] rfl<|goc 9 rfl<|cSu 27 q3 rfl<|gcc 10 rfl<|cLp h [(4,4),(6,7),(29,70)] [(4,5),(7,7),(1000000,1000000)] (fun(g0,g1,g2,g3,g4,g5,e1,e2,e3,u,v,w)=>([(4,Pt 4),(6,I64 g0)],[(4,[.int .i64 g1, .int .i64 g2, .str g3, .sl (g4.map aD)]),(5,[.int .i64 g5, .int .i64 e1, .str e2, .sl (e3.map aD)]),(1000000,[.sl (u.map rI_u8), .int .i64 v, .int .i64 w])])) (fun q=>match q with | .inl (b7,b8,b9,c0,y,z,A)=>(.r,[(4,Pt 4)],[(4,[.int .i64 b7, .int .i64 b8, .str b9, .sl (c0.map aD)]),(1000000,[.sl (y.map rI_u8), .int .i64 z, .int .i64 A])]) | .inr (b3,W,c1,c2,c3,c4,e4,e5,e6,e7,B,C,D)=>(.e 1,[(4,Pt 4),(6,I64 b3),(33,Bo W)],[(4,[.int .i64 c1, .int .i64 c2, .str c3, .sl (c4.map aD)]),(5,[.int .i64 e4, .int .i64 e5, .str e6, .sl (e7.map aD)]),(1000000,[.sl (B.map rI_u8), .int .i64 C, .int .i64 D])])) rfl (fun st _ h=> ?_) (fun q h=> ?_)
 obtain⟨g0,g1,g2,g3,g4,g5,e1,e2,e3,u,v,w⟩:=st; unfold lZ at h; refine gco 6 rfl<|xLn rfl<|goc 2 rfl<|cIf h rfl (fun i0 h=> ?_) (fun i0 h=> ?_)
 refine gco 9 rfl<|xIx h aO rfl (fun h8 h=> ?_)
 refine xLd rfl<|xC1 h (b ·) rfl (fun T h=> ?_)
 refine xAz [.int .i64 0, .int .i64 0, .str [], .sl ([].map aD)] rfl<|goo 5 rfl<|oJn h [(43,53)] [] (fun Y=>(.n,[(53,Bo Y)],[])) (fun _ h=> ?_) (fun Y h=> ?_)
 refine goo 4 rfl<|oIf 46 h rfl (fun i1 h=> ?_) (fun i1 h=> ?_)
 exact goo 3 rfl<|xLn rfl<|geo
 exact geo; refine cIf h rfl (fun i2 h=> ?_) (fun i2 h=> ?_)
 refine gcc 7 rfl<|cIf h rfl (fun i3 h=> ?_) (fun i3 h=> ?_)
 refine cRg<|wBd [.int .i64 5, .int .i64 0, .str [], .sl ([].map aD)] rfl rfl rfl rfl rfl rfl<|goo 8 rfl<|wAp (f:=aD) h rfl rfl rfl rfl rfl rfl rfl rfl rfl (fun a=>by rw[aN]; rfl) rfl (fun i9 h=> ?_)
 exact geo; refine gco 7 rfl<|wAp (f:=aD) h rfl rfl rfl rfl rfl rfl rfl rfl rfl (fun a=>by rw[aN]; rfl) rfl (fun j0 h=> ?_)
 exact geo; refine gco 5 rfl<|cS (L:=([aB.mk T.1 T.2.1 T.2.2.1 T.2.2.2.1]:List aB)) (f:=aD) rfl rfl rfl rfl (by simp only[List.map,bY]<;>rfl) rfl rfl<|wAp (f:=aD) h rfl rfl rfl rfl rfl rfl rfl rfl rfl (fun a=>by rw[aN]; rfl) rfl (fun j3 h=> ?_)
 exact geo; exact gec; rcases q with⟨b7,b8,b9,c0,y,z,A⟩ | ⟨b3,W,c1,c2,c3,c4,e4,e5,e6,e7,B,C,D⟩; exact en; exact gec; refine gcc 5 rfl<|cIf h rfl (fun i4 h=> ?_) (fun i4 h=> ?_)
 refine gco 4 rfl<|wBd [.int .i64 5, .int .i64 0, .str [], .sl ([].map aD)] rfl rfl rfl rfl rfl rfl<|xAz [.int .i64 0, .int .i64 0, .str [], .sl ([].map aD)] rfl<|goc 9 rfl<|cSu 27 q3 rfl<|gcc 7 rfl<|cLp h [(4,4),(6,7),(29,70)] [(4,5),(7,7),(1000000,1000000)] (fun(b4,c5,c6,c7,c8,e8,e9,f0,f1,E,G,H)=>([(4,Pt 4),(6,I64 b4)],[(4,[.int .i64 c5, .int .i64 c6, .str c7, .sl (c8.map aD)]),(5,[.int .i64 e8, .int .i64 e9, .str f0, .sl (f1.map aD)]),(1000000,[.sl (E.map rI_u8), .int .i64 G, .int .i64 H])])) (fun q=>match q with | .inl (c9,d0,d1,d2,I,J,K)=>(.r,[(4,Pt 4)],[(4,[.int .i64 c9, .int .i64 d0, .str d1, .sl (d2.map aD)]),(1000000,[.sl (I.map rI_u8), .int .i64 J, .int .i64 K])]) | .inr (b5,X,d3,d4,d5,d6,f2,f3,f4,f5,M,N,Q)=>(.e 1,[(4,Pt 4),(6,I64 b5),(33,Bo X)],[(4,[.int .i64 d3, .int .i64 d4, .str d5, .sl (d6.map aD)]),(5,[.int .i64 f2, .int .i64 f3, .str f4, .sl (f5.map aD)]),(1000000,[.sl (M.map rI_u8), .int .i64 N, .int .i64 Q])])) rfl (fun st _ h=> ?_) (fun q h=> ?_)
 obtain⟨b4,c5,c6,c7,c8,e8,e9,f0,f1,E,G,H⟩:=st; unfold lY at h; refine gco 6 rfl<|xLn rfl<|goc 2 rfl<|cIf h rfl (fun i5 h=> ?_) (fun i5 h=> ?_)
 refine gco 9 rfl<|xIx h aO rfl (fun h9 h=> ?_)
 refine xLd rfl<|xC1 h (b ·) rfl (fun U h=> ?_)
 refine xAz [.int .i64 0, .int .i64 0, .str [], .sl ([].map aD)] rfl<|goo 5 rfl<|oJn h [(43,53)] [] (fun Z=>(.n,[(53,Bo Z)],[])) (fun _ h=> ?_) (fun Z h=> ?_)
 refine goo 4 rfl<|oIf 46 h rfl (fun i6 h=> ?_) (fun i6 h=> ?_)
 exact goo 3 rfl<|xLn rfl<|geo
 exact geo; refine cIf h rfl (fun i7 h=> ?_) (fun i7 h=> ?_)
 refine gcc 7 rfl<|cIf h rfl (fun i8 h=> ?_) (fun i8 h=> ?_)
 refine cRg<|wBd [.int .i64 5, .int .i64 0, .str [], .sl ([].map aD)] rfl rfl rfl rfl rfl rfl<|goo 8 rfl<|wAp (f:=aD) h rfl rfl rfl rfl rfl rfl rfl rfl rfl (fun a=>by rw[aN]; rfl) rfl (fun j1 h=> ?_)
 exact geo; refine gco 7 rfl<|wAp (f:=aD) h rfl rfl rfl rfl rfl rfl rfl rfl rfl (fun a=>by rw[aN]; rfl) rfl (fun j2 h=> ?_)
 exact geo; refine gco 5 rfl<|cS (L:=([aB.mk U.1 U.2.1 U.2.2.1 U.2.2.2.1]:List aB)) (f:=aD) rfl rfl rfl rfl (by simp only[List.map,bY]<;>rfl) rfl rfl<|wAp (f:=aD) h rfl rfl rfl rfl rfl rfl rfl rfl rfl (fun a=>by rw[aN]; rfl) rfl (fun j4 h=> ?_)
 exact geo; exact gec; rcases q with⟨c9,d0,d1,d2,I,J,K⟩ | ⟨b5,X,d3,d4,d5,d6,f2,f3,f4,f5,M,N,Q⟩; exact en; exact gec; refine gcc 4 rfl<|cIf h rfl (fun g7 h=> ?_) (fun g7 h=> ?_)
 refine cRs<|wBd [.int .i64 5, .int .i64 0, .str [], .sl ([].map aD)] rfl rfl rfl rfl rfl rfl<|xAz [.int .i64 0, .int .i64 0, .str [], .sl ([].map aD)] rfl<|goc 9 rfl<|cSu 27 q3 rfl<|gcc 7 rfl<|cLp h [(4,4),(6,7),(29,70)] [(4,5),(7,7),(1000000,1000000)] (fun(b6,d7,d8,d9,e0,f6,f7,f8,f9,R,d,g)=>([(4,Pt 4),(6,I64 b6)],[(4,[.int .i64 d7, .int .i64 d8, .str d9, .sl (e0.map aD)]),(5,[.int .i64 f6, .int .i64 f7, .str f8, .sl (f9.map aD)]),(1000000,[.sl (R.map rI_u8), .int .i64 d, .int .i64 g])])) (fun q=>match q with | .inl (a1,a2,a3,a4,j,l,m)=>(.r,[(4,Pt 4)],[(4,[.int .i64 a1, .int .i64 a2, .str a3, .sl (a4.map aD)]),(1000000,[.sl (j.map rI_u8), .int .i64 l, .int .i64 m])]) | .inr (a0,V,a5,a6,a7,a8,a9,b0,b1,b2,o,p,s)=>(.e 1,[(4,Pt 4),(6,I64 a0),(33,Bo V)],[(4,[.int .i64 a5, .int .i64 a6, .str a7, .sl (a8.map aD)]),(5,[.int .i64 a9, .int .i64 b0, .str b1, .sl (b2.map aD)]),(1000000,[.sl (o.map rI_u8), .int .i64 p, .int .i64 s])])) rfl (fun st _ h=> ?_) (fun q h=> ?_)
 obtain⟨b6,d7,d8,d9,e0,f6,f7,f8,f9,R,d,g⟩:=st; unfold lX at h; refine gco 6 rfl<|xLn rfl<|goc 2 rfl<|cIf h rfl (fun g8 h=> ?_) (fun g8 h=> ?_)
 refine gco 9 rfl<|xIx h aO rfl (fun h4 h=> ?_)
 refine xLd rfl<|xC1 h (b ·) rfl (fun t h=> ?_)
 refine xAz [.int .i64 0, .int .i64 0, .str [], .sl ([].map aD)] rfl<|goo 9 rfl<|oSu 46 g7 rfl<|goo 3 rfl<|xLn rfl<|goc 4 rfl<|cIf h rfl (fun g9 h=> ?_) (fun g9 h=> ?_)
 refine gcc 7 rfl<|cIf h rfl (fun h0 h=> ?_) (fun h0 h=> ?_)
 refine cRg<|wBd [.int .i64 5, .int .i64 0, .str [], .sl ([].map aD)] rfl rfl rfl rfl rfl rfl<|goo 8 rfl<|wAp (f:=aD) h rfl rfl rfl rfl rfl rfl rfl rfl rfl (fun a=>by rw[aN]; rfl) rfl (fun h5 h=> ?_)
 exact geo; refine gco 7 rfl<|wAp (f:=aD) h rfl rfl rfl rfl rfl rfl rfl rfl rfl (fun a=>by rw[aN]; rfl) rfl (fun h6 h=> ?_)
 exact geo; refine gco 5 rfl<|cS (L:=([aB.mk t.1 t.2.1 t.2.2.1 t.2.2.2.1]:List aB)) (f:=aD) rfl rfl rfl rfl (by simp only[List.map,bY]<;>rfl) rfl rfl<|wAp (f:=aD) h rfl rfl rfl rfl rfl rfl rfl rfl rfl (fun a=>by rw[aN]; rfl) rfl (fun h7 h=> ?_)
 exact geo; exact gec; rcases q with⟨a1,a2,a3,a4,j,l,m⟩ | ⟨a0,V,a5,a6,a7,a8,a9,b0,b1,b2,o,p,s⟩; exact en; exact gec; refine gco 4 rfl<|xC1 h (tO ·) rfl (fun h3 h=> ?_)
 exact geo
def AM:Nat→(gI)
  | 0=>(fun _ _ _ _ _ _ _ _=>none)
  | n+1=>nA n (AM n)
def cP(n:Nat):gI:=AM n
theorem Ce(n:Nat):qB (cP n):=by
  induction n with
  | zero=>exact(fun h=>nomatch h)
  | succ n ih=>exact Ca (n:=n) ih
theorem Dc{n:Nat}:qB (cP n):=(Ce n)
theorem zT(n:Nat):cP (n+1)=nA n (cP n):=rfl
abbrev gV:Type:=Int→Int→(List UInt8)→(List aA)→(List aC)→Option (Int×Int×(List UInt8)×(List aA)×(List aC))
abbrev oC(p:gV):Prop:= ∀ {a b:Int} {c:List UInt8} {d:List aA} {f:List aC} {r:Int×Int×(List UInt8)×(List aA)×(List aC)},p a b c d f=some r→Big Try.prog τ An (.fn 219 [.one (.ag [.int .i64 a, .int .i64 b, .str c, .sl (d.map aF), .sl (f.map aE)])] [] (.one (.ag [.int .i64 r.1, .int .i64 r.2.1, .str r.2.2.1, .sl (r.2.2.2.1.map aF), .sl (r.2.2.2.2.map aE)])) none [] none)
def iE(n:Nat)(c:gV)(f:List aA):(Int×Int×Int×(List UInt8)×(List aA)×(List aC))→Option ((Int×Int×Int×(List UInt8)×(List aA)×(List aC))⊕((Int×Bool×Int×Int×(List UInt8)×(List aA)×(List aC))))
  | (d,j,l,m,o,p)=>bif decide (d<(f.length:Int))then(ix f d).bind fun b=>(c b.f0 b.f1 b.f2 b.f3 b.f4).bind fun a=>(fE 80 o ([aA.mk a.1 a.2.1 a.2.2.1 a.2.2.2.1 a.2.2.2.2]:List aA)).bind fun g=>some (.inl ((IntKind.wrap .i64 (d+(1:Int))),j,l,m,g,p))else some (.inr (d,false,j,l,m,o,p))
def iD(n:Nat)(a:gV)(j:List aC):(Int×Int×Int×(List UInt8)×(List aA)×(List aC))→Option ((Int×Int×Int×(List UInt8)×(List aA)×(List aC))⊕((Int×Bool×Int×Int×(List UInt8)×(List aA)×(List aC))))
  | (g,l,m,o,p,s)=>bif decide (g<(j.length:Int))then(ix j g).bind fun d=>(a d.f0 d.f1 d.f2 d.f3 d.f4).bind fun b=>(ix j g).bind fun f=>(a f.f5 f.f6 f.f7 f.f8 f.f9).bind fun c=>(fE 160 s ([aC.mk b.1 b.2.1 b.2.2.1 b.2.2.2.1 b.2.2.2.2 c.1 c.2.1 c.2.2.1 c.2.2.2.1 c.2.2.2.2]:List aC)).bind fun t=>some (.inl ((IntKind.wrap .i64 (g+(1:Int))),l,m,o,p,t))else some (.inr (g,false,l,m,o,p,s))
def lL(n:Nat)(a:gV)(p:Int)(s:Int)(t:List UInt8)(u:List aA)(v:List aC):Option (Int×Int×(List UInt8)×(List aA)×(List aC)):=
  (loopN (iE n a u) n ((0:Int),p,s,t,([]:List aA),([]:List aC))).bind fun(B,z,w,b,c,d,f)=>(loopN (iD n a v) n ((0:Int),w,b,c,d,f)).bind fun(A,y,g,j,l,m,o)=>some (g,j,l,m,o)
theorem Aq{n:Nat}{g:gV}(d:oC g):oC (lL n g):=by
 intro a1 a2 a3 a4 a5 r h; unfold lL at h; refine bF Try.func219 rfl rfl<|gco 3 rfl<|xAz [.int .i64 0, .int .i64 0, .str [], .sl ([].map aF), .sl ([].map aE)] rfl<|goo 4 rfl<|xAz [.int .i64 0, .int .i64 0, .str [], .sl ([].map aF), .sl ([].map aE)] rfl<|goo 4 rfl<|cS (L:=([]:List aA)) (f:=aF) rfl rfl rfl rfl rfl rfl rfl<|goo 5 rfl<|cS (L:=([]:List aC)) (f:=aE) rfl rfl rfl rfl rfl rfl rfl<|goc 8 rfl<|cLp h [(4,4),(11,28)] [(3,3)] (fun(I,K,M,N,Q,R)=>([(4,I64 I)],[(3,[.int .i64 K, .int .i64 M, .str N, .sl (Q.map aF), .sl (R.map aE)])])) (fun(J,m,T,s,t,u,v)=>(.e 0,[(4,I64 J),(15,Bo m)],[(3,[.int .i64 T, .int .i64 s, .str t, .sl (u.map aF), .sl (v.map aE)])])) rfl (fun st _ h=> ?_) (fun q h=> ?_)
 obtain⟨I,K,M,N,Q,R⟩:=st; unfold iE at h; refine gco 6 rfl<|xLn rfl<|goc 2 rfl<|cIf h rfl (fun X h=> ?_) (fun X h=> ?_)
 refine gco 9 rfl<|xIx h aO rfl (fun U h=> ?_)
 refine xLd rfl<|xC0 h (d ·) rfl (fun j h=> ?_)
 refine cS (L:=([aA.mk j.1 j.2.1 j.2.2.1 j.2.2.2.1 j.2.2.2.2]:List aA)) (f:=aF) rfl rfl rfl rfl (by simp only[List.map,aP]<;>rfl) rfl rfl<|wAp (f:=aF) h rfl rfl rfl rfl rfl rfl rfl rfl rfl (fun a=>by rw[aO]; rfl) rfl (fun Z h=> ?_)
 exact geo; exact gec; obtain⟨J,m,T,s,t,u,v⟩:=q; refine gcc 5 rfl<|cLp h [(5,5),(29,55)] [(3,3)] (fun(o,w,y,z,A,B)=>([(5,I64 o)],[(3,[.int .i64 w, .int .i64 y, .str z, .sl (A.map aF), .sl (B.map aE)])])) (fun(p,l,C,D,E,G,H)=>(.e 2,[(5,I64 p),(33,Bo l)],[(3,[.int .i64 C, .int .i64 D, .str E, .sl (G.map aF), .sl (H.map aE)])])) rfl (fun st _ h=> ?_) (fun q h=> ?_)
 obtain⟨o,w,y,z,A,B⟩:=st; unfold iD at h; refine gco 6 rfl<|xLn rfl<|goc 2 rfl<|cIf h rfl (fun Y h=> ?_) (fun Y h=> ?_)
 refine gco 9 rfl<|xIx h aX rfl (fun V h=> ?_)
 refine goo 2 rfl<|xC0 h (d ·) rfl (fun b h=> ?_)
 refine goo 3 rfl<|xIx h aX rfl (fun W h=> ?_)
 refine goo 2 rfl<|xC0 h (d ·) rfl (fun c h=> ?_)
 refine wBd [.int .i64 b.1, .int .i64 b.2.1, .str b.2.2.1, .sl (b.2.2.2.1.map aF), .sl (b.2.2.2.2.map aE), .int .i64 c.1, .int .i64 c.2.1, .str c.2.2.1, .sl (c.2.2.2.1.map aF), .sl (c.2.2.2.2.map aE)] rfl rfl rfl rfl rfl rfl<|cS (L:=([aC.mk b.1 b.2.1 b.2.2.1 b.2.2.2.1 b.2.2.2.2 c.1 c.2.1 c.2.2.1 c.2.2.2.1 c.2.2.2.2]:List aC)) (f:=aE) rfl rfl rfl rfl (by simp only[List.map,dJ]<;>rfl) rfl rfl<|wAp (f:=aE) h rfl rfl rfl rfl rfl rfl rfl rfl rfl (fun a=>by rw[aX]; rfl) rfl (fun a0 h=> ?_)
 exact geo; exact gec; obtain⟨p,l,C,D,E,G,H⟩:=q; exact gec
def xP:Nat→(gV)
  | 0=>(fun _ _ _ _ _=>none)
  | n+1=>lL n (xP n)
def cE(n:Nat):gV:=xP n
theorem Az(n:Nat):oC (cE n):=by
  induction n with
  | zero=>exact(fun h=>nomatch h)
  | succ n ih=>exact Aq (n:=n) ih
theorem oY{n:Nat}:oC (cE n):=(Az n)
theorem yN(n:Nat):cE (n+1)=lL n (cE n):=rfl
abbrev Fn(p:Int→Int→(List UInt8)→(List aA)→(List aC)→(List Int)→Int→Int→Option (Int×Int×(List UInt8)×(List aA)×(List aC)×(List Int)×Int×Int)):Prop:= ∀ {d f:Int} {g:List UInt8} {j:List aA} {l:List aC} {a:List Int} {b c:Int} {r:Int×Int×(List UInt8)×(List aA)×(List aC)×(List Int)×Int×Int},p d f g j l a b c=some r→Big Try.prog τ An (.fn 254 [.one (.ptr 1000000 0), .one (.ag [.int .i64 d, .int .i64 f, .str g, .sl (j.map aF), .sl (l.map aE)])] [[.sl (a.map rI_u8), .int .i64 b, .int .i64 c]] (.one (.ag [.int .i64 r.1, .int .i64 r.2.1, .str r.2.2.1, .sl (r.2.2.2.1.map aF), .sl (r.2.2.2.2.1.map aE)])) none [[.sl (r.2.2.2.2.2.1.map rI_u8), .int .i64 r.2.2.2.2.2.2.1, .int .i64 r.2.2.2.2.2.2.2]] none)
def nP(n:Nat):(Int×Int×Int×(List UInt8)×(List aA)×(List aC))→Option ((Int×Int×Int×(List UInt8)×(List aA)×(List aC))⊕((Int×Bool×Int×Int×(List UInt8)×(List aA)×(List aC))))
  | (a,b,c,d,f,g)=>bif decide (a<(9:Int))then some (.inl ((IntKind.wrap .i64 (a+(1:Int))),(4:Int),(0:Int),([]:List UInt8),([aA.mk b c d f g]:List aA),([]:List aC)))else some (.inr (a,false,b,c,d,f,g))
def jK(n:Nat)(C:Int)(D:Int)(E:List UInt8)(G:List aA)(H:List aC)(z:List Int)(A:Int)(B:Int):Option (Int×Int×(List UInt8)×(List aA)×(List aC)×(List Int)×Int×Int):=
  (cE n C D E G H).bind fun a=>(aJ n (8:Int) z A B).bind fun b=>bif decide (b.1=(0:Int))then(aJ n (11:Int) b.2.1 b.2.2.1 b.2.2.2).bind fun j=>some (j.1,a.2.1,a.2.2.1,a.2.2.2.1,a.2.2.2.2,j.2.1,j.2.2.1,j.2.2.2)else bif decide (b.1=(1:Int))then(bO n ([((-1):Int),(1000000000001:Int),(3:Int)]:List Int) b.2.1 b.2.2.1 b.2.2.2).bind fun l=>some (a.1,l.1,a.2.2.1,a.2.2.2.1,a.2.2.2.2,l.2.1,l.2.2.1,l.2.2.2)else bif decide (b.1=(2:Int))then(aV n ([([]:List UInt8),([65]:List UInt8),([120]:List UInt8),([99,97,115,101]:List UInt8),([95]:List UInt8),([61,61]:List UInt8)]:List (List UInt8)) b.2.1 b.2.2.1 b.2.2.2).bind fun m=>some (a.1,a.2.1,m.1,a.2.2.2.1,a.2.2.2.2,m.2.1,m.2.2.1,m.2.2.2)else bif decide (b.1=(3:Int))then(bN n (4:Int)).bind fun c=>(fE 80 a.2.2.2.1 ([aA.mk c.1 c.2.1 c.2.2.1 c.2.2.2.1 c.2.2.2.2]:List aA)).bind fun o=>some (a.1,a.2.1,a.2.2.1,o,a.2.2.2.2,b.2.1,b.2.2.1,b.2.2.2)else bif decide (b.1=(4:Int))then(cE n a.1 a.2.1 a.2.2.1 a.2.2.2.1 a.2.2.2.2).bind fun d=>(bN n (1:Int)).bind fun f=>(fE 160 a.2.2.2.2 ([aC.mk f.1 f.2.1 f.2.2.1 f.2.2.2.1 f.2.2.2.2 d.1 d.2.1 d.2.2.1 d.2.2.2.1 d.2.2.2.2]:List aC)).bind fun p=>some (a.1,a.2.1,a.2.2.1,a.2.2.2.1,p,b.2.1,b.2.2.1,b.2.2.2)else bif decide (b.1=(5:Int))then(loopN (nP n) n ((0:Int),a.1,a.2.1,a.2.2.1,a.2.2.2.1,a.2.2.2.2)).bind fun(J,I,t,u,v,w,y)=>some (t,u,v,w,y,b.2.1,b.2.2.1,b.2.2.2)else bif decide (b.1=(6:Int))then bif decide ((0:Int)<(a.2.2.2.2.length:Int))then(ix a.2.2.2.2 (0:Int)).bind fun g=>(some (a.2.2.2.2.set (Int.toNat (0:Int)) (aC.mk (4:Int) (0:Int) ([]:List UInt8) ([aA.mk (3:Int) (0:Int) ([65]:List UInt8) ([]:List aA) ([]:List aC),aA.mk (3:Int) (0:Int) ([65]:List UInt8) ([]:List aA) ([]:List aC)]:List aA) ([]:List aC) g.f5 g.f6 g.f7 g.f8 g.f9))).bind fun s=>some (a.1,a.2.1,a.2.2.1,a.2.2.2.1,s,b.2.1,b.2.2.1,b.2.2.2)else some (a.1,a.2.1,a.2.2.1,a.2.2.2.1,a.2.2.2.2,b.2.1,b.2.2.1,b.2.2.2)else some (a.1,a.2.1,a.2.2.1,a.2.2.2.1,a.2.2.2.2,b.2.1,b.2.2.1,b.2.2.2)
theorem tM{n:Nat}:Fn (jK n):=by
 intro a0 a1 a2 a3 a4 T U V r h; unfold jK at h; refine bF Try.func254 rfl rfl<|gco 3 rfl<|xAz [.int .i64 0, .int .i64 0, .str [], .sl ([].map aF), .sl ([].map aE)] rfl<|goo 4 rfl<|xC0 h (oY ·) rfl (fun R h=> ?_)
 refine goo 6 rfl<|xC1 h (aK ·) rfl (fun J h=> ?_)
 refine goc 7 rfl<|cIf h rfl (fun W h=> ?_) (fun W h=> ?_)
 refine gco 2 rfl<|xC1 h (aK ·) rfl (fun K h=> ?_)
 exact geo; refine gcc 5 rfl<|cIf h rfl (fun X h=> ?_) (fun X h=> ?_)
 refine gco 2 rfl<|cS (L:=([((-1):Int),(1000000000001:Int),(3:Int)]:List Int)) (f:=pX) rfl rfl rfl rfl rfl rfl rfl<|xC1 h (cL ·) rfl (fun M h=> ?_)
 exact geo; refine gcc 5 rfl<|cIf h rfl (fun Y h=> ?_) (fun Y h=> ?_)
 refine gco 2 rfl<|cS (L:=([([]:List UInt8),([65]:List UInt8),([120]:List UInt8),([99,97,115,101]:List UInt8),([95]:List UInt8),([61,61]:List UInt8)]:List (List UInt8))) (f:=eF) rfl rfl rfl rfl rfl rfl rfl<|xC1 h (bD ·) rfl (fun N h=> ?_)
 exact geo; refine gcc 5 rfl<|cIf h rfl (fun Z h=> ?_) (fun Z h=> ?_)
 refine gco 3 rfl<|xC0 h (cA ·) rfl (fun d h=> ?_)
 refine cS (L:=([aA.mk d.1 d.2.1 d.2.2.1 d.2.2.2.1 d.2.2.2.2]:List aA)) (f:=aF) rfl rfl rfl rfl (by simp only[List.map,aP]<;>rfl) rfl rfl<|wAp (f:=aF) h rfl rfl rfl rfl rfl rfl rfl rfl rfl (fun a=>by rw[aO]; rfl) rfl (fun H h=> ?_)
 exact geo; refine gcc 5 rfl<|cIf h rfl (fun B h=> ?_) (fun B h=> ?_)
 refine gco 3 rfl<|xC0 h (oY ·) rfl (fun b h=> ?_)
 refine xAz [.int .i64 0, .int .i64 0, .str [], .sl ([].map aF), .sl ([].map aE)] rfl<|goo 5 rfl<|xC0 h (cA ·) rfl (fun c h=> ?_)
 refine xLd rfl<|wBd [.int .i64 c.1, .int .i64 c.2.1, .str c.2.2.1, .sl (c.2.2.2.1.map aF), .sl (c.2.2.2.2.map aE), .int .i64 b.1, .int .i64 b.2.1, .str b.2.2.1, .sl (b.2.2.2.1.map aF), .sl (b.2.2.2.2.map aE)] rfl rfl rfl rfl rfl rfl<|cS (L:=([aC.mk c.1 c.2.1 c.2.2.1 c.2.2.2.1 c.2.2.2.2 b.1 b.2.1 b.2.2.1 b.2.2.2.1 b.2.2.2.2]:List aC)) (f:=aE) rfl rfl rfl rfl (by simp only[List.map,dJ]<;>rfl) rfl rfl<|wAp (f:=aE) h rfl rfl rfl rfl rfl rfl rfl rfl rfl (fun a=>by rw[aX]; rfl) rfl (fun I h=> ?_)
 exact geo; refine gcc 5 rfl<|cIf h rfl (fun C h=> ?_) (fun C h=> ?_)
 refine gcc 4 rfl<|cLp h [(6,7),(51,58)] [(3,3),(7,7)] (fun(t,j,l,m,o,p)=>([(6,I64 t)],[(3,[.int .i64 j, .int .i64 l, .str m, .sl (o.map aF), .sl (p.map aE)])])) (fun(u,s,v,w,y,z,A)=>(.e 1,[(6,I64 u),(52,Bo s)],[(3,[.int .i64 v, .int .i64 w, .str y, .sl (z.map aF), .sl (A.map aE)])])) rfl (fun st _ h=> ?_) (fun q h=> ?_)
 obtain⟨t,j,l,m,o,p⟩:=st; unfold nP at h; refine gcc 6 rfl<|cIf h rfl (fun D h=> ?_) (fun D h=> ?_)
 exact gco 6 rfl<|xAz [.int .i64 0, .int .i64 0, .str [], .sl ([].map aF), .sl ([].map aE)] rfl<|goo 4 rfl<|cS (L:=([aA.mk j l m o p]:List aA)) (f:=aF) rfl rfl rfl rfl (by simp only[List.map,aP]<;>rfl) rfl rfl<|wBd [.int .i64 4, .int .i64 0, .str [], .sl ([aA.mk j l m o p].map aF), .sl ([].map aE)] rfl rfl rfl rfl rfl rfl<|geo
 exact gec; obtain⟨u,s,v,w,y,z,A⟩:=q; exact gec; refine gcc 5 rfl<|cIf h rfl (fun E h=> ?_) (fun E h=> ?_)
 refine gco 4 rfl<|xLn rfl<|goc 2 rfl<|cIf h rfl (fun G h=> ?_) (fun G h=> ?_)
 refine gco 2 rfl<|wLa rfl rfl rfl rfl rfl rfl rfl<|wBd [.int .i64 3, .int .i64 0, .str [65], .sl ([].map aF), .sl ([].map aE)] rfl rfl rfl rfl rfl rfl<|wBd [.int .i64 3, .int .i64 0, .str [65], .sl ([].map aF), .sl ([].map aE)] rfl rfl rfl rfl rfl rfl<|cS (L:=([aA.mk (3:Int) (0:Int) ([65]:List UInt8) ([]:List aA) ([]:List aC),aA.mk (3:Int) (0:Int) ([65]:List UInt8) ([]:List aA) ([]:List aC)]:List aA)) (f:=aF) rfl rfl rfl rfl (by simp only[List.map,aP]<;>rfl) rfl rfl<|wBd [.int .i64 4, .int .i64 0, .str [], .sl ([aA.mk (3:Int) (0:Int) ([65]:List UInt8) ([]:List aA) ([]:List aC),aA.mk (3:Int) (0:Int) ([65]:List UInt8) ([]:List aA) ([]:List aC)].map aF), .sl ([].map aE)] rfl rfl rfl rfl rfl rfl<|wIp (f:=aE) h rfl rfl rfl rfl rfl rfl (fun a=>by rw[aX]; rfl) rfl (fun g ke71_33 h=> ?_)
 refine xFd rfl<|wSpN (f:=aE) (v':=aC.mk (4:Int) (0:Int) ([]:List UInt8) ([aA.mk (3:Int) (0:Int) ([65]:List UInt8) ([]:List aA) ([]:List aC),aA.mk (3:Int) (0:Int) ([65]:List UInt8) ([]:List aA) ([]:List aC)]:List aA) ([]:List aC) g.f5 g.f6 g.f7 g.f8 g.f9) h ke71_33 rfl rfl rfl rfl rfl rfl rfl (by rw[aX]; rfl) (by rw[aX,dJ]; rfl) (fun Q h=> ?_)
 exact geo; exact gec; exact gec
abbrev Fv(p:Int→Int→(List UInt8)→(List aA)→(List aC)→Option (Bool)):Prop:= ∀ {a b:Int} {d:List UInt8} {f:List aA} {g:List aC} {r:Bool},p a b d f g=some r→Big Try.prog τ An (.fn 267 [.one (.ag [.int .i64 a, .int .i64 b, .str d, .sl (f.map aF), .sl (g.map aE)])] [] (.one (.c (.bool r))) none [] none)
def nW(n:Nat)(b:Int)(c:Int)(d:List UInt8)(f:List aA)(g:List aC):Option (Bool):=
  (bQ n b c d f g false (10:Int) (300:Int)).bind fun a=>some (decide ((0:Int)≤a))
theorem Cl{n:Nat}:Fv (nW n):=by
 intro b c d f g r h; unfold nW at h; refine bF Try.func267 rfl rfl<|gco 8 rfl<|xC0 h (tL ·) rfl (fun a h=> ?_)
 exact geo
abbrev cG:Type:=Int→(List (List UInt8))→(List Int)→Int→Int→Option (Int×Int×(List UInt8)×(List aA)×(List aC)×(List Int)×Int×Int)
abbrev oB(p:cG):Prop:= ∀ {f:Int} {g:List (List UInt8)} {a:List Int} {b d:Int} {r:Int×Int×(List UInt8)×(List aA)×(List aC)×(List Int)×Int×Int},p f g a b d=some r→Big Try.prog τ An (.fn 294 [.one (.ptr 1000000 0), .one (.c (.int .i64 f)), .one (.c (.sl (g.map eF)))] [[.sl (a.map rI_u8), .int .i64 b, .int .i64 d]] (.one (.ag [.int .i64 r.1, .int .i64 r.2.1, .str r.2.2.1, .sl (r.2.2.2.1.map aF), .sl (r.2.2.2.2.1.map aE)])) none [[.sl (r.2.2.2.2.2.1.map rI_u8), .int .i64 r.2.2.2.2.2.2.1, .int .i64 r.2.2.2.2.2.2.2]] none)
end Go.Own
