/- A part of the proof. No conditions. -/
import Derived.Test.YtloebajamceclaaW38A
set_option linter.unusedVariables false
set_option linter.unusedSimpArgs false
set_option linter.unnecessarySimpa false
namespace Go.Own
open Go Go.Proofs
def eA(a:List UInt8):List T:=[.str a]
theorem oZ(a:List UInt8):eA a=[.str a]:=rfl
def rI_u8(a:Int):List T:=[.int .u8 a]
theorem IX(a:Int):rI_u8 a=[.int .u8 a]:=rfl
def pK(a:Int):List T:=[.int .i64 a]
theorem LW(a:Int):pK a=[.int .i64 a]:=rfl
inductive aB where
  | mk (f0:Int) (f1:Int) (f2:List UInt8) (f3:List aB)
def aB.f0:aB→Int
  | .mk a _ _ _=>a
def aB.f1:aB→Int
  | .mk _ a _ _=>a
def aB.f2:aB→List UInt8
  | .mk _ _ a _=>a
def aB.f3:aB→List aB
  | .mk _ _ _ a=>a
mutual
def aF:aB→List T
  | .mk a0 a1 a2 a3=> [.int .i64 a0, .int .i64 a1, .str a2, .sl (lH a3)]
def lH:List aB→List (List T)
  | []=> []
  | x::r=>aF x::lH r
end
theorem mG: ∀l:List aB,lH l=l.map aF
  | []=>by simp [lH]
  | x::r=>by simp [lH,mG r]
theorem aJ(a:aB):aF a=[.int .i64 a.f0, .int .i64 a.f1, .str a.f2, .sl (a.f3.map aF)]:=by
  cases a; simp [aF,mG,aB.f0,aB.f1,aB.f2,aB.f3]
theorem bZ(a0:Int)(a1:Int)(a2:List UInt8)(a3:List aB):aF (.mk a0 a1 a2 a3)=[.int .i64 a0, .int .i64 a1, .str a2, .sl (a3.map aF)]:=by simp [aF,mG]
mutual
inductive aA where
  | mk (f0:Int) (f1:Int) (f2:List UInt8) (f3:List aA) (f4:List aC)
inductive aC where
  | two (p x:aA)
end
def aC.p:aC→aA
  | .two a _=>a
def aC.x:aC→aA
  | .two _ a=>a
def aA.f0:aA→Int
  | .mk a _ _ _ _=>a
def aA.f1:aA→Int
  | .mk _ a _ _ _=>a
def aA.f2:aA→List UInt8
  | .mk _ _ a _ _=>a
def aA.f3:aA→List aA
  | .mk _ _ _ a _=>a
def aA.f4:aA→List aC
  | .mk _ _ _ _ a=>a
def aC.f0(c:aC):Int:=aA.f0 (aC.p c)
def aC.f1(c:aC):Int:=aA.f1 (aC.p c)
def aC.f2(c:aC):List UInt8:=aA.f2 (aC.p c)
def aC.f3(c:aC):List aA:=aA.f3 (aC.p c)
def aC.f4(c:aC):List aC:=aA.f4 (aC.p c)
def aC.f5(c:aC):Int:=aA.f0 (aC.x c)
def aC.f6(c:aC):Int:=aA.f1 (aC.x c)
def aC.f7(c:aC):List UInt8:=aA.f2 (aC.x c)
def aC.f8(c:aC):List aA:=aA.f3 (aC.x c)
def aC.f9(c:aC):List aC:=aA.f4 (aC.x c)
def aC.mk(a0:Int)(a1:Int)(a2:List UInt8)(a3:List aA)(a4:List aC)(a5:Int)(a6:Int)(a7:List UInt8)(a8:List aA)(a9:List aC):aC:= .two (.mk a0 a1 a2 a3 a4) (.mk a5 a6 a7 a8 a9)
mutual
def aE:aA→List T
  | .mk a0 a1 a2 a3 a4=> [.int .i64 a0, .int .i64 a1, .str a2, .sl (lI a3), .sl (iP a4)]
def lI:List aA→List (List T)
  | []=> []
  | x::r=>aE x::lI r
def aD:aC→List T
  | .two p x=>aE p++aE x
def iP:List aC→List (List T)
  | []=> []
  | x::r=>aD x::iP r
end
theorem qR: ∀l:List aA,lI l=l.map aE
  | []=>by simp [lI]
  | x::r=>by simp [lI,qR r]
theorem oO: ∀l:List aC,iP l=l.map aD
  | []=>by simp [iP]
  | x::r=>by simp [iP,oO r]
theorem aO(a0:Int)(a1:Int)(a2:List UInt8)(a3:List aA)(a4:List aC):aE (.mk a0 a1 a2 a3 a4)=[.int .i64 a0, .int .i64 a1, .str a2, .sl (a3.map aE), .sl (a4.map aD)]:=by simp only[aE,qR,oO]
theorem aM(a:aA):aE a=[.int .i64 a.f0, .int .i64 a.f1, .str a.f2, .sl (a.f3.map aE), .sl (a.f4.map aD)]:=by
  cases a; exact aO _ _ _ _ _
theorem aV(a:aC):aD a=[.int .i64 a.f0, .int .i64 a.f1, .str a.f2, .sl (a.f3.map aE), .sl (a.f4.map aD), .int .i64 a.f5, .int .i64 a.f6, .str a.f7, .sl (a.f8.map aE), .sl (a.f9.map aD)]:=by
  cases a with
  | two p x=>
    simp only[aD]; rw[aM p,aM x]; rfl
theorem dE(a0:Int)(a1:Int)(a2:List UInt8)(a3:List aA)(a4:List aC)(a5:Int)(a6:Int)(a7:List UInt8)(a8:List aA)(a9:List aC):aD (.mk a0 a1 a2 a3 a4 a5 a6 a7 a8 a9)=[.int .i64 a0, .int .i64 a1, .str a2, .sl (a3.map aE), .sl (a4.map aD), .int .i64 a5, .int .i64 a6, .str a7, .sl (a8.map aE), .sl (a9.map aD)]:=aV _
structure aI where
  f0:List UInt8
  f1:Int
  f2:Int
  f3:List UInt8
  f4:List aB
def aP(a:aI):List T:=[.str a.f0, .int .i64 a.f1, .int .i64 a.f2, .str a.f3, .sl (a.f4.map aF)]
theorem MJ(a:aI):aP a=[.str a.f0, .int .i64 a.f1, .int .i64 a.f2, .str a.f3, .sl (a.f4.map aF)]:=rfl

abbrev jF:Type:=Int→Int→(List UInt8)→(List aB)→Option (Int×Int×(List UInt8)×(List aB))
abbrev nW(p:jF):Prop:= ∀ {a b:Int} {c:List UInt8} {d:List aB} {r:Int×Int×(List UInt8)×(List aB)},p a b c d=some r→Big Try.prog τ An (.fn 86 [.one (.ag [.int .i64 a, .int .i64 b, .str c, .sl (d.map aF)])] [] (.one (.ag [.int .i64 r.1, .int .i64 r.2.1, .str r.2.2.1, .sl (r.2.2.2.map aF)])) none [] none)
def gY(n:Nat)(c:jF)(f:List aB):(Int×Int×Int×(List UInt8)×(List aB))→Option ((Int×Int×Int×(List UInt8)×(List aB))⊕((Int×Bool×Int×Int×(List UInt8)×(List aB))))
  | (d,j,l,m,o)=>bif decide (d<(f.length:Int))then(ix f d).bind fun b=>(c b.f0 b.f1 b.f2 b.f3).bind fun a=>(fS 56 o ([aB.mk a.1 a.2.1 a.2.2.1 a.2.2.2]:List aB)).bind fun g=>some (.inl ((IntKind.wrap .i64 (d+(1:Int))),j,l,m,g))else some (.inr (d,false,j,l,m,o))
def lF(n:Nat)(a:jF)(d:Int)(f:Int)(g:List UInt8)(j:List aB):Option (Int×Int×(List UInt8)×(List aB)):=
  (loopN (gY n a j) n ((0:Int),d,f,g,([]:List aB))).bind fun(p,o,l,m,b,c)=>some (l,m,b,c)
theorem AJ{n:Nat}{b:jF}(d:nW b):nW (lF n b):=by
 intro B C D E r h; unfold lF at h; refine bF Try.func86 rfl rfl<|gco 3 rfl<|xAz [.int .i64 0, .int .i64 0, .str [], .sl ([].map aF)] rfl<|goo 4 rfl<|xAz [.int .i64 0, .int .i64 0, .str [], .sl ([].map aF)] rfl<|goo 4 rfl<|cS (L:=([]:List aB)) (f:=aF) rfl rfl rfl rfl rfl rfl rfl<|goc 8 rfl<|cLp h [(4,4),(8,25)] [(3,3)] (fun(m,p,s,t,u)=>([(4,I64 m)],[(3,[.int .i64 p, .int .i64 s, .str t, .sl (u.map aF)])])) (fun(o,g,v,w,j,l)=>(.e 0,[(4,I64 o),(12,Bo g)],[(3,[.int .i64 v, .int .i64 w, .str j, .sl (l.map aF)])])) rfl (fun st _ h=> ?_) (fun q h=> ?_)
 obtain⟨m,p,s,t,u⟩:=st; unfold gY at h; refine gco 6 rfl<|xLn rfl<|goc 2 rfl<|cIf h rfl (fun z h=> ?_) (fun z h=> ?_)
 refine gco 9 rfl<|xIx h aJ rfl (fun y h=> ?_)
 refine xLd rfl<|xC0 h (d ·) rfl (fun c h=> ?_)
 refine cS (L:=([aB.mk c.1 c.2.1 c.2.2.1 c.2.2.2]:List aB)) (f:=aF) rfl rfl rfl rfl (by simp only[List.map,bZ]<;>rfl) rfl rfl<|wAp (f:=aF) h rfl rfl rfl rfl rfl rfl rfl rfl rfl (fun a=>by rw[aJ]; rfl) rfl (fun A h=> ?_)
 exact geo; exact gec; obtain⟨o,g,v,w,j,l⟩:=q; exact gec
def wI:Nat→(jF)
  | 0=>(fun _ _ _ _=>none)
  | n+1=>lF n (wI n)
def dI(n:Nat):jF:=wI n
theorem AQ(n:Nat):nW (dI n):=by
  induction n with
  | zero=>exact(fun h=>nomatch h)
  | succ n ih=>exact AJ (n:=n) ih
theorem oM{n:Nat}:nW (dI n):=(AQ n)
theorem xH(n:Nat):dI (n+1)=lF n (dI n):=rfl
abbrev Ac(p:(List aB)→Option ((List aB))):Prop:= ∀ {a:List aB} {r:(List aB)},p a=some r→Big Try.prog τ An (.fn 42 [.one (.c (.sl (a.map aF)))] [] (.one (.c (.sl (r.map aF)))) none [] none)
def eO(n:Nat)(d:List aB):((List aB)×Int)→Option (((List aB)×Int)⊕(((List aB)×Int×Bool)))
  | (f,c)=>bif decide (c<(d.length:Int))then(ix d c).bind fun b=>(dI n b.f0 b.f1 b.f2 b.f3).bind fun a=>(fS 56 f ([aB.mk a.1 a.2.1 a.2.2.1 a.2.2.2]:List aB)).bind fun g=>some (.inl (g,(IntKind.wrap .i64 (c+(1:Int)))))else some (.inr (f,c,false))
def gZ(n:Nat)(a:List aB):Option ((List aB)):=
  (loopN (eO n a) n (([]:List aB),(0:Int))).bind fun(b,c,d)=>some b
theorem xJ{n:Nat}:Ac (gZ n):=by
 intro s r h; unfold gZ at h; refine bF Try.func42 rfl rfl<|cRs<|wAe (Li aF []) rfl rfl rfl rfl<|oRs<|cS (L:=([]:List aB)) (f:=aF) rfl rfl rfl rfl rfl rfl rfl<|goc 7 rfl<|cLp h [(3,4),(6,19)] [] (fun(c,g)=>([(3,Li aF c),(4,I64 g)],[])) (fun(d,j,l)=>(.e 0,[(3,Li aF d),(4,I64 j),(9,Bo l)],[])) rfl (fun st _ h=> ?_) (fun q h=> ?_)
 obtain⟨c,g⟩:=st; unfold eO at h; refine gco 5 rfl<|xLn rfl<|goc 2 rfl<|cIf h rfl (fun p h=> ?_) (fun p h=> ?_)
 refine gco 7 rfl<|xIx h aJ rfl (fun m h=> ?_)
 refine xLd rfl<|xC0 h (oM ·) rfl (fun b h=> ?_)
 refine cS (L:=([aB.mk b.1 b.2.1 b.2.2.1 b.2.2.2]:List aB)) (f:=aF) rfl rfl rfl rfl (by simp only[List.map,bZ]<;>rfl) rfl rfl<|wAp (f:=aF) h rfl rfl rfl rfl rfl rfl rfl rfl rfl (fun a=>by rw[aJ]; rfl) rfl (fun o h=> ?_)
 exact geo; exact gec; obtain⟨d,j,l⟩:=q; exact gec
abbrev Gj(p:(List (List UInt8))→(List UInt8)→Option (Bool)):Prop:= ∀ {a:List (List UInt8)} {b:List UInt8} {r:Bool},p a b=some r→Big Try.prog τ An (.fn 112 [.one (.c (.sl (a.map eA))), .one (.c (.str b))] [] (.one (.c (.bool r))) none [] none)
def iQ(n:Nat)(b:List (List UInt8))(d:List UInt8):(Int)→Option ((Int)⊕((Bool)⊕(Int×Bool)))
  | a=>bif decide (a<(b.length:Int))then(ix b a).bind fun c=>bif decide (c=d)then some (.inr (.inl true))else some (.inl (IntKind.wrap .i64 (a+(1:Int))))else some (.inr (.inr (a,false)))
def fD(n:Nat)(a:List (List UInt8))(b:List UInt8):Option (Bool):=
  (loopN (iQ n a b) n (0:Int)).bind fun q=>(match q with | .inl c=>some c | .inr (d,f)=>some false)
theorem mP{n:Nat}:Gj (fD n):=by
 intro l m r h; unfold fD at h; refine bF Try.func112 rfl rfl<|gcc 9 rfl<|cLp h [(4,17)] [] (fun b=>([(5,I64 b)],[])) (fun q=>match q with | .inl a=>(.r,[(4,Bo a)],[]) | .inr (c,d)=>(.e 0,[(5,I64 c),(9,Bo d)],[])) rfl (fun b _ h=> ?_) (fun q h=> ?_)
 unfold iQ at h; refine gco 5 rfl<|xLn rfl<|goc 2 rfl<|cIf h rfl (fun g h=> ?_) (fun g h=> ?_)
 refine gco 7 rfl<|xIx h oZ rfl (fun f h=> ?_)
 refine goc 4 rfl<|cIf h rfl (fun j h=> ?_) (fun j h=> ?_)
 exact gec; exact gec; exact gec; rcases q with a | ⟨c,d⟩; exact en; exact gec
abbrev Ey(p:(List (List UInt8))→Option (Bool)):Prop:= ∀ {a:List (List UInt8)} {r:Bool},p a=some r→Big Try.prog τ An (.fn 88 [.one (.c (.sl (a.map eA)))] [] (.one (.c (.bool r))) none [] none)
def kE(n:Nat)(b:List (List UInt8)):(Int)→Option ((Int)⊕((Bool)⊕(Int×Bool)))
  | a=>bif decide (a<(b.length:Int))then(sub b none (some a)).bind fun f=>(ix b a).bind fun d=>(fD n f d).bind fun c=>bif c then some (.inr (.inl false))else some (.inl (IntKind.wrap .i64 (a+(1:Int))))else some (.inr (.inr (a,false)))
def iX(n:Nat)(a:List (List UInt8)):Option (Bool):=
  (loopN (kE n a) n (0:Int)).bind fun q=>(match q with | .inl b=>some b | .inr (c,d)=>some true)
theorem sS{n:Nat}:Ey (iX n):=by
 intro o r h; unfold iX at h; refine bF Try.func88 rfl rfl<|gcc 9 rfl<|cLp h [(2,17)] [] (fun b=>([(3,I64 b)],[])) (fun q=>match q with | .inl a=>(.r,[(2,Bo a)],[]) | .inr (c,d)=>(.e 0,[(3,I64 c),(7,Bo d)],[])) rfl (fun b _ h=> ?_) (fun q h=> ?_)
 unfold kE at h; refine gco 5 rfl<|xLn rfl<|goc 2 rfl<|cIf h rfl (fun l h=> ?_) (fun l h=> ?_)
 refine gco 7 rfl<|wSl (rf:=eA) h rfl rfl rfl rfl .no (.so rfl) (fun _=>rfl) rfl (fun j h=> ?_)
 refine goo 2 rfl<|xIx h oZ rfl (fun g h=> ?_)
 refine xLd rfl<|xC0 h (mP ·) rfl (fun f h=> ?_)
 refine oNl<|cIf h rfl (fun m h=> ?_) (fun m h=> ?_)
 exact gec; exact gec; exact gec; rcases q with a | ⟨c,d⟩; exact en; exact gec
abbrev jG:Type:=Int→Int→(List UInt8)→(List aA)→(List aC)→Option ((List (List UInt8)))
abbrev nX(p:jG):Prop:= ∀ {a b:Int} {d:List UInt8} {f:List aA} {g:List aC} {r:(List (List UInt8))},p a b d f g=some r→Big Try.prog τ An (.fn 89 [.one (.ag [.int .i64 a, .int .i64 b, .str d, .sl (f.map aE), .sl (g.map aD)])] [] (.one (.c (.sl (r.map eA)))) none [] none)
def hG(n:Nat)(b:jG)(f:List aA):((List (List UInt8))×Int)→Option (((List (List UInt8))×Int)⊕(((List (List UInt8))×Int×Bool)))
  | (j,c)=>bif decide (c<(f.length:Int))then(ix f c).bind fun a=>(b a.f0 a.f1 a.f2 a.f3 a.f4).bind fun d=>(fS 16 j d).bind fun g=>some (.inl (g,(IntKind.wrap .i64 (c+(1:Int)))))else some (.inr (j,c,false))
def lG(n:Nat)(a:jG)(d:Int)(l:Int)(b:List UInt8)(f:List aA)(m:List aC):Option ((List (List UInt8))):=
  bif decide (d=(3:Int))then bif !decide (b=([95]:List UInt8))then(fS 16 ([]:List (List UInt8)) ([b]:List (List UInt8))).bind fun c=>some c else some ([]:List (List UInt8))else(loopN (hG n a f) n (([]:List (List UInt8)),(0:Int))).bind fun(g,o,j)=>some g
theorem AK{n:Nat}{a:jG}(b:nX a):nX (lG n a):=by
 intro y z m A B r h; unfold lG at h; refine bF Try.func89 rfl rfl<|gco 3 rfl<|wAe (Li eA []) rfl rfl rfl rfl<|oRs<|cS (L:=([]:List (List UInt8))) (f:=eA) rfl rfl rfl rfl rfl rfl rfl<|goc 9 rfl<|cIf h rfl (fun u h=> ?_) (fun u h=> ?_)
 refine gcc 7 rfl<|cIf h rfl (fun v h=> ?_) (fun v h=> ?_)
 refine gco 4 rfl<|cS (L:=([m]:List (List UInt8))) (f:=eA) rfl rfl rfl rfl rfl rfl rfl<|wAp (f:=eA) h rfl rfl rfl rfl rfl rfl rfl rfl rfl (fun _=>rfl) rfl (fun t h=> ?_)
 exact geo; exact gec; refine gcc 6 rfl<|cLp h [(3,4),(18,32)] [] (fun(d,j)=>([(3,Li eA d),(4,I64 j)],[])) (fun(g,l,c)=>(.e 0,[(3,Li eA g),(4,I64 l),(22,Bo c)],[])) rfl (fun st _ h=> ?_) (fun q h=> ?_)
 obtain⟨d,j⟩:=st; unfold hG at h; refine gco 6 rfl<|xLn rfl<|goc 2 rfl<|cIf h rfl (fun w h=> ?_) (fun w h=> ?_)
 refine gco 8 rfl<|xIx h aM rfl (fun p h=> ?_)
 refine xLd rfl<|xC0 h (b ·) rfl (fun o h=> ?_)
 refine wAp (f:=eA) h rfl rfl rfl rfl rfl rfl rfl rfl rfl (fun _=>rfl) rfl (fun s h=> ?_)
 exact geo; exact gec; obtain⟨g,l,c⟩:=q; exact gec
def wJ:Nat→(jG)
  | 0=>(fun _ _ _ _ _=>none)
  | n+1=>lG n (wJ n)
def dZ(n:Nat):jG:=wJ n
theorem AR(n:Nat):nX (dZ n):=by
  induction n with
  | zero=>exact(fun h=>nomatch h)
  | succ n ih=>exact AK (n:=n) ih
theorem sW{n:Nat}:nX (dZ n):=(AR n)
theorem xI(n:Nat):dZ (n+1)=lG n (dZ n):=rfl
abbrev IE(p:Int→Int→Int→Option (Bool)):Prop:= ∀ {a b d:Int} {r:Bool},p a b d=some r→Big Try.prog τ An (.fn 142 [.one (.c (.int .i64 a)), .one (.c (.int .i64 b)), .one (.c (.int .i64 d))] [] (.one (.c (.bool r))) none [] none)
def cE(n:Nat)(a:Int)(b:Int)(c:Int):Option (Bool):=
  (bif decide (b≤a)then some (decide (a≤c))else some false).bind fun d=>some d
theorem cN{n:Nat}:IE (cE n):=by
 intro c d f r h; unfold cE at h; refine bF Try.func142 rfl rfl<|gco 6 rfl<|oJn h [(6,14)] [] (fun a=>(.n,[(6,Bo a)],[])) (fun _ h=> ?_) (fun a h=> ?_)
 refine goo 4 rfl<|oIf 10 h rfl (fun b h=> ?_) (fun b h=> ?_)
 exact geo; exact geo; exact gec
abbrev FH(p:(List UInt8)→Option (Bool)):Prop:= ∀ {a:List UInt8} {r:Bool},p a=some r→Big Try.prog τ An (.fn 114 [.one (.c (.str a))] [] (.one (.c (.bool r))) none [] none)
def kJ(n:Nat)(d:List UInt8):(Int)→Option ((Int)⊕((Bool)⊕(Int×Bool)))
  | a=>bif decide (a<(d.length:Int))then(ixs d a).bind fun b=>(cE n (IntKind.wrap .i64 b) (97:Int) (122:Int)).bind fun f=>(bif !f then bif decide (a=(0:Int))then some true else(cE n (IntKind.wrap .i64 b) (48:Int) (57:Int)).bind fun c=>bif !c then some (!decide ((IntKind.wrap .i64 b)=(95:Int)))else some false else some false).bind fun g=>bif g then some (.inr (.inl false))else some (.inl (IntKind.wrap .i64 (a+(1:Int))))else some (.inr (.inr (a,false)))
def jB(n:Nat)(b:List UInt8):Option (Bool):=
  (loopN (kJ n b) n (0:Int)).bind fun q=>(match q with | .inl c=>some c | .inr (d,f)=>(cE n (b.length:Int) (1:Int) (20:Int)).bind fun a=>some a)
theorem sX{n:Nat}:FH (jB n):=by
 intro v r h; unfold jB at h; refine bF Try.func114 rfl rfl<|gcc 9 rfl<|cLp h [(2,32)] [] (fun c=>([(3,I64 c)],[])) (fun q=>match q with | .inl b=>(.r,[(2,Bo b)],[]) | .inr (d,f)=>(.e 0,[(3,I64 d),(9,Bo f)],[])) rfl (fun c _ h=> ?_) (fun q h=> ?_)
 unfold kJ at h; refine gco 5 rfl<|xLs rfl<|goc 2 rfl<|cIf h rfl (fun t h=> ?_) (fun t h=> ?_)
 refine gco 7 rfl<|KE h rfl rfl rfl rfl rfl (fun s h=> ?_)
 refine goo 6 rfl<|xC0 h (cN ·) rfl (fun p h=> ?_)
 refine goo 4 rfl<|oJn h [(18,32)] [] (fun a=>(.n,[(32,Bo a)],[])) (fun _ h=> ?_) (fun a h=> ?_)
 refine goo 3 rfl<|oIf 20 h rfl (fun u h=> ?_) (fun u h=> ?_)
 refine goo 3 rfl<|oIf 23 h rfl (fun l h=> ?_) (fun l h=> ?_)
 exact geo; refine xMv rfl<|xC0 h (cN ·) rfl (fun g h=> ?_)
 refine goo 2 rfl<|oIf 27 h rfl (fun m h=> ?_) (fun m h=> ?_)
 exact geo; exact geo; exact geo; refine cIf h rfl (fun o h=> ?_) (fun o h=> ?_)
 exact gec; exact gec; exact gec; rcases q with b | ⟨d,f⟩; exact en; refine gco 3 rfl<|xLs rfl<|xC0 h (cN ·) rfl (fun j h=> ?_)
 exact geo
abbrev yT(p:(List UInt8)→Option (Bool)):Prop:= ∀ {a:List UInt8} {r:Bool},p a=some r→Big Try.prog τ An (.fn 115 [.one (.c (.str a))] [] (.one (.c (.bool r))) none [] none)
def jJ(n:Nat)(a:List UInt8):Option (Bool):=
  (bif decide (a=([99,97,115,101]:List UInt8))then some true else bif decide (a=([111,102]:List UInt8))then some true else some (decide (a=([101,110,100]:List UInt8)))).bind fun b=>some b
theorem vB{n:Nat}:yT (jJ n):=by
 intro d r h; unfold jJ at h; refine bF Try.func115 rfl rfl<|gco 6 rfl<|oJn h [(2,12)] [] (fun a=>(.n,[(2,Bo a)],[])) (fun _ h=> ?_) (fun a h=> ?_)
 refine goo 3 rfl<|oIf 5 h rfl (fun b h=> ?_) (fun b h=> ?_)
 exact geo; refine goo 4 rfl<|oIf 9 h rfl (fun c h=> ?_) (fun c h=> ?_)
 exact geo; exact geo; exact gec
abbrev FB(p:(List UInt8)→Option (Bool)):Prop:= ∀ {a:List UInt8} {r:Bool},p a=some r→Big Try.prog τ An (.fn 74 [.one (.c (.str a))] [] (.one (.c (.bool r))) none [] none)
def iZ(n:Nat)(a:List UInt8):Option (Bool):=
  ((jB n a).bind fun b=>bif b then(jJ n a).bind fun c=>some (!c)else some false).bind fun d=>some d
theorem sV{n:Nat}:FB (iZ n):=by
 intro f r h; unfold iZ at h; refine bF Try.func74 rfl rfl<|gco 6 rfl<|oJn h [(2,9)] [] (fun a=>(.n,[(2,Bo a)],[])) (fun _ h=> ?_) (fun a h=> ?_)
 refine xMv rfl<|xC0 h (sX ·) rfl (fun b h=> ?_)
 refine xMv rfl<|oIf 5 h rfl (fun d h=> ?_) (fun d h=> ?_)
 refine xMv rfl<|xC0 h (vB ·) rfl (fun c h=> ?_)
 exact geo; exact geo; exact gec
abbrev Cw(p:Int→Option (Bool)):Prop:= ∀ {a:Int} {r:Bool},p a=some r→Big Try.prog τ An (.fn 163 [.one (.c (.int .u8 a))] [] (.one (.c (.bool r))) none [] none)
def jW(n:Nat)(a:Int):Option (Bool):=
  ((cE n (IntKind.wrap .i64 a) (65:Int) (90:Int)).bind fun b=>bif b then some true else some (decide (a=(95:Int)))).bind fun c=>some c
theorem AX{n:Nat}:Cw (jW n):=by
 intro d r h; unfold jW at h; refine bF Try.func163 rfl rfl<|gco 6 rfl<|oJn h [(2,9)] [] (fun a=>(.n,[(2,Bo a)],[])) (fun _ h=> ?_) (fun a h=> ?_)
 refine goo 2 rfl<|xC0 h (cN ·) rfl (fun b h=> ?_)
 refine xMv rfl<|oIf 6 h rfl (fun c h=> ?_) (fun c h=> ?_)
 exact geo; exact geo; exact gec
abbrev Cu(p:Int→Option (Bool)):Prop:= ∀ {a:Int} {r:Bool},p a=some r→Big Try.prog τ An (.fn 164 [.one (.c (.int .u8 a))] [] (.one (.c (.bool r))) none [] none)
def jV(n:Nat)(b:Int):Option (Bool):=
  (cE n (IntKind.wrap .i64 b) (97:Int) (122:Int)).bind fun a=>some a
theorem AW{n:Nat}:Cu (jV n):=by
 intro b r h; unfold jV at h; refine bF Try.func164 rfl rfl<|gco 8 rfl<|xC0 h (cN ·) rfl (fun a h=> ?_)
 exact geo
abbrev Cx(p:Int→Option (Bool)):Prop:= ∀ {a:Int} {r:Bool},p a=some r→Big Try.prog τ An (.fn 165 [.one (.c (.int .u8 a))] [] (.one (.c (.bool r))) none [] none)
def jX(n:Nat)(b:Int):Option (Bool):=
  (cE n (IntKind.wrap .i64 b) (48:Int) (57:Int)).bind fun a=>some a
theorem AY{n:Nat}:Cx (jX n):=by
 intro b r h; unfold jX at h; refine bF Try.func165 rfl rfl<|gco 8 rfl<|xC0 h (cN ·) rfl (fun a h=> ?_)
 exact geo
abbrev Ct(p:(List UInt8)→Option (Bool)):Prop:= ∀ {a:List UInt8} {r:Bool},p a=some r→Big Try.prog τ An (.fn 153 [.one (.c (.str a))] [] (.one (.c (.bool r))) none [] none)
def jK(n:Nat)(b:List UInt8):(Int)→Option ((Int)⊕((Bool)⊕(Int×Bool)))
  | a=>bif decide (a<(b.length:Int))then((ixs b a).bind fun l=>(jW n l).bind fun j=>bif !j then bif decide (a=(0:Int))then some true else(ixs b a).bind fun f=>(jV n f).bind fun c=>bif !c then(ixs b a).bind fun g=>(jX n g).bind fun d=>some (!d)else some false else some false).bind fun m=>bif m then some (.inr (.inl false))else some (.inl (IntKind.wrap .i64 (a+(1:Int))))else some (.inr (.inr (a,false)))
def jU(n:Nat)(b:List UInt8):Option (Bool):=
  (loopN (jK n b) n (0:Int)).bind fun q=>(match q with | .inl c=>some c | .inr (d,f)=>(cE n (b.length:Int) (1:Int) (20:Int)).bind fun a=>some a)
theorem AV{n:Nat}:Ct (jU n):=by
 intro z r h; unfold jU at h; refine bF Try.func153 rfl rfl<|gcc 9 rfl<|cLp h [(2,32)] [] (fun c=>([(3,I64 c)],[])) (fun q=>match q with | .inl b=>(.r,[(2,Bo b)],[]) | .inr (d,f)=>(.e 0,[(3,I64 d),(7,Bo f)],[])) rfl (fun c _ h=> ?_) (fun q h=> ?_)
 unfold jK at h; refine gco 5 rfl<|xLs rfl<|goc 2 rfl<|cIf h rfl (fun w h=> ?_) (fun w h=> ?_)
 refine gco 5 rfl<|oJn h [(10,32)] [] (fun a=>(.n,[(32,Bo a)],[])) (fun _ h=> ?_) (fun a h=> ?_)
 refine goo 2 rfl<|KE h rfl rfl rfl rfl rfl (fun v h=> ?_)
 refine xC0 h (AX ·) rfl (fun u h=> ?_)
 refine goo 2 rfl<|oIf 15 h rfl (fun y h=> ?_) (fun y h=> ?_)
 refine goo 3 rfl<|oIf 18 h rfl (fun p h=> ?_) (fun p h=> ?_)
 exact geo; refine goo 2 rfl<|KE h rfl rfl rfl rfl rfl (fun m h=> ?_)
 refine xC0 h (AW ·) rfl (fun g h=> ?_)
 refine goo 2 rfl<|oIf 24 h rfl (fun s h=> ?_) (fun s h=> ?_)
 refine goo 2 rfl<|KE h rfl rfl rfl rfl rfl (fun o h=> ?_)
 refine xC0 h (AY ·) rfl (fun j h=> ?_)
 exact geo; exact geo; exact geo; refine cIf h rfl (fun t h=> ?_) (fun t h=> ?_)
 exact gec; exact gec; exact gec; rcases q with b | ⟨d,f⟩; exact en; refine gco 3 rfl<|xLs rfl<|xC0 h (cN ·) rfl (fun l h=> ?_)
 exact geo
abbrev IC(p:(List UInt8)→Option (Bool)):Prop:= ∀ {a:List UInt8} {r:Bool},p a=some r→Big Try.prog τ An (.fn 154 [.one (.c (.str a))] [] (.one (.c (.bool r))) none [] none)
def oC(n:Nat)(a:List UInt8):Option (Bool):=
  (bif decide (a=([43]:List UInt8))then some true else bif decide (a=([45]:List UInt8))then some true else bif decide (a=([42]:List UInt8))then some true else bif decide (a=([61,61]:List UInt8))then some true else some (decide (a=([60]:List UInt8)))).bind fun b=>some b
theorem Eu{n:Nat}:IC (oC n):=by
 intro g r h; unfold oC at h; refine bF Try.func154 rfl rfl<|gco 6 rfl<|oJn h [(2,20)] [] (fun a=>(.n,[(2,Bo a)],[])) (fun _ h=> ?_) (fun a h=> ?_)
 refine goo 3 rfl<|oIf 5 h rfl (fun b h=> ?_) (fun b h=> ?_)
 exact geo; refine goo 4 rfl<|oIf 9 h rfl (fun c h=> ?_) (fun c h=> ?_)
 exact geo; refine goo 4 rfl<|oIf 13 h rfl (fun d h=> ?_) (fun d h=> ?_)
 exact geo; refine goo 4 rfl<|oIf 17 h rfl (fun f h=> ?_) (fun f h=> ?_)
 exact geo; exact geo; exact gec
abbrev Cr(p:Int→Int→(List UInt8)→(List aA)→(List aC)→Bool→Option (Bool)):Prop:= ∀ {a b:Int} {d:List UInt8} {f:List aA} {g:List aC} {j:Bool} {r:Bool},p a b d f g j=some r→Big Try.prog τ An (.fn 128 [.one (.ag [.int .i64 a, .int .i64 b, .str d, .sl (f.map aE), .sl (g.map aD)]), .one (.c (.bool j))] [] (.one (.c (.bool r))) none [] none)
def jS(n:Nat)(a:Int)(f:Int)(b:List UInt8)(c:List aA)(s:List aC)(d:Bool):Option (Bool):=
  (bif !decide (a=(9:Int))then bif decide ((0:Int)<(s.length:Int))then some true else bif !decide (a=(1:Int))then some (!decide (f=(0:Int)))else some false else bif !decide (a=(1:Int))then some (!decide (f=(0:Int)))else some false).bind fun u=>bif u then some false else bif decide (a=(1:Int))then((cE n f (0:Int) (1000000000000:Int)).bind fun t=>bif t then bif decide (b=([]:List UInt8))then some (decide ((c.length:Int)=(0:Int)))else some false else some false).bind fun E=>some E else bif decide (a=(2:Int))then((iZ n b).bind fun l=>bif l then some (decide ((c.length:Int)=(0:Int)))else some false).bind fun v=>some v else bif decide (a=(3:Int))then((jU n b).bind fun m=>bif m then bif decide ((c.length:Int)=(0:Int))then bif d then some true else some (!decide (b=([95]:List UInt8)))else some false else some false).bind fun w=>some w else bif decide (a=(4:Int))then(bif decide (b=([]:List UInt8))then some (decide ((c.length:Int)≤(20:Int)))else some false).bind fun y=>some y else bif decide (a=(5:Int))then(bif decide (b=([]:List UInt8))then some (decide ((c.length:Int)≤(20:Int)))else some false).bind fun z=>some z else bif decide (a=(6:Int))then(bif decide (b=([]:List UInt8))then(cE n (c.length:Int) (2:Int) (6:Int)).bind fun o=>some o else some false).bind fun A=>some A else bif decide (a=(7:Int))then(bif !d then(oC n b).bind fun p=>bif p then some (decide ((c.length:Int)=(2:Int)))else some false else some false).bind fun B=>some B else bif decide (a=(8:Int))then(bif !d then(iZ n b).bind fun g=>bif g then some (decide ((c.length:Int)≤(4:Int)))else some false else some false).bind fun C=>some C else bif decide (a=(9:Int))then(bif !d then bif decide (b=([]:List UInt8))then bif decide ((c.length:Int)=(1:Int))then(cE n (s.length:Int) (1:Int) (6:Int)).bind fun j=>some j else some false else some false else some false).bind fun D=>some D else some false
theorem AT{n:Nat}:Cr (jS n):=by
 intro a7 a8 a9 b0 b1 b2 r h; unfold jS at h; refine bF Try.func128 rfl rfl<|gco 9 rfl<|xLn rfl<|goo 5 rfl<|oJn h [(9,27)] [] (fun a=>(.n,[(27,Bo a)],[])) (fun _ h=> ?_) (fun a h=> ?_)
 refine goo 4 rfl<|oIf 12 h rfl (fun q2 h=> ?_) (fun q2 h=> ?_)
 refine goo 2 rfl<|xLn rfl<|goo 3 rfl<|oIf 18 h rfl (fun q3 h=> ?_) (fun q3 h=> ?_)
 exact geo; refine goo 4 rfl<|oIf 22 h rfl (fun q4 h=> ?_) (fun q4 h=> ?_)
 exact geo; exact geo; refine goo 10 rfl<|oIf 22 h rfl (fun q5 h=> ?_) (fun q5 h=> ?_)
 exact geo; exact geo; refine cIf h rfl (fun q6 h=> ?_) (fun q6 h=> ?_)
 exact gec; refine gcc 13 rfl<|cIf h rfl (fun q7 h=> ?_) (fun q7 h=> ?_)
 refine cRs<|oJn h [(4,4),(32,43)] [] (fun o=>(.n,[(4,Bo o)],[])) (fun _ h=> ?_) (fun o h=> ?_)
 refine goo 2 rfl<|xC0 h (cN ·) rfl (fun a0 h=> ?_)
 refine xMv rfl<|oIf 35 h rfl (fun y h=> ?_) (fun y h=> ?_)
 refine goo 5 rfl<|oIf 40 h rfl (fun z h=> ?_) (fun z h=> ?_)
 exact geo; exact geo; exact geo; exact gec; refine gcc 5 rfl<|cIf h rfl (fun A h=> ?_) (fun A h=> ?_)
 refine cRs<|oJn h [(4,4),(46,52)] [] (fun b=>(.n,[(4,Bo b)],[])) (fun _ h=> ?_) (fun b h=> ?_)
 refine goo 2 rfl<|xC0 h (sV ·) rfl (fun t h=> ?_)
 refine xMv rfl<|oIf 49 h rfl (fun B h=> ?_) (fun B h=> ?_)
 exact geo; exact geo; exact gec; refine gcc 5 rfl<|cIf h rfl (fun C h=> ?_) (fun C h=> ?_)
 refine cRs<|oJn h [(4,4),(55,69)] [] (fun c=>(.n,[(4,Bo c)],[])) (fun _ h=> ?_) (fun c h=> ?_)
 refine goo 2 rfl<|xC0 h (AV ·) rfl (fun u h=> ?_)
 refine xMv rfl<|oIf 58 h rfl (fun D h=> ?_) (fun D h=> ?_)
 refine goo 4 rfl<|oIf 62 h rfl (fun E h=> ?_) (fun E h=> ?_)
 refine goo 2 rfl<|oIf 64 h rfl (fun G h=> ?_) (fun G h=> ?_)
 exact geo; exact geo; exact geo; exact geo; exact gec; refine gcc 6 rfl<|cIf h rfl (fun H h=> ?_) (fun H h=> ?_)
 refine gco 4 rfl<|oJn h [(4,4),(73,79)] [] (fun d=>(.n,[(4,Bo d)],[])) (fun _ h=> ?_) (fun d h=> ?_)
 refine goo 4 rfl<|oIf 76 h rfl (fun I h=> ?_) (fun I h=> ?_)
 exact geo; exact geo; exact gec; refine gcc 4 rfl<|cIf h rfl (fun J h=> ?_) (fun J h=> ?_)
 refine cRs<|oJn h [(4,4),(73,79)] [] (fun f=>(.n,[(4,Bo f)],[])) (fun _ h=> ?_) (fun f h=> ?_)
 refine goo 4 rfl<|oIf 76 h rfl (fun K h=> ?_) (fun K h=> ?_)
 exact geo; exact geo; exact gec; refine gcc 5 rfl<|cIf h rfl (fun L h=> ?_) (fun L h=> ?_)
 refine cRs<|oJn h [(4,4),(82,88)] [] (fun g=>(.n,[(4,Bo g)],[])) (fun _ h=> ?_) (fun g h=> ?_)
 refine goo 4 rfl<|oIf 85 h rfl (fun M h=> ?_) (fun M h=> ?_)
 refine xMv rfl<|xC0 h (cN ·) rfl (fun v h=> ?_)
 exact geo; exact geo; exact gec; refine gcc 5 rfl<|cIf h rfl (fun N h=> ?_) (fun N h=> ?_)
 refine cRs<|oJn h [(4,4),(91,101)] [] (fun j=>(.n,[(4,Bo j)],[])) (fun _ h=> ?_) (fun j h=> ?_)
 refine goo 3 rfl<|oIf 93 h rfl (fun Q h=> ?_) (fun Q h=> ?_)
 refine goo 2 rfl<|xC0 h (Eu ·) rfl (fun w h=> ?_)
 refine goo 2 rfl<|oIf 98 h rfl (fun R h=> ?_) (fun R h=> ?_)
 exact geo; exact geo; exact geo; exact gec; refine gcc 5 rfl<|cIf h rfl (fun T h=> ?_) (fun T h=> ?_)
 refine cRs<|oJn h [(4,4),(104,114)] [] (fun l=>(.n,[(4,Bo l)],[])) (fun _ h=> ?_) (fun l h=> ?_)
 refine goo 3 rfl<|oIf 106 h rfl (fun U h=> ?_) (fun U h=> ?_)
 refine goo 2 rfl<|xC0 h (sV ·) rfl (fun p h=> ?_)
 refine goo 2 rfl<|oIf 111 h rfl (fun V h=> ?_) (fun V h=> ?_)
 exact geo; exact geo; exact geo; exact gec; refine gcc 5 rfl<|cIf h rfl (fun W h=> ?_) (fun W h=> ?_)
 refine cRs<|oJn h [(4,4),(117,133)] [] (fun m=>(.n,[(4,Bo m)],[])) (fun _ h=> ?_) (fun m h=> ?_)
 refine goo 3 rfl<|oIf 119 h rfl (fun X h=> ?_) (fun X h=> ?_)
 refine goo 5 rfl<|oIf 124 h rfl (fun Y h=> ?_) (fun Y h=> ?_)
 refine goo 4 rfl<|oIf 128 h rfl (fun Z h=> ?_) (fun Z h=> ?_)
 refine goo 2 rfl<|xLn rfl<|xC0 h (cN ·) rfl (fun s h=> ?_)
 exact geo; exact geo; exact geo; exact geo; exact gec; exact gec
abbrev gJ:Type:=Int→Int→(List UInt8)→(List aA)→(List aC)→Bool→Int→Int→Option (Int)
abbrev nR(p:gJ):Prop:= ∀ {a b:Int} {d:List UInt8} {f:List aA} {g:List aC} {j:Bool} {l m:Int} {r:Int},p a b d f g j l m=some r→Big Try.prog τ An (.fn 87 [.one (.ag [.int .i64 a, .int .i64 b, .str d, .sl (f.map aE), .sl (g.map aD)]), .one (.c (.bool j)), .one (.c (.int .i64 l)), .one (.c (.int .i64 m))] [] (.one (.c (.int .i64 r))) none [] none)
def dR(n:Nat)(b:gJ)(l:Bool)(m:Int)(g:List aA):(Int×Int)→Option ((Int×Int)⊕((Int×Int×Bool)))
  | (d,c)=>(bif decide (c<(g.length:Int))then some (decide ((0:Int)≤d))else some false).bind fun j=>bif j then(ix g c).bind fun a=>(b a.f0 a.f1 a.f2 a.f3 a.f4 l (IntKind.wrap .i64 (m - (1:Int))) d).bind fun f=>some (.inl (f,(IntKind.wrap .i64 (c+(1:Int)))))else some (.inr (d,c,false))
def dQ(n:Nat)(b:gJ)(s:Int)(j:List aC):(Int×Int)→Option ((Int×Int)⊕((Int)⊕(Int×Int×Bool)))
  | (l,a)=>(bif decide (a<(j.length:Int))then some (decide ((0:Int)≤l))else some false).bind fun t=>bif t then(((ix j a).bind fun c=>(dZ n c.f0 c.f1 c.f2 c.f3 c.f4).bind fun m=>(iX n m).bind fun o=>bif !o then some (.inl ((-1):Int))else(ix j a).bind fun d=>(b d.f0 d.f1 d.f2 d.f3 d.f4 true (IntKind.wrap .i64 (s - (1:Int))) l).bind fun g=>bif decide ((0:Int)≤g)then(ix j a).bind fun f=>(b f.f5 f.f6 f.f7 f.f8 f.f9 false (IntKind.wrap .i64 (s - (1:Int))) g).bind fun p=>some (.inr p)else some (.inr g):Option ((Int)⊕(Int)))).bind fun q=>(match q with | .inl v=>some (.inr (.inl v)) | .inr u=>some (.inl (u,(IntKind.wrap .i64 (a+(1:Int))))))else some (.inr (.inr (l,a,false)))
def lA(n:Nat)(a:gJ)(p:Int)(s:Int)(t:List UInt8)(c:List aA)(d:List aC)(f:Bool)(b:Int)(g:Int):Option (Int):=
  (bif decide (b<(1:Int))then some true else bif decide (g<(1:Int))then some true else(jS n p s t c d f).bind fun j=>some (!j)).bind fun l=>bif l then some ((-1):Int)else(loopN (dR n a f b c) n ((IntKind.wrap .i64 (g - (1:Int))),(0:Int))).bind fun(u,z,w)=>(loopN (dQ n a b d) n (u,(0:Int))).bind fun q=>(match q with | .inl o=>some o | .inr (m,v,y)=>some m)
theorem AE{n:Nat}{b:gJ}(a:nR b):nR (lA n b):=by
 intro X Y Z a0 a1 a2 a3 a4 r h; unfold lA at h; refine bF Try.func87 rfl rfl<|gco 8 rfl<|oJn h [(11,22)] [] (fun m=>(.n,[(22,Bo m)],[])) (fun _ h=> ?_) (fun m h=> ?_)
 refine goo 3 rfl<|oIf 13 h rfl (fun U h=> ?_) (fun U h=> ?_)
 exact geo; refine goo 4 rfl<|oIf 17 h rfl (fun V h=> ?_) (fun V h=> ?_)
 exact geo; refine goo 2 rfl<|xC0 h (AT ·) rfl (fun T h=> ?_)
 exact geo; refine cIf h rfl (fun W h=> ?_) (fun W h=> ?_)
 exact gec; refine gcc 12 rfl<|cLp h [(3,3),(9,9),(25,45)] [] (fun(v,y)=>([(3,I64 v),(9,I64 y)],[])) (fun(w,z,f)=>(.e 0,[(3,I64 w),(9,I64 z),(33,Bo f)],[])) rfl (fun st _ h=> ?_) (fun q h=> ?_)
 obtain⟨v,y⟩:=st; unfold dR at h; refine gco 3 rfl<|oJn h [(25,33)] [] (fun g=>(.n,[(33,Bo g)],[])) (fun _ h=> ?_) (fun g h=> ?_)
 refine goo 3 rfl<|xLn rfl<|goo 2 rfl<|oIf 30 h rfl (fun K h=> ?_) (fun K h=> ?_)
 exact geo; exact geo; refine cIf h rfl (fun L h=> ?_) (fun L h=> ?_)
 refine gco 7 rfl<|xIx h aM rfl (fun G h=> ?_)
 refine goo 5 rfl<|xC0 h (a ·) rfl (fun A h=> ?_)
 exact geo; exact gec; obtain⟨w,z,f⟩:=q; refine gcc 5 rfl<|cLp h [(3,3),(8,8),(10,10),(46,87)] [] (fun(o,c)=>([(3,I64 o),(10,I64 c)],[])) (fun q=>match q with | .inl t=>(.r,[(8,I64 t)],[]) | .inr (p,d,j)=>(.e 2,[(3,I64 p),(10,I64 d),(54,Bo j)],[])) rfl (fun st _ h=> ?_) (fun q h=> ?_)
 obtain⟨o,c⟩:=st; unfold dQ at h; refine gco 3 rfl<|oJn h [(46,54)] [] (fun l=>(.n,[(54,Bo l)],[])) (fun _ h=> ?_) (fun l h=> ?_)
 refine goo 3 rfl<|xLn rfl<|goo 2 rfl<|oIf 51 h rfl (fun M h=> ?_) (fun M h=> ?_)
 exact geo; exact geo; refine cIf h rfl (fun N h=> ?_) (fun N h=> ?_)
 refine gcc 2 rfl<|cJn h [(3,3),(8,8),(57,87)] [] (fun q=>match q with | .inl u=>(.r,[(8,I64 u)],[]) | .inr s=>(.n,[(3,I64 s)],[])) (fun _ h=> ?_) (fun q h=> ?_)
 refine gco 7 rfl<|xIx h aV rfl (fun H h=> ?_)
 refine goo 2 rfl<|xC0 h (sW ·) rfl (fun B h=> ?_)
 refine xC0 h (sS ·) rfl (fun C h=> ?_)
 refine goc 2 rfl<|cIf h rfl (fun Q h=> ?_) (fun Q h=> ?_)
 exact gec; refine gco 6 rfl<|xIx h aV rfl (fun I h=> ?_)
 refine goo 5 rfl<|xC0 h (a ·) rfl (fun D h=> ?_)
 refine goc 7 rfl<|cIf h rfl (fun R h=> ?_) (fun R h=> ?_)
 refine gco 4 rfl<|xIx h aV rfl (fun J h=> ?_)
 refine goo 5 rfl<|xC0 h (a ·) rfl (fun E h=> ?_)
 exact geo; exact gec; rcases q with u | s; exact en; exact gec; exact gec; rcases q with t | ⟨p,d,j⟩; exact en; exact gec
def wC:Nat→(gJ)
  | 0=>(fun _ _ _ _ _ _ _ _=>none)
  | n+1=>lA n (wC n)
def bO(n:Nat):gJ:=wC n
theorem AL(n:Nat):nR (bO n):=by
  induction n with
  | zero=>exact(fun h=>nomatch h)
  | succ n ih=>exact AE (n:=n) ih
theorem sT{n:Nat}:nR (bO n):=(AL n)
theorem xB(n:Nat):bO (n+1)=lA n (bO n):=rfl
abbrev Gq(p:Int→Int→(List UInt8)→(List aA)→(List aC)→Option (Bool)):Prop:= ∀ {a b:Int} {d:List UInt8} {f:List aA} {g:List aC} {r:Bool},p a b d f g=some r→Big Try.prog τ An (.fn 43 [.one (.ag [.int .i64 a, .int .i64 b, .str d, .sl (f.map aE), .sl (g.map aD)])] [] (.one (.c (.bool r))) none [] none)
def mW(n:Nat)(a:Int)(b:Int)(c:List UInt8)(d:List aA)(f:List aC):Option (Bool):=
  ((bO n a b c d f true (10:Int) (300:Int)).bind fun g=>bif decide ((0:Int)≤g)then(dZ n a b c d f).bind fun j=>(iX n j).bind fun l=>some l else some false).bind fun m=>some m
theorem Cn{n:Nat}:Gq (mW n):=by
 intro g j l m o r h; unfold mW at h; refine bF Try.func43 rfl rfl<|gco 7 rfl<|oJn h [(2,10)] [] (fun a=>(.n,[(2,Bo a)],[])) (fun _ h=> ?_) (fun a h=> ?_)
 refine xLd rfl<|xC0 h (sT ·) rfl (fun b h=> ?_)
 refine goo 2 rfl<|oIf 6 h rfl (fun f h=> ?_) (fun f h=> ?_)
 refine xLd rfl<|xC0 h (sW ·) rfl (fun c h=> ?_)
 refine xC0 h (sS ·) rfl (fun d h=> ?_)
 exact geo; exact geo; exact gec
abbrev Cy(p:Int→Int→(List UInt8)→(List aB)→Option (Bool)):Prop:= ∀ {a b:Int} {d:List UInt8} {f:List aB} {r:Bool},p a b d f=some r→Big Try.prog τ An (.fn 129 [.one (.ag [.int .i64 a, .int .i64 b, .str d, .sl (f.map aF)])] [] (.one (.c (.bool r))) none [] none)
def jY(n:Nat)(a:Int)(b:Int)(c:List UInt8)(d:List aB):Option (Bool):=
  bif decide (a=(1:Int))then((cE n b ((-1000000000000):Int) (1000000000000:Int)).bind fun o=>bif o then bif decide (c=([]:List UInt8))then some (decide ((d.length:Int)=(0:Int)))else some false else some false).bind fun p=>some p else bif decide (a=(2:Int))then((jB n c).bind fun g=>bif g then bif decide (b=(0:Int))then some (decide ((d.length:Int)=(0:Int)))else some false else some false).bind fun s=>some s else bif decide (a=(3:Int))then((cE n b (0:Int) (1000000:Int)).bind fun f=>bif f then bif decide (c=([]:List UInt8))then some (decide ((d.length:Int)=(0:Int)))else some false else some false).bind fun j=>some j else bif decide (a=(4:Int))then(bif decide (b=(0:Int))then bif decide (c=([]:List UInt8))then some (decide ((d.length:Int)≤(20:Int)))else some false else some false).bind fun l=>some l else bif decide (a=(5:Int))then(bif decide (b=(0:Int))then bif decide (c=([]:List UInt8))then some (decide ((d.length:Int)≤(60:Int)))else some false else some false).bind fun m=>some m else some false
theorem AZ{n:Nat}:Cy (jY n):=by
 intro G H I J r h; unfold jY at h; refine bF Try.func129 rfl rfl<|gcc 17 rfl<|cIf h rfl (fun A h=> ?_) (fun A h=> ?_)
 refine cRs<|oJn h [(2,2),(7,20)] [] (fun d=>(.n,[(2,Bo d)],[])) (fun _ h=> ?_) (fun d h=> ?_)
 refine goo 2 rfl<|xC0 h (cN ·) rfl (fun z h=> ?_)
 refine xMv rfl<|oIf 10 h rfl (fun B h=> ?_) (fun B h=> ?_)
 refine goo 5 rfl<|oIf 15 h rfl (fun C h=> ?_) (fun C h=> ?_)
 exact goo 2 rfl<|xLn rfl<|geo
 exact geo; exact geo; exact gec; refine gcc 5 rfl<|cIf h rfl (fun D h=> ?_) (fun D h=> ?_)
 refine cRs<|oJn h [(2,2),(23,36)] [] (fun f=>(.n,[(2,Bo f)],[])) (fun _ h=> ?_) (fun f h=> ?_)
 refine goo 2 rfl<|xC0 h (sX ·) rfl (fun y h=> ?_)
 refine xMv rfl<|oIf 26 h rfl (fun E h=> ?_) (fun E h=> ?_)
 refine goo 5 rfl<|oIf 31 h rfl (fun j h=> ?_) (fun j h=> ?_)
 exact goo 2 rfl<|xLn rfl<|geo
 exact geo; exact geo; exact gec; refine gcc 5 rfl<|cIf h rfl (fun l h=> ?_) (fun l h=> ?_)
 refine cRs<|oJn h [(2,2),(39,52)] [] (fun a=>(.n,[(2,Bo a)],[])) (fun _ h=> ?_) (fun a h=> ?_)
 refine goo 2 rfl<|xC0 h (cN ·) rfl (fun g h=> ?_)
 refine xMv rfl<|oIf 42 h rfl (fun m h=> ?_) (fun m h=> ?_)
 refine goo 5 rfl<|oIf 47 h rfl (fun o h=> ?_) (fun o h=> ?_)
 exact goo 2 rfl<|xLn rfl<|geo
 exact geo; exact geo; exact gec; refine gcc 5 rfl<|cIf h rfl (fun p h=> ?_) (fun p h=> ?_)
 refine cRs<|oJn h [(2,2),(55,68)] [] (fun b=>(.n,[(2,Bo b)],[])) (fun _ h=> ?_) (fun b h=> ?_)
 refine goo 4 rfl<|oIf 58 h rfl (fun s h=> ?_) (fun s h=> ?_)
 refine goo 5 rfl<|oIf 63 h rfl (fun t h=> ?_) (fun t h=> ?_)
 exact goo 2 rfl<|xLn rfl<|geo
 exact geo; exact geo; exact gec; refine gcc 5 rfl<|cIf h rfl (fun u h=> ?_) (fun u h=> ?_)
 refine cRs<|oJn h [(2,2),(71,84)] [] (fun c=>(.n,[(2,Bo c)],[])) (fun _ h=> ?_) (fun c h=> ?_)
 refine goo 4 rfl<|oIf 74 h rfl (fun v h=> ?_) (fun v h=> ?_)
 refine goo 5 rfl<|oIf 79 h rfl (fun w h=> ?_) (fun w h=> ?_)
 exact goo 2 rfl<|xLn rfl<|geo
 exact geo; exact geo; exact gec; exact gec
abbrev jD:Type:=Int→Int→(List UInt8)→(List aB)→Int→Int→Option (Int)
abbrev nU(p:jD):Prop:= ∀ {a b:Int} {d:List UInt8} {f:List aB} {g j:Int} {r:Int},p a b d f g j=some r→Big Try.prog τ An (.fn 90 [.one (.ag [.int .i64 a, .int .i64 b, .str d, .sl (f.map aF)]), .one (.c (.int .i64 g)), .one (.c (.int .i64 j))] [] (.one (.c (.int .i64 r))) none [] none)
def fG(n:Nat)(b:jD)(l:Int)(g:List aB):(Int×Int)→Option ((Int×Int)⊕((Int×Int×Bool)))
  | (d,c)=>(bif decide (c<(g.length:Int))then some (decide ((0:Int)≤d))else some false).bind fun j=>bif j then(ix g c).bind fun a=>(b a.f0 a.f1 a.f2 a.f3 (IntKind.wrap .i64 (l - (1:Int))) d).bind fun f=>some (.inl (f,(IntKind.wrap .i64 (c+(1:Int)))))else some (.inr (d,c,false))
def lD(n:Nat)(a:jD)(j:Int)(l:Int)(m:List UInt8)(b:List aB)(c:Int)(d:Int):Option (Int):=
  (bif decide (c<(1:Int))then some true else bif decide (d<(1:Int))then some true else(jY n j l m b).bind fun f=>some (!f)).bind fun g=>bif g then some ((-1):Int)else(loopN (fG n a c b) n ((IntKind.wrap .i64 (d - (1:Int))),(0:Int))).bind fun(o,s,p)=>some o
theorem AH{n:Nat}{a:jD}(b:nU a):nU (lD n a):=by
 intro z A B C D E r h; unfold lD at h; refine bF Try.func90 rfl rfl<|gco 8 rfl<|oJn h [(8,18)] [] (fun f=>(.n,[(18,Bo f)],[])) (fun _ h=> ?_) (fun f h=> ?_)
 refine goo 3 rfl<|oIf 10 h rfl (fun v h=> ?_) (fun v h=> ?_)
 exact geo; refine goo 4 rfl<|oIf 14 h rfl (fun w h=> ?_) (fun w h=> ?_)
 exact geo; refine xLd rfl<|xC0 h (AZ ·) rfl (fun u h=> ?_)
 exact geo; refine cIf h rfl (fun y h=> ?_) (fun y h=> ?_)
 exact gec; refine gcc 12 rfl<|cLp h [(2,2),(7,7),(21,40)] [] (fun(g,l)=>([(2,I64 g),(7,I64 l)],[])) (fun(j,m,c)=>(.e 0,[(2,I64 j),(7,I64 m),(29,Bo c)],[])) rfl (fun st _ h=> ?_) (fun q h=> ?_)
 obtain⟨g,l⟩:=st; unfold fG at h; refine gco 3 rfl<|oJn h [(21,29)] [] (fun d=>(.n,[(29,Bo d)],[])) (fun _ h=> ?_) (fun d h=> ?_)
 refine goo 3 rfl<|xLn rfl<|goo 2 rfl<|oIf 26 h rfl (fun s h=> ?_) (fun s h=> ?_)
 exact geo; exact geo; refine cIf h rfl (fun t h=> ?_) (fun t h=> ?_)
 refine gco 7 rfl<|xIx h aJ rfl (fun p h=> ?_)
 refine goo 4 rfl<|xC0 h (b ·) rfl (fun o h=> ?_)
 exact geo; exact gec; obtain⟨j,m,c⟩:=q; exact gec
def wG:Nat→(jD)
  | 0=>(fun _ _ _ _ _ _=>none)
  | n+1=>lD n (wG n)
def dX(n:Nat):jD:=wG n
theorem AO(n:Nat):nU (dX n):=by
  induction n with
  | zero=>exact(fun h=>nomatch h)
  | succ n ih=>exact AH (n:=n) ih
theorem By{n:Nat}:nU (dX n):=(AO n)
theorem xE(n:Nat):dX (n+1)=lD n (dX n):=rfl
abbrev FF(p:Int→Int→(List UInt8)→(List aB)→Option (Bool)):Prop:= ∀ {a b:Int} {d:List UInt8} {f:List aB} {r:Bool},p a b d f=some r→Big Try.prog τ An (.fn 44 [.one (.ag [.int .i64 a, .int .i64 b, .str d, .sl (f.map aF)])] [] (.one (.c (.bool r))) none [] none)
def jA(n:Nat)(b:Int)(c:Int)(d:List UInt8)(f:List aB):Option (Bool):=
  (dX n b c d f (8:Int) (300:Int)).bind fun a=>some (decide ((0:Int)≤a))
theorem CA{n:Nat}:FF (jA n):=by
 intro b c d f r h; unfold jA at h; refine bF Try.func44 rfl rfl<|gco 8 rfl<|xC0 h (By ·) rfl (fun a h=> ?_)
 exact geo
abbrev gI:Type:=(List aA)→(List aB)→(List aI)→Option (Bool×(List aI))
abbrev lM(p:gI):Prop:= ∀ {b:List aA} {d:List aB} {a:List aI} {r:Bool×(List aI)},p b d a=some r→Big Try.prog τ An (.fn 91 [.one (.c (.sl (b.map aE))), .one (.c (.sl (d.map aF))), .one (.ptr 1000000 0)] [[.sl (a.map aP)]] (.one (.c (.bool r.1))) none [[.sl (r.2.map aP)]] none)
abbrev eE:Type:=Int→Int→(List UInt8)→(List aA)→(List aC)→Int→Int→(List UInt8)→(List aB)→(List aI)→Option (Bool×(List aI))
abbrev kB(p:eE):Prop:= ∀ {b d:Int} {f:List UInt8} {g:List aA} {j:List aC} {l m:Int} {o:List UInt8} {s:List aB} {a:List aI} {r:Bool×(List aI)},p b d f g j l m o s a=some r→Big Try.prog τ An (.fn 45 [.one (.ag [.int .i64 b, .int .i64 d, .str f, .sl (g.map aE), .sl (j.map aD)]), .one (.ag [.int .i64 l, .int .i64 m, .str o, .sl (s.map aF)]), .one (.ptr 1000000 0)] [[.sl (a.map aP)]] (.one (.c (.bool r.1))) none [[.sl (r.2.map aP)]] none)
def fF(n:Nat)(d:eE)(j:List aA)(l:List aB):(Int×(List aI))→Option ((Int×(List aI))⊕((Bool×(List aI))⊕(Int×Bool×(List aI))))
  | (g,c)=>bif decide (g<(j.length:Int))then(ix j g).bind fun a=>(ix l g).bind fun b=>(d a.f0 a.f1 a.f2 a.f3 a.f4 b.f0 b.f1 b.f2 b.f3 c).bind fun f=>bif !f.1 then some (.inr (.inl (false,f.2)))else some (.inl ((IntKind.wrap .i64 (g+(1:Int))),f.2))else some (.inr (.inr (g,false,c)))
def kZ(n:Nat)(a:eE)(d:gI)(g:List aA)(j:List aB)(f:List aI):Option (Bool×(List aI)):=
  (loopN (fF n a g j) n ((0:Int),f)).bind fun q=>(match q with | .inl (l,b)=>some (l,b) | .inr (o,m,c)=>some (true,c))
theorem AD{n:Nat}{a:eE}(c:kB a){b:gI}(l:lM b):lM (kZ n a b):=by
 intro z A w r h; unfold kZ at h; refine bF Try.func91 rfl rfl<|gcc 9 rfl<|cLp h [(6,24)] [(1000000,1000000)] (fun(o,d)=>([(7,I64 o)],[(1000000,[.sl (d.map aP)])])) (fun q=>match q with | .inl (m,f)=>(.r,[(6,Bo m)],[(1000000,[.sl (f.map aP)])]) | .inr (p,j,g)=>(.e 0,[(7,I64 p),(11,Bo j)],[(1000000,[.sl (g.map aP)])])) rfl (fun st _ h=> ?_) (fun q h=> ?_)
 obtain⟨o,d⟩:=st; unfold fF at h; refine gco 5 rfl<|xLn rfl<|goc 2 rfl<|cIf h rfl (fun y h=> ?_) (fun y h=> ?_)
 refine gco 7 rfl<|xIx h aM rfl (fun v h=> ?_)
 refine goo 3 rfl<|xIx h aJ rfl (fun t h=> ?_)
 refine goo 2 rfl<|xC1 h (c ·) rfl (fun s h=> ?_)
 refine goc 2 rfl<|cIf h rfl (fun u h=> ?_) (fun u h=> ?_)
 exact gec; exact gec; exact gec; rcases q with⟨m,f⟩ | ⟨p,j,g⟩; exact en; exact gec
def jR(n:Nat)(j:eE)(b:gI)(o:Int)(I:Int)(y:List UInt8)(c:List aA)(L:List aC)(l:Int)(C:Int)(D:List UInt8)(f:List aB)(a:List aI):Option (Bool×(List aI)):=
  bif decide (o=(1:Int))then(bif decide (l=(1:Int))then some (decide (C=I))else some false).bind fun J=>some (J,a)else bif decide (o=(2:Int))then(bif decide (l=(2:Int))then some (decide (D=y))else some false).bind fun K=>some (K,a)else bif decide (o=(3:Int))then bif !decide (y=([95]:List UInt8))then(dI n l C D f).bind fun m=>(fS 72 a ([aI.mk y m.1 m.2.1 m.2.2.1 m.2.2.2]:List aI)).bind fun E=>some (true,E)else some (true,a)else bif decide (o=(4:Int))then(bif decide (l=(4:Int))then bif decide ((f.length:Int)=(c.length:Int))then(b c f a).bind fun v=>some (v.1,v.2)else some (false,a)else some (false,a)).bind fun(G,p)=>some (G,p)else bif decide (o=(5:Int))then(bif decide (l=(5:Int))then bif decide ((f.length:Int)=(c.length:Int))then(b c f a).bind fun w=>some (w.1,w.2)else some (false,a)else some (false,a)).bind fun(H,s)=>some (H,s)else(bif !decide (l=(5:Int))then some (true,a)else bif decide ((f.length:Int)<(IntKind.wrap .i64 ((c.length:Int) - (1:Int))))then some (true,a)else(sub c none (some (IntKind.wrap .i64 ((c.length:Int) - (1:Int))))).bind fun z=>(b z f a).bind fun t=>some ((!t.1),t.2)).bind fun(A,g)=>bif A then some (false,g)else(ix c (IntKind.wrap .i64 ((c.length:Int) - (1:Int)))).bind fun d=>(sub f (some (IntKind.wrap .i64 ((c.length:Int) - (1:Int)))) none).bind fun B=>(j d.f0 d.f1 d.f2 d.f3 d.f4 (5:Int) (0:Int) ([]:List UInt8) B g).bind fun u=>some (u.1,u.2)
theorem yK{n:Nat}{d:eE}(o:kB d){g:gI}(b:lM g):kB (jR n d g):=by
 intro a1 a2 v a3 a4 a5 a6 a7 a8 U r h; unfold jR at h; refine bF Try.func45 rfl rfl<|gcc 18 rfl<|cIf h rfl (fun V h=> ?_) (fun V h=> ?_)
 refine cRs<|oJn h [(6,6),(12,21)] [] (fun w=>(.n,[(6,Bo w)],[])) (fun _ h=> ?_) (fun w h=> ?_)
 refine goo 4 rfl<|oIf 15 h rfl (fun W h=> ?_) (fun W h=> ?_)
 exact geo; exact geo; exact gec; refine gcc 5 rfl<|cIf h rfl (fun X h=> ?_) (fun X h=> ?_)
 refine cRs<|oJn h [(6,6),(24,33)] [] (fun y=>(.n,[(6,Bo y)],[])) (fun _ h=> ?_) (fun y h=> ?_)
 refine goo 4 rfl<|oIf 27 h rfl (fun Y h=> ?_) (fun Y h=> ?_)
 exact geo; exact geo; exact gec; refine gcc 5 rfl<|cIf h rfl (fun Z h=> ?_) (fun Z h=> ?_)
 refine gcc 7 rfl<|cIf h rfl (fun q8 h=> ?_) (fun q8 h=> ?_)
 refine gco 8 rfl<|xC0 h (oM ·) rfl (fun c h=> ?_)
 refine wBd [.str v, .int .i64 c.1, .int .i64 c.2.1, .str c.2.2.1, .sl (c.2.2.2.map aF)] rfl rfl rfl rfl rfl rfl<|cS (L:=([aI.mk v c.1 c.2.1 c.2.2.1 c.2.2.2]:List aI)) (f:=aP) rfl rfl rfl rfl rfl rfl rfl<|wAp (f:=aP) h rfl rfl rfl rfl rfl rfl rfl rfl rfl (fun _=>rfl) rfl (fun T h=> ?_)
 exact geo; exact gec; refine gcc 5 rfl<|cIf h rfl (fun G h=> ?_) (fun G h=> ?_)
 refine cRs<|oJn h [(6,6),(53,72)] [(1000000,1000000)] (fun(s,j)=>(.n,[(6,Bo s)],[(1000000,[.sl (j.map aP)])])) (fun _ h=> ?_) (fun q h=> ?_)
 refine goo 4 rfl<|oIf 56 h rfl (fun H h=> ?_) (fun H h=> ?_)
 refine goo 2 rfl<|xLn rfl<|goo 2 rfl<|xLn rfl<|goo 3 rfl<|oIf 65 h rfl (fun I h=> ?_) (fun I h=> ?_)
 refine goo 5 rfl<|xC1 h (b ·) rfl (fun D h=> ?_)
 exact geo; exact geo; exact geo; obtain⟨s,j⟩:=q; exact gec; refine gcc 5 rfl<|cIf h rfl (fun J h=> ?_) (fun J h=> ?_)
 refine cRs<|oJn h [(6,6),(75,94)] [(1000000,1000000)] (fun(t,l)=>(.n,[(6,Bo t)],[(1000000,[.sl (l.map aP)])])) (fun _ h=> ?_) (fun q h=> ?_)
 refine goo 4 rfl<|oIf 78 h rfl (fun K h=> ?_) (fun K h=> ?_)
 refine goo 2 rfl<|xLn rfl<|goo 2 rfl<|xLn rfl<|goo 3 rfl<|oIf 87 h rfl (fun M h=> ?_) (fun M h=> ?_)
 refine goo 5 rfl<|xC1 h (b ·) rfl (fun E h=> ?_)
 exact geo; exact geo; exact geo; obtain⟨t,l⟩:=q; exact gec; refine gco 5 rfl<|xLn rfl<|goo 6 rfl<|oJn h [(99,119)] [(1000000,1000000)] (fun(p,m)=>(.n,[(119,Bo p)],[(1000000,[.sl (m.map aP)])])) (fun _ h=> ?_) (fun q h=> ?_)
 refine goo 4 rfl<|oIf 102 h rfl (fun N h=> ?_) (fun N h=> ?_)
 exact geo; refine goo 2 rfl<|xLn rfl<|goo 4 rfl<|oIf 109 h rfl (fun Q h=> ?_) (fun Q h=> ?_)
 exact geo; refine goo 3 rfl<|wSl (rf:=aE) h rfl rfl rfl rfl .no (.so rfl) (fun a=>by rw[aM]; rfl) rfl (fun C h=> ?_)
 refine goo 3 rfl<|xC1 h (b ·) rfl (fun z h=> ?_)
 exact geo; obtain⟨p,m⟩:=q; refine cIf h rfl (fun R h=> ?_) (fun R h=> ?_)
 exact gec; refine gco 6 rfl<|xIx h aM rfl (fun B h=> ?_)
 refine goo 4 rfl<|wSl (rf:=aF) h rfl rfl rfl rfl (.so rfl) .no (fun a=>by rw[aJ]; rfl) rfl (fun u h=> ?_)
 refine wBd [.int .i64 5, .int .i64 0, .str [], .sl (u.map aF)] rfl rfl rfl rfl rfl rfl<|xMv rfl<|xC1 h (o ·) rfl (fun A h=> ?_)
 exact geo
def iA:Nat→(eE)×(gI)
  | 0=>((fun _ _ _ _ _ _ _ _ _ _=>none),(fun _ _ _=>none))
  | n+1=>(jR n ((iA n).1) ((iA n).2),kZ n ((iA n).1) ((iA n).2))
def cX(n:Nat):eE:=(iA n).1
def fK(n:Nat):gI:=(iA n).2
theorem qT(n:Nat):kB (cX n)∧lM (fK n):=by
  induction n with
  | zero=>exact⟨(fun h=>nomatch h),(fun h=>nomatch h)⟩
  | succ n ih=>exact⟨yK (n:=n) (ih.1) (ih.2),AD (n:=n) (ih.1) (ih.2)⟩
theorem AS{n:Nat}:kB (cX n):=(qT n).1
theorem MK{n:Nat}:lM (fK n):=(qT n).2
theorem uZ(n:Nat):cX (n+1)=jR n (cX n) (fK n):=rfl
theorem xA(n:Nat):fK (n+1)=kZ n (cX n) (fK n):=rfl
abbrev IG(p:Int→Int→(List UInt8)→(List aA)→(List aC)→(List aB)→Option (Int×Int×(List UInt8)×(List aB)×(List aB)×Bool)):Prop:= ∀ {a b:Int} {d:List UInt8} {f:List aA} {g:List aC} {j:List aB} {r:Int×Int×(List UInt8)×(List aB)×(List aB)×Bool},p a b d f g j=some r→Big Try.prog τ An (.fn 9 [.one (.ag [.int .i64 a, .int .i64 b, .str d, .sl (f.map aE), .sl (g.map aD)]), .one (.c (.sl (j.map aF)))] [] (.tup [.ag [.int .i64 r.1, .int .i64 r.2.1, .str r.2.2.1, .sl (r.2.2.2.1.map aF)], .c (.sl (r.2.2.2.2.1.map aF)), .c (.bool r.2.2.2.2.2)]) none [] none)
def fV(n:Nat)(o:Int)(j:List aB)(f:(List aB))(p:Int)(s:List UInt8)(t:List aA)(u:List aC):(Int×Int×Int×(List UInt8)×(List aB))→Option ((Int×Int×Int×(List UInt8)×(List aB))⊕(((List aB)×Bool×Int×Int×(List UInt8)×(List aB))⊕(Int×Bool×Int×Int×(List UInt8)×(List aB))))
  | (a,C,D,E,G)=>(bif decide (a<(j.length:Int))then(mW n o p s t u).bind fun l=>some l else some false).bind fun v=>bif v then((ix j a).bind fun b=>(jA n b.f0 b.f1 b.f2 b.f3).bind fun m=>bif m then(ix j a).bind fun c=>(cX n o p s t u c.f0 c.f1 c.f2 c.f3 ([]:List aI)).bind fun g=>some (g.1,g.2)else some (false,([]:List aI))).bind fun(w,H)=>bif w then(ix f a).bind fun d=>(sub f none (some a)).bind fun y=>(fS 56 ([]:List aB) y).bind fun z=>(sub f (some (IntKind.wrap .i64 (a+(1:Int)))) none).bind fun A=>(fS 56 z A).bind fun B=>some (.inr (.inl (B,true,d.f0,d.f1,d.f2,d.f3)))else some (.inl ((IntKind.wrap .i64 (a+(1:Int))),C,D,E,G))else some (.inr (.inr (a,false,C,D,E,G)))
def mB(n:Nat)(g:Int)(j:Int)(l:List UInt8)(m:List aA)(o:List aC)(b:List aB):Option (Int×Int×(List UInt8)×(List aB)×(List aB)×Bool):=
  (gZ n b).bind fun a=>(loopN (fV n g b a j l m o) n ((0:Int),(0:Int),(0:Int),([]:List UInt8),([]:List aB))).bind fun q=>(match q with | .inl (p,s,t,c,d,f)=>some (t,c,d,f,p,s) | .inr (v,u,w,y,z,A)=>some ((0:Int),(0:Int),([]:List UInt8),([]:List aB),a,false))
theorem Ev{n:Nat}:IG (mB n):=by
 intro Y Z a0 a1 a2 a3 r h; unfold mB at h; refine bF Try.func9 rfl rfl<|gco 3 rfl<|xAz [.int .i64 0, .int .i64 0, .str [], .sl ([].map aF)] rfl<|wAe (Li aF []) rfl rfl rfl rfl<|goo 5 rfl<|xC0 h (xJ ·) rfl (fun X h=> ?_)
 refine goc 7 rfl<|cLp h [(4,6),(8,9),(12,49)] [(4,4),(9,9)] (fun(y,z,A,B,C)=>([(4,Pt 4),(8,I64 y)],[(4,[.int .i64 z, .int .i64 A, .str B, .sl (C.map aF)])])) (fun q=>match q with | .inl (v,w,D,j,l,m)=>(.r,[(4,Pt 4),(5,Li aF v),(6,Bo w)],[(4,[.int .i64 D, .int .i64 j, .str l, .sl (m.map aF)])]) | .inr (g,b,o,p,s,t)=>(.e 0,[(4,Pt 4),(8,I64 g),(19,Bo b)],[(4,[.int .i64 o, .int .i64 p, .str s, .sl (t.map aF)])])) rfl (fun st _ h=> ?_) (fun q h=> ?_)
 obtain⟨y,z,A,B,C⟩:=st; unfold fV at h; refine gco 3 rfl<|oJn h [(12,19)] [] (fun c=>(.n,[(19,Bo c)],[])) (fun _ h=> ?_) (fun c h=> ?_)
 refine goo 2 rfl<|xLn rfl<|goo 2 rfl<|oIf 16 h rfl (fun M h=> ?_) (fun M h=> ?_)
 refine xLd rfl<|xC0 h (Cn ·) rfl (fun E h=> ?_)
 exact geo; exact geo; refine cIf h rfl (fun N h=> ?_) (fun N h=> ?_)
 refine gco 5 rfl<|cS (L:=([]:List aI)) (f:=aP) rfl rfl rfl rfl rfl rfl rfl<|xAz [.sl ([].map aP)] rfl<|goo 4 rfl<|oJn h [(23,35)] [(9,9)] (fun(d,u)=>(.n,[(35,Bo d)],[(9,[.sl (u.map aP)])])) (fun _ h=> ?_) (fun q h=> ?_)
 refine goo 2 rfl<|xIx h aJ rfl (fun I h=> ?_)
 refine xLd rfl<|xC0 h (CA ·) rfl (fun G h=> ?_)
 refine xMv rfl<|oIf 28 h rfl (fun Q h=> ?_) (fun Q h=> ?_)
 refine goo 3 rfl<|xIx h aJ rfl (fun J h=> ?_)
 refine xLd rfl<|xC1 h (AS ·) rfl (fun H h=> ?_)
 exact geo; exact geo; obtain⟨d,u⟩:=q; refine cIf h rfl (fun R h=> ?_) (fun R h=> ?_)
 refine gco 4 rfl<|xIx h aJ rfl (fun K h=> ?_)
 refine xLd rfl<|cS (L:=([]:List aB)) (f:=aF) rfl rfl rfl rfl rfl rfl rfl<|goo 2 rfl<|wSl (rf:=aF) h rfl rfl rfl rfl .no (.so rfl) (fun a=>by rw[aJ]; rfl) rfl (fun T h=> ?_)
 refine wAp (f:=aF) h rfl rfl rfl rfl rfl rfl rfl rfl rfl (fun a=>by rw[aJ]; rfl) rfl (fun U h=> ?_)
 refine goo 3 rfl<|wSl (rf:=aF) h rfl rfl rfl rfl (.so rfl) .no (fun a=>by rw[aJ]; rfl) rfl (fun V h=> ?_)
 refine wAp (f:=aF) h rfl rfl rfl rfl rfl rfl rfl rfl rfl (fun a=>by rw[aJ]; rfl) rfl (fun W h=> ?_)
 exact geo; exact gec; exact gec; rcases q with⟨v,w,D,j,l,m⟩ | ⟨g,b,o,p,s,t⟩; exact en; exact cRs<|wBd [.int .i64 0, .int .i64 0, .str [], .sl ([].map aF)] rfl rfl rfl rfl rfl rfl<|geo
abbrev DF(p:Int→Option (Bool)):Prop:= ∀ {a:Int} {r:Bool},p a=some r→Big Try.prog τ An (.fn 144 [.one (.c (.int .u8 a))] [] (.one (.c (.bool r))) none [] none)
def fW(n:Nat)(a:Int):Option (Bool):=
  (bif decide ((97:Int)≤a)then some (decide (a≤(122:Int)))else some false).bind fun b=>some b
theorem rM{n:Nat}:DF (fW n):=by
 intro c r h; unfold fW at h; refine bF Try.func144 rfl rfl<|gco 6 rfl<|oJn h [(2,8)] [] (fun a=>(.n,[(2,Bo a)],[])) (fun _ h=> ?_) (fun a h=> ?_)
 refine goo 3 rfl<|oIf 5 h rfl (fun b h=> ?_) (fun b h=> ?_)
 exact geo; exact geo; exact gec
abbrev CJ(p:Int→Option (Bool)):Prop:= ∀ {a:Int} {r:Bool},p a=some r→Big Try.prog τ An (.fn 145 [.one (.c (.int .u8 a))] [] (.one (.c (.bool r))) none [] none)
def eH(n:Nat)(a:Int):Option (Bool):=
  (bif decide ((48:Int)≤a)then some (decide (a≤(57:Int)))else some false).bind fun b=>some b
theorem qU{n:Nat}:CJ (eH n):=by
 intro c r h; unfold eH at h; refine bF Try.func145 rfl rfl<|gco 6 rfl<|oJn h [(2,8)] [] (fun a=>(.n,[(2,Bo a)],[])) (fun _ h=> ?_) (fun a h=> ?_)
 refine goo 3 rfl<|oIf 5 h rfl (fun b h=> ?_) (fun b h=> ?_)
 exact geo; exact geo; exact gec
abbrev DH(p:Int→Int→Int→Option (Bool)):Prop:= ∀ {a b d:Int} {r:Bool},p a b d=some r→Big Try.prog τ An (.fn 146 [.one (.c (.int .i64 a)), .one (.c (.int .i64 b)), .one (.c (.int .i64 d))] [] (.one (.c (.bool r))) none [] none)
def cY(n:Nat)(a:Int)(b:Int)(c:Int):Option (Bool):=
  (bif decide (b≤a)then some (decide (a≤c))else some false).bind fun d=>some d
theorem fJ{n:Nat}:DH (cY n):=by
 intro c d f r h; unfold cY at h; refine bF Try.func146 rfl rfl<|gco 6 rfl<|oJn h [(6,14)] [] (fun a=>(.n,[(6,Bo a)],[])) (fun _ h=> ?_) (fun a h=> ?_)
 refine goo 4 rfl<|oIf 10 h rfl (fun b h=> ?_) (fun b h=> ?_)
 exact geo; exact geo; exact gec
abbrev FK(p:(List UInt8)→Option (Bool)):Prop:= ∀ {a:List UInt8} {r:Bool},p a=some r→Big Try.prog τ An (.fn 120 [.one (.c (.str a))] [] (.one (.c (.bool r))) none [] none)
def kK(n:Nat)(b:List UInt8):(Int)→Option ((Int)⊕((Bool)⊕(Int×Bool)))
  | a=>bif decide (a<(b.length:Int))then((ixs b a).bind fun j=>(fW n j).bind fun g=>bif !g then bif decide (a=(0:Int))then some true else(ixs b a).bind fun d=>(eH n d).bind fun c=>bif !c then(ixs b a).bind fun f=>some (!decide (f=(95:Int)))else some false else some false).bind fun l=>bif l then some (.inr (.inl false))else some (.inl (IntKind.wrap .i64 (a+(1:Int))))else some (.inr (.inr (a,false)))
def jC(n:Nat)(b:List UInt8):Option (Bool):=
  (loopN (kK n b) n (0:Int)).bind fun q=>(match q with | .inl c=>some c | .inr (d,f)=>(cY n (b.length:Int) (1:Int) (20:Int)).bind fun a=>some a)
theorem sY{n:Nat}:FK (jC n):=by
 intro y r h; unfold jC at h; refine bF Try.func120 rfl rfl<|gcc 9 rfl<|cLp h [(2,31)] [] (fun c=>([(3,I64 c)],[])) (fun q=>match q with | .inl b=>(.r,[(2,Bo b)],[]) | .inr (d,f)=>(.e 0,[(3,I64 d),(7,Bo f)],[])) rfl (fun c _ h=> ?_) (fun q h=> ?_)
 unfold kK at h; refine gco 5 rfl<|xLs rfl<|goc 2 rfl<|cIf h rfl (fun v h=> ?_) (fun v h=> ?_)
 refine gco 5 rfl<|oJn h [(10,31)] [] (fun a=>(.n,[(31,Bo a)],[])) (fun _ h=> ?_) (fun a h=> ?_)
 refine goo 2 rfl<|KE h rfl rfl rfl rfl rfl (fun u h=> ?_)
 refine xC0 h (rM ·) rfl (fun t h=> ?_)
 refine goo 2 rfl<|oIf 15 h rfl (fun w h=> ?_) (fun w h=> ?_)
 refine goo 3 rfl<|oIf 18 h rfl (fun o h=> ?_) (fun o h=> ?_)
 exact geo; refine goo 2 rfl<|KE h rfl rfl rfl rfl rfl (fun l h=> ?_)
 refine xC0 h (qU ·) rfl (fun g h=> ?_)
 refine goo 2 rfl<|oIf 24 h rfl (fun p h=> ?_) (fun p h=> ?_)
 refine goo 2 rfl<|KE h rfl rfl rfl rfl rfl (fun m h=> ?_)
 exact geo; exact geo; exact geo; refine cIf h rfl (fun s h=> ?_) (fun s h=> ?_)
 exact gec; exact gec; exact gec; rcases q with b | ⟨d,f⟩; exact en; refine gco 3 rfl<|xLs rfl<|xC0 h (fJ ·) rfl (fun j h=> ?_)
 exact geo
abbrev DC(p:(List UInt8)→Option (Bool)):Prop:= ∀ {a:List UInt8} {r:Bool},p a=some r→Big Try.prog τ An (.fn 79 [.one (.c (.str a))] [] (.one (.c (.bool r))) none [] none)
def iB(n:Nat)(a:List UInt8):Option (Bool):=
  ((jC n a).bind fun b=>bif b then bif !decide (a=([99,97,115,101]:List UInt8))then bif !decide (a=([111,102]:List UInt8))then some (!decide (a=([101,110,100]:List UInt8)))else some false else some false else some false).bind fun c=>some c
theorem rL{n:Nat}:DC (iB n):=by
 intro g r h; unfold iB at h; refine bF Try.func79 rfl rfl<|gco 6 rfl<|oJn h [(2,16)] [] (fun a=>(.n,[(2,Bo a)],[])) (fun _ h=> ?_) (fun a h=> ?_)
 refine xMv rfl<|xC0 h (sY ·) rfl (fun b h=> ?_)
 refine xMv rfl<|oIf 5 h rfl (fun c h=> ?_) (fun c h=> ?_)
 refine goo 4 rfl<|oIf 9 h rfl (fun d h=> ?_) (fun d h=> ?_)
 refine goo 4 rfl<|oIf 13 h rfl (fun f h=> ?_) (fun f h=> ?_)
 exact geo; exact geo; exact geo; exact geo; exact gec
abbrev DG(p:Int→Option (Bool)):Prop:= ∀ {a:Int} {r:Bool},p a=some r→Big Try.prog τ An (.fn 168 [.one (.c (.int .u8 a))] [] (.one (.c (.bool r))) none [] none)
def iC(n:Nat)(a:Int):Option (Bool):=
  (bif decide ((65:Int)≤a)then bif decide (a≤(90:Int))then some true else some (decide (a=(95:Int)))else some (decide (a=(95:Int)))).bind fun b=>some b
theorem rN{n:Nat}:DG (iC n):=by
 intro d r h; unfold iC at h; refine bF Try.func168 rfl rfl<|gco 6 rfl<|oJn h [(2,12)] [] (fun a=>(.n,[(2,Bo a)],[])) (fun _ h=> ?_) (fun a h=> ?_)
 refine goo 3 rfl<|oIf 5 h rfl (fun b h=> ?_) (fun b h=> ?_)
 refine goo 4 rfl<|oIf 9 h rfl (fun c h=> ?_) (fun c h=> ?_)
 exact geo; exact geo; exact geo; exact gec
abbrev yU(p:Int→Option (Bool)):Prop:= ∀ {a:Int} {r:Bool},p a=some r→Big Try.prog τ An (.fn 167 [.one (.c (.int .u8 a))] [] (.one (.c (.bool r))) none [] none)
def gC(n:Nat)(a:Int):Option (Bool):=
  ((fW n a).bind fun c=>bif c then some true else(iC n a).bind fun d=>bif d then some true else(eH n a).bind fun b=>some b).bind fun f=>some f
theorem vC{n:Nat}:yU (gC n):=by
 intro j r h; unfold gC at h; refine bF Try.func167 rfl rfl<|gco 6 rfl<|oJn h [(2,12)] [] (fun a=>(.n,[(2,Bo a)],[])) (fun _ h=> ?_) (fun a h=> ?_)
 refine xMv rfl<|xC0 h (rM ·) rfl (fun c h=> ?_)
 refine xMv rfl<|oIf 5 h rfl (fun f h=> ?_) (fun f h=> ?_)
 exact geo; refine xMv rfl<|xC0 h (rN ·) rfl (fun d h=> ?_)
 refine goo 2 rfl<|oIf 9 h rfl (fun g h=> ?_) (fun g h=> ?_)
 exact geo; refine xMv rfl<|xC0 h (qU ·) rfl (fun b h=> ?_)
 exact geo; exact gec
abbrev Gr(p:(List UInt8)→Option (Bool)):Prop:= ∀ {a:List UInt8} {r:Bool},p a=some r→Big Try.prog τ An (.fn 156 [.one (.c (.str a))] [] (.one (.c (.bool r))) none [] none)
def lS(n:Nat)(b:List UInt8):(Int)→Option ((Int)⊕((Bool)⊕(Int×Bool)))
  | a=>bif decide (a<(b.length:Int))then(ixs b a).bind fun d=>(gC n d).bind fun c=>bif !c then some (.inr (.inl false))else some (.inl (IntKind.wrap .i64 (a+(1:Int))))else some (.inr (.inr (a,false)))
def mX(n:Nat)(a:List UInt8):Option (Bool):=
  (loopN (lS n a) n (0:Int)).bind fun q=>(match q with | .inl f=>some f | .inr (j,l)=>((cY n (a.length:Int) (1:Int) (20:Int)).bind fun b=>bif b then(ixs a (0:Int)).bind fun d=>(iC n d).bind fun c=>some c else some false).bind fun g=>some g)
theorem Co{n:Nat}:Gr (mX n):=by
 intro u r h; unfold mX at h; refine bF Try.func156 rfl rfl<|gcc 9 rfl<|cLp h [(2,14)] [] (fun c=>([(3,I64 c)],[])) (fun q=>match q with | .inl a=>(.r,[(2,Bo a)],[]) | .inr (d,f)=>(.e 0,[(3,I64 d),(7,Bo f)],[])) rfl (fun c _ h=> ?_) (fun q h=> ?_)
 unfold lS at h; refine gco 5 rfl<|xLs rfl<|goc 2 rfl<|cIf h rfl (fun s h=> ?_) (fun s h=> ?_)
 refine gco 7 rfl<|KE h rfl rfl rfl rfl rfl (fun p h=> ?_)
 refine xC0 h (vC ·) rfl (fun o h=> ?_)
 refine goc 2 rfl<|cIf h rfl (fun t h=> ?_) (fun t h=> ?_)
 exact gec; exact gec; exact gec; rcases q with a | ⟨d,f⟩; exact en; refine cRs<|oJn h [(2,2),(15,22)] [] (fun b=>(.n,[(2,Bo b)],[])) (fun _ h=> ?_) (fun b h=> ?_)
 refine xMv rfl<|xLs rfl<|xC0 h (fJ ·) rfl (fun g h=> ?_)
 refine xMv rfl<|oIf 18 h rfl (fun m h=> ?_) (fun m h=> ?_)
 refine xMv rfl<|KE h rfl rfl rfl rfl rfl (fun l h=> ?_)
 refine xC0 h (rN ·) rfl (fun j h=> ?_)
 exact geo; exact geo; exact gec
abbrev IH(p:(List UInt8)→Option (Bool)):Prop:= ∀ {a:List UInt8} {r:Bool},p a=some r→Big Try.prog τ An (.fn 157 [.one (.c (.str a))] [] (.one (.c (.bool r))) none [] none)
def oD(n:Nat)(a:List UInt8):Option (Bool):=
  bif decide (a=([43]:List UInt8))then some true else bif decide (a=([45]:List UInt8))then some true else bif decide (a=([42]:List UInt8))then some true else bif decide (a=([61,61]:List UInt8))then some true else bif decide (a=([60]:List UInt8))then some true else some false
theorem Ew{n:Nat}:IH (oD n):=by
 intro g r h; unfold oD at h; refine bF Try.func157 rfl rfl<|gcc 16 rfl<|cIf h rfl (fun a h=> ?_) (fun a h=> ?_)
 exact gec; refine gcc 5 rfl<|cIf h rfl (fun b h=> ?_) (fun b h=> ?_)
 exact gec; refine gcc 5 rfl<|cIf h rfl (fun c h=> ?_) (fun c h=> ?_)
 exact gec; refine gcc 5 rfl<|cIf h rfl (fun d h=> ?_) (fun d h=> ?_)
 exact gec; refine gcc 4 rfl<|cIf h rfl (fun f h=> ?_) (fun f h=> ?_)
 exact gec; exact gec
abbrev DD(p:Int→Int→(List UInt8)→Int→Option (Bool)):Prop:= ∀ {a b:Int} {d:List UInt8} {f:Int} {r:Bool},p a b d f=some r→Big Try.prog τ An (.fn 135 [.one (.c (.int .i64 a)), .one (.c (.int .i64 b)), .one (.c (.str d)), .one (.c (.int .i64 f))] [] (.one (.c (.bool r))) none [] none)
def jZ(n:Nat)(a:Int)(b:Int)(c:List UInt8)(d:Int):Option (Bool):=
  bif decide (a=(1:Int))then((cY n b (0:Int) (1000000000000:Int)).bind fun m=>bif m then bif decide (c=([]:List UInt8))then some (decide (d=(0:Int)))else some false else some false).bind fun z=>some z else bif decide (a=(2:Int))then(bif decide (b=(0:Int))then(iB n c).bind fun o=>bif o then some (decide (d=(0:Int)))else some false else some false).bind fun A=>some A else bif decide (a=(3:Int))then(bif decide (b=(0:Int))then(mX n c).bind fun f=>bif f then some (decide (d=(0:Int)))else some false else some false).bind fun p=>some p else bif decide (a=(4:Int))then(bif decide (b=(0:Int))then bif decide (c=([]:List UInt8))then some (decide (d≤(20:Int)))else some false else some false).bind fun s=>some s else bif decide (a=(5:Int))then(bif decide (b=(0:Int))then bif decide (c=([]:List UInt8))then some (decide (d≤(20:Int)))else some false else some false).bind fun t=>some t else bif decide (a=(6:Int))then(bif decide (b=(0:Int))then bif decide (c=([]:List UInt8))then(cY n d (2:Int) (6:Int)).bind fun g=>some g else some false else some false).bind fun u=>some u else bif decide (a=(7:Int))then(bif decide (b=(0:Int))then(oD n c).bind fun j=>bif j then some (decide (d=(2:Int)))else some false else some false).bind fun v=>some v else bif decide (a=(8:Int))then(bif decide (b=(0:Int))then(iB n c).bind fun l=>bif l then some (decide (d≤(4:Int)))else some false else some false).bind fun w=>some w else bif decide (a=(9:Int))then(bif decide (b=(0:Int))then bif decide (c=([]:List UInt8))then some (decide (d=(1:Int)))else some false else some false).bind fun y=>some y else some false
theorem Ab{n:Nat}:DD (jZ n):=by
 intro a2 a3 a4 a5 r h; unfold jZ at h; refine bF Try.func135 rfl rfl<|gcc 15 rfl<|cIf h rfl (fun X h=> ?_) (fun X h=> ?_)
 refine cRs<|oJn h [(8,8),(12,21)] [] (fun l=>(.n,[(8,Bo l)],[])) (fun _ h=> ?_) (fun l h=> ?_)
 refine xMv rfl<|xC0 h (fJ ·) rfl (fun V h=> ?_)
 refine xMv rfl<|oIf 14 h rfl (fun Y h=> ?_) (fun Y h=> ?_)
 refine goo 4 rfl<|oIf 18 h rfl (fun Z h=> ?_) (fun Z h=> ?_)
 exact geo; exact geo; exact geo; exact gec; refine gcc 5 rfl<|cIf h rfl (fun q6 h=> ?_) (fun q6 h=> ?_)
 refine cRs<|oJn h [(8,8),(24,33)] [] (fun m=>(.n,[(8,Bo m)],[])) (fun _ h=> ?_) (fun m h=> ?_)
 refine goo 3 rfl<|oIf 26 h rfl (fun q8 h=> ?_) (fun q8 h=> ?_)
 refine xMv rfl<|xC0 h (rL ·) rfl (fun W h=> ?_)
 refine goo 2 rfl<|oIf 30 h rfl (fun u h=> ?_) (fun u h=> ?_)
 exact geo; exact geo; exact geo; exact gec; refine gcc 5 rfl<|cIf h rfl (fun v h=> ?_) (fun v h=> ?_)
 refine cRs<|oJn h [(8,8),(36,45)] [] (fun a=>(.n,[(8,Bo a)],[])) (fun _ h=> ?_) (fun a h=> ?_)
 refine goo 3 rfl<|oIf 38 h rfl (fun w h=> ?_) (fun w h=> ?_)
 refine xMv rfl<|xC0 h (Co ·) rfl (fun o h=> ?_)
 refine goo 2 rfl<|oIf 42 h rfl (fun y h=> ?_) (fun y h=> ?_)
 exact geo; exact geo; exact geo; exact gec; refine gcc 6 rfl<|cIf h rfl (fun z h=> ?_) (fun z h=> ?_)
 refine gco 4 rfl<|oJn h [(8,8),(49,58)] [] (fun b=>(.n,[(8,Bo b)],[])) (fun _ h=> ?_) (fun b h=> ?_)
 refine goo 3 rfl<|oIf 51 h rfl (fun A h=> ?_) (fun A h=> ?_)
 refine goo 4 rfl<|oIf 55 h rfl (fun B h=> ?_) (fun B h=> ?_)
 exact geo; exact geo; exact geo; exact gec; refine gcc 4 rfl<|cIf h rfl (fun C h=> ?_) (fun C h=> ?_)
 refine cRs<|oJn h [(8,8),(49,58)] [] (fun c=>(.n,[(8,Bo c)],[])) (fun _ h=> ?_) (fun c h=> ?_)
 refine goo 3 rfl<|oIf 51 h rfl (fun D h=> ?_) (fun D h=> ?_)
 refine goo 4 rfl<|oIf 55 h rfl (fun E h=> ?_) (fun E h=> ?_)
 exact geo; exact geo; exact geo; exact gec; refine gcc 5 rfl<|cIf h rfl (fun G h=> ?_) (fun G h=> ?_)
 refine cRs<|oJn h [(8,8),(61,70)] [] (fun d=>(.n,[(8,Bo d)],[])) (fun _ h=> ?_) (fun d h=> ?_)
 refine goo 3 rfl<|oIf 63 h rfl (fun H h=> ?_) (fun H h=> ?_)
 refine goo 4 rfl<|oIf 67 h rfl (fun I h=> ?_) (fun I h=> ?_)
 refine xMv rfl<|xC0 h (fJ ·) rfl (fun p h=> ?_)
 exact geo; exact geo; exact geo; exact gec; refine gcc 5 rfl<|cIf h rfl (fun J h=> ?_) (fun J h=> ?_)
 refine cRs<|oJn h [(8,8),(73,82)] [] (fun f=>(.n,[(8,Bo f)],[])) (fun _ h=> ?_) (fun f h=> ?_)
 refine goo 3 rfl<|oIf 75 h rfl (fun K h=> ?_) (fun K h=> ?_)
 refine xMv rfl<|xC0 h (Ew ·) rfl (fun s h=> ?_)
 refine goo 2 rfl<|oIf 79 h rfl (fun L h=> ?_) (fun L h=> ?_)
 exact geo; exact geo; exact geo; exact gec; refine gcc 5 rfl<|cIf h rfl (fun M h=> ?_) (fun M h=> ?_)
 refine cRs<|oJn h [(8,8),(85,94)] [] (fun g=>(.n,[(8,Bo g)],[])) (fun _ h=> ?_) (fun g h=> ?_)
 refine goo 3 rfl<|oIf 87 h rfl (fun N h=> ?_) (fun N h=> ?_)
 refine xMv rfl<|xC0 h (rL ·) rfl (fun t h=> ?_)
 refine goo 2 rfl<|oIf 91 h rfl (fun Q h=> ?_) (fun Q h=> ?_)
 exact geo; exact geo; exact geo; exact gec; refine gcc 5 rfl<|cIf h rfl (fun R h=> ?_) (fun R h=> ?_)
 refine cRs<|oJn h [(8,8),(97,106)] [] (fun j=>(.n,[(8,Bo j)],[])) (fun _ h=> ?_) (fun j h=> ?_)
 refine goo 3 rfl<|oIf 99 h rfl (fun T h=> ?_) (fun T h=> ?_)
 refine goo 4 rfl<|oIf 103 h rfl (fun U h=> ?_) (fun U h=> ?_)
 exact geo; exact geo; exact geo; exact gec; exact gec
abbrev vD(p:(List (List UInt8))→(List UInt8)→Option (Int)):Prop:= ∀ {a:List (List UInt8)} {b:List UInt8} {r:Int},p a b=some r→Big Try.prog τ An (.fn 148 [.one (.c (.sl (a.map eA))), .one (.c (.str b))] [] (.one (.c (.int .i64 r))) none [] none)
def dC(n:Nat)(b:List (List UInt8))(d:List UInt8):(Int)→Option ((Int)⊕((Int)⊕(Int×Bool)))
  | a=>bif decide (a<(b.length:Int))then(ix b a).bind fun c=>bif decide (d=c)then some (.inr (.inl a))else some (.inl (IntKind.wrap .i64 (a+(1:Int))))else some (.inr (.inr (a,false)))
def eP(n:Nat)(a:List (List UInt8))(b:List UInt8):Option (Int):=
  (loopN (dC n a b) n (0:Int)).bind fun q=>(match q with | .inl c=>some c | .inr (d,f)=>some ((-1):Int))
theorem tL{n:Nat}:vD (eP n):=by
 intro l m r h; unfold eP at h; refine bF Try.func148 rfl rfl<|gco 8 rfl<|xLn rfl<|goc 2 rfl<|cLp h [(4,5),(8,18)] [] (fun b=>([(8,I64 b)],[])) (fun q=>match q with | .inl a=>(.r,[(4,I64 a)],[]) | .inr (c,d)=>(.e 0,[(8,I64 c),(9,Bo d)],[])) rfl (fun b _ h=> ?_) (fun q h=> ?_)
 unfold dC at h; refine gcc 5 rfl<|cIf h rfl (fun g h=> ?_) (fun g h=> ?_)
 refine gco 13 rfl<|xIx h oZ rfl (fun f h=> ?_)
 refine goc 3 rfl<|cIf h rfl (fun j h=> ?_) (fun j h=> ?_)
 exact gec; exact gec; exact gec; rcases q with a | ⟨c,d⟩; exact en; exact gec
abbrev rW(p:(List (List UInt8))→(List UInt8)→Option (Bool)):Prop:= ∀ {a:List (List UInt8)} {b:List UInt8} {r:Bool},p a b=some r→Big Try.prog τ An (.fn 136 [.one (.c (.sl (a.map eA))), .one (.c (.str b))] [] (.one (.c (.bool r))) none [] none)
def dD(n:Nat)(b:List (List UInt8))(c:List UInt8):Option (Bool):=
  (eP n b c).bind fun a=>some (decide ((0:Int)≤a))
theorem qZ{n:Nat}:rW (dD n):=by
 intro b c r h; unfold dD at h; refine bF Try.func136 rfl rfl<|gco 8 rfl<|xC0 h (tL ·) rfl (fun a h=> ?_)
 exact geo
abbrev dU:Type:=Int→Int→(List UInt8)→(List aA)→(List aC)→Int→Int→(List (List UInt8))→Option (Bool×Int×(List (List UInt8)))
abbrev kL(p:dU):Prop:= ∀ {d f:Int} {g:List UInt8} {j:List aA} {l:List aC} {m a:Int} {b:List (List UInt8)} {r:Bool×Int×(List (List UInt8))},p d f g j l m a b=some r→Big Try.prog τ An (.fn 102 [.one (.ptr 1000000 0), .one (.ag [.int .i64 d, .int .i64 f, .str g, .sl (j.map aE), .sl (l.map aD)]), .one (.c (.int .i64 m))] [[.int .i64 a, .sl (b.map eA)]] (.one (.c (.bool r.1))) none [[.int .i64 r.2.1, .sl (r.2.2.map eA)]] none)
def eQ(n:Nat)(f:dU)(l:Int)(j:List aA):(Int×Int×(List (List UInt8)))→Option ((Int×Int×(List (List UInt8)))⊕((Bool×Int×(List (List UInt8)))⊕(Int×Bool×Int×(List (List UInt8)))))
  | (g,c,d)=>bif decide (g<(j.length:Int))then(ix j g).bind fun b=>(f b.f0 b.f1 b.f2 b.f3 b.f4 (IntKind.wrap .i64 (l+(1:Int))) c d).bind fun a=>bif !a.1 then some (.inr (.inl (false,a.2.1,a.2.2)))else some (.inl ((IntKind.wrap .i64 (g+(1:Int))),a.2.1,a.2.2))else some (.inr (.inr (g,false,c,d)))
def cB(n:Nat)(f:dU)(l:Int)(j:List aA):(Int×Int×(List (List UInt8)))→Option ((Int×Int×(List (List UInt8)))⊕((Bool×Int×(List (List UInt8)))⊕(Int×Bool×Int×(List (List UInt8)))))
  | (g,c,d)=>bif decide (g<(j.length:Int))then(ix j g).bind fun b=>(f b.f0 b.f1 b.f2 b.f3 b.f4 (IntKind.wrap .i64 (l+(1:Int))) c d).bind fun a=>bif !a.1 then some (.inr (.inl (false,a.2.1,a.2.2)))else some (.inl ((IntKind.wrap .i64 (g+(1:Int))),a.2.1,a.2.2))else some (.inr (.inr (g,false,c,d)))
def gU(n:Nat)(a:dU)(t:Int)(E:Int)(s:List UInt8)(u:List aA)(G:List aC)(v:Int)(b:Int)(c:List (List UInt8)):Option (Bool×Int×(List (List UInt8))):=
  (bif decide ((10:Int)<v)then some true else bif decide ((300:Int)<(IntKind.wrap .i64 (b+(1:Int))))then some true else bif decide ((6:Int)<t)then some true else bif decide ((0:Int)<(G.length:Int))then some true else(jZ n t E s (u.length:Int)).bind fun z=>some (!z)).bind fun A=>bif A then some (false,(IntKind.wrap .i64 (b+(1:Int))),c)else(bif decide (t=(3:Int))then some (!decide (s=([95]:List UInt8)))else some false).bind fun B=>bif B then(dD n c s).bind fun w=>bif w then some (false,(IntKind.wrap .i64 (b+(1:Int))),c)else(fS 16 c ([s]:List (List UInt8))).bind fun y=>(loopN (eQ n a v u) n ((0:Int),(IntKind.wrap .i64 (b+(1:Int))),y)).bind fun q=>(match q with | .inl (C,d,f)=>some (C,d,f) | .inr (H,J,g,j)=>some (true,g,j))else(loopN (cB n a v u) n ((0:Int),(IntKind.wrap .i64 (b+(1:Int))),c)).bind fun q=>(match q with | .inl (D,l,m)=>some (D,l,m) | .inr (I,K,o,p)=>some (true,o,p))
theorem uX{n:Nat}{b:dU}(a:kL b):kL (gU n b):=by
 intro a8 a9 I b0 b1 b2 a0 a1 r h; unfold gU at h; refine bF Try.func102 rfl rfl<|gco 19 rfl<|oJn h [(16,48)] [] (fun D=>(.n,[(48,Bo D)],[])) (fun _ h=> ?_) (fun D h=> ?_)
 refine goo 3 rfl<|oIf 18 h rfl (fun q2 h=> ?_) (fun q2 h=> ?_)
 exact geo; refine goo 7 rfl<|oIf 25 h rfl (fun q3 h=> ?_) (fun q3 h=> ?_)
 exact geo; refine goo 5 rfl<|oIf 30 h rfl (fun q4 h=> ?_) (fun q4 h=> ?_)
 exact geo; refine goo 2 rfl<|xLn rfl<|goo 3 rfl<|oIf 36 h rfl (fun q5 h=> ?_) (fun q5 h=> ?_)
 exact geo; refine goo 8 rfl<|xLn rfl<|xC0 h (Ab ·) rfl (fun Z h=> ?_)
 exact geo; refine cIf h rfl (fun q7 h=> ?_) (fun q7 h=> ?_)
 exact gec; refine gco 4 rfl<|oJn h [(49,56)] [] (fun E=>(.n,[(56,Bo E)],[])) (fun _ h=> ?_) (fun E h=> ?_)
 refine goo 4 rfl<|oIf 52 h rfl (fun q9 h=> ?_) (fun q9 h=> ?_)
 exact geo; exact geo; refine cIf h rfl (fun R h=> ?_) (fun R h=> ?_)
 refine gco 9 rfl<|xC0 h (qZ ·) rfl (fun J h=> ?_)
 refine oNl<|cIf h rfl (fun T h=> ?_) (fun T h=> ?_)
 exact gec; refine gco 9 rfl<|cS (L:=([I]:List (List UInt8))) (f:=eA) rfl rfl rfl rfl rfl rfl rfl<|wAp (f:=eA) h rfl rfl rfl rfl rfl rfl rfl rfl rfl (fun _=>rfl) rfl (fun Y h=> ?_)
 refine goo 9 rfl<|xLn rfl<|goc 2 rfl<|cLp h [(6,6),(8,8),(78,88)] [(8,8),(1000000,1000000)] (fun(w,c,d)=>([(78,I64 w)],[(1000000,[.int .i64 c, .sl (d.map eA)])])) (fun q=>match q with | .inl (G,g,j)=>(.r,[(6,Bo G)],[(1000000,[.int .i64 g, .sl (j.map eA)])]) | .inr (y,B,l,m)=>(.e 0,[(78,I64 y),(79,Bo B)],[(1000000,[.int .i64 l, .sl (m.map eA)])])) rfl (fun st _ h=> ?_) (fun q h=> ?_)
 obtain⟨w,c,d⟩:=st; unfold eQ at h; refine gcc 5 rfl<|cIf h rfl (fun U h=> ?_) (fun U h=> ?_)
 refine gco 5 rfl<|xIx h aM rfl (fun N h=> ?_)
 refine xLd rfl<|xAz [.int .i64 0, .int .i64 0, .str [], .sl ([].map aE), .sl ([].map aD)] rfl<|goo 8 rfl<|xC1 h (a ·) rfl (fun K h=> ?_)
 refine goc 2 rfl<|cIf h rfl (fun V h=> ?_) (fun V h=> ?_)
 exact gec; exact gec; exact gec; rcases q with⟨G,g,j⟩ | ⟨y,B,l,m⟩; exact en; exact gec; refine gco 6 rfl<|xLn rfl<|goc 2 rfl<|cLp h [(6,6),(8,8),(78,88)] [(8,8),(1000000,1000000)] (fun(z,o,p)=>([(78,I64 z)],[(1000000,[.int .i64 o, .sl (p.map eA)])])) (fun q=>match q with | .inl (H,s,t)=>(.r,[(6,Bo H)],[(1000000,[.int .i64 s, .sl (t.map eA)])]) | .inr (A,C,u,v)=>(.e 0,[(78,I64 A),(79,Bo C)],[(1000000,[.int .i64 u, .sl (v.map eA)])])) rfl (fun st _ h=> ?_) (fun q h=> ?_)
 obtain⟨z,o,p⟩:=st; unfold cB at h; refine gcc 5 rfl<|cIf h rfl (fun W h=> ?_) (fun W h=> ?_)
 refine gco 5 rfl<|xIx h aM rfl (fun Q h=> ?_)
 refine xLd rfl<|xAz [.int .i64 0, .int .i64 0, .str [], .sl ([].map aE), .sl ([].map aD)] rfl<|goo 8 rfl<|xC1 h (a ·) rfl (fun M h=> ?_)
 refine goc 2 rfl<|cIf h rfl (fun X h=> ?_) (fun X h=> ?_)
 exact gec; exact gec; exact gec; rcases q with⟨H,s,t⟩ | ⟨A,C,u,v⟩; exact en; exact gec
def rG:Nat→(dU)
  | 0=>(fun _ _ _ _ _ _ _ _=>none)
  | n+1=>gU n (rG n)
def bT(n:Nat):dU:=rG n
theorem vA(n:Nat):kL (bT n):=by
  induction n with
  | zero=>exact(fun h=>nomatch h)
  | succ n ih=>exact uX (n:=n) ih
theorem xL{n:Nat}:kL (bT n):=(vA n)
theorem tJ(n:Nat):bT (n+1)=gU n (bT n):=rfl
abbrev Gs(p:Int→Int→(List UInt8)→(List aA)→(List aC)→Option (Bool)):Prop:= ∀ {a b:Int} {d:List UInt8} {f:List aA} {g:List aC} {r:Bool},p a b d f g=some r→Big Try.prog τ An (.fn 62 [.one (.ag [.int .i64 a, .int .i64 b, .str d, .sl (f.map aE), .sl (g.map aD)])] [] (.one (.c (.bool r))) none [] none)
def mY(n:Nat)(b:Int)(c:Int)(d:List UInt8)(f:List aA)(g:List aC):Option (Bool):=
  (bT n b c d f g (1:Int) (0:Int) ([]:List (List UInt8))).bind fun a=>some a.1
theorem Cq{n:Nat}:Gs (mY n):=by
 intro b c d f g r h; unfold mY at h; refine bF Try.func62 rfl rfl<|gco 7 rfl<|xAz [.int .i64 0, .sl ([].map eA)] rfl<|goo 4 rfl<|xC1 h (xL ·) rfl (fun a h=> ?_)
 exact geo
abbrev vE(p:Int→Int→(List UInt8)→(List aB)→Option (Bool)):Prop:= ∀ {a b:Int} {d:List UInt8} {f:List aB} {r:Bool},p a b d f=some r→Big Try.prog τ An (.fn 137 [.one (.ag [.int .i64 a, .int .i64 b, .str d, .sl (f.map aF)])] [] (.one (.c (.bool r))) none [] none)
def eT(n:Nat)(a:Int)(b:Int)(c:List UInt8)(d:List aB):Option (Bool):=
  bif decide (a=(1:Int))then((cY n b ((-1000000000000):Int) (1000000000000:Int)).bind fun o=>bif o then bif decide (c=([]:List UInt8))then some (decide ((d.length:Int)=(0:Int)))else some false else some false).bind fun p=>some p else bif decide (a=(2:Int))then(bif decide (b=(0:Int))then(jC n c).bind fun g=>bif g then some (decide ((d.length:Int)=(0:Int)))else some false else some false).bind fun s=>some s else bif decide (a=(3:Int))then((cY n b (0:Int) (1000000:Int)).bind fun f=>bif f then bif decide (c=([]:List UInt8))then some (decide ((d.length:Int)=(0:Int)))else some false else some false).bind fun j=>some j else bif decide (a=(4:Int))then(bif decide (b=(0:Int))then bif decide (c=([]:List UInt8))then some (decide ((d.length:Int)≤(20:Int)))else some false else some false).bind fun l=>some l else bif decide (a=(5:Int))then(bif decide (b=(0:Int))then bif decide (c=([]:List UInt8))then some (decide ((d.length:Int)≤(60:Int)))else some false else some false).bind fun m=>some m else some false
theorem tM{n:Nat}:vE (eT n):=by
 intro G H I J r h; unfold eT at h; refine bF Try.func137 rfl rfl<|gcc 17 rfl<|cIf h rfl (fun A h=> ?_) (fun A h=> ?_)
 refine cRs<|oJn h [(2,2),(7,20)] [] (fun d=>(.n,[(2,Bo d)],[])) (fun _ h=> ?_) (fun d h=> ?_)
 refine goo 2 rfl<|xC0 h (fJ ·) rfl (fun z h=> ?_)
 refine xMv rfl<|oIf 10 h rfl (fun B h=> ?_) (fun B h=> ?_)
 refine goo 5 rfl<|oIf 15 h rfl (fun C h=> ?_) (fun C h=> ?_)
 exact goo 2 rfl<|xLn rfl<|geo
 exact geo; exact geo; exact gec; refine gcc 5 rfl<|cIf h rfl (fun D h=> ?_) (fun D h=> ?_)
 refine cRs<|oJn h [(2,2),(23,36)] [] (fun f=>(.n,[(2,Bo f)],[])) (fun _ h=> ?_) (fun f h=> ?_)
 refine goo 4 rfl<|oIf 26 h rfl (fun E h=> ?_) (fun E h=> ?_)
 refine goo 2 rfl<|xC0 h (sY ·) rfl (fun y h=> ?_)
 refine goo 2 rfl<|oIf 31 h rfl (fun j h=> ?_) (fun j h=> ?_)
 exact goo 2 rfl<|xLn rfl<|geo
 exact geo; exact geo; exact gec; refine gcc 5 rfl<|cIf h rfl (fun l h=> ?_) (fun l h=> ?_)
 refine cRs<|oJn h [(2,2),(39,52)] [] (fun a=>(.n,[(2,Bo a)],[])) (fun _ h=> ?_) (fun a h=> ?_)
 refine goo 2 rfl<|xC0 h (fJ ·) rfl (fun g h=> ?_)
 refine xMv rfl<|oIf 42 h rfl (fun m h=> ?_) (fun m h=> ?_)
 refine goo 5 rfl<|oIf 47 h rfl (fun o h=> ?_) (fun o h=> ?_)
 exact goo 2 rfl<|xLn rfl<|geo
 exact geo; exact geo; exact gec; refine gcc 5 rfl<|cIf h rfl (fun p h=> ?_) (fun p h=> ?_)
 refine cRs<|oJn h [(2,2),(55,68)] [] (fun b=>(.n,[(2,Bo b)],[])) (fun _ h=> ?_) (fun b h=> ?_)
 refine goo 4 rfl<|oIf 58 h rfl (fun s h=> ?_) (fun s h=> ?_)
 refine goo 5 rfl<|oIf 63 h rfl (fun t h=> ?_) (fun t h=> ?_)
 exact goo 2 rfl<|xLn rfl<|geo
 exact geo; exact geo; exact gec; refine gcc 5 rfl<|cIf h rfl (fun u h=> ?_) (fun u h=> ?_)
 refine cRs<|oJn h [(2,2),(71,84)] [] (fun c=>(.n,[(2,Bo c)],[])) (fun _ h=> ?_) (fun c h=> ?_)
 refine goo 4 rfl<|oIf 74 h rfl (fun v h=> ?_) (fun v h=> ?_)
 refine goo 5 rfl<|oIf 79 h rfl (fun w h=> ?_) (fun w h=> ?_)
 exact goo 2 rfl<|xLn rfl<|geo
 exact geo; exact geo; exact gec; exact gec
abbrev dG:Type:=Int→Int→(List UInt8)→(List aB)→Int→Option (Int)
abbrev gM(p:dG):Prop:= ∀ {a b:Int} {d:List UInt8} {f:List aB} {g:Int} {r:Int},p a b d f g=some r→Big Try.prog τ An (.fn 103 [.one (.ag [.int .i64 a, .int .i64 b, .str d, .sl (f.map aF)]), .one (.c (.int .i64 g))] [] (.one (.c (.int .i64 r))) none [] none)
def cM(n:Nat)(a:dG)(j:Int)(g:List aB):(Int×Int)→Option ((Int×Int)⊕((Int)⊕(Int×Int×Bool)))
  | (f,c)=>bif decide (c<(g.length:Int))then(ix g c).bind fun b=>(a b.f0 b.f1 b.f2 b.f3 (IntKind.wrap .i64 (j+(1:Int)))).bind fun d=>bif decide ((300:Int)<(IntKind.wrap .i64 (f+d)))then some (.inr (.inl (301:Int)))else some (.inl ((IntKind.wrap .i64 (f+d)),(IntKind.wrap .i64 (c+(1:Int)))))else some (.inr (.inr (f,c,false)))
def eM(n:Nat)(a:dG)(g:Int)(j:Int)(l:List UInt8)(b:List aB)(c:Int):Option (Int):=
  (bif decide ((8:Int)<c)then some true else(eT n g j l b).bind fun d=>some (!d)).bind fun f=>bif f then some (301:Int)else(loopN (cM n a c b) n ((1:Int),(0:Int))).bind fun q=>(match q with | .inl m=>some m | .inr (o,s,p)=>some o)
theorem rT{n:Nat}{a:dG}(b:gM a):gM (eM n a):=by
 intro y z A B C r h; unfold eM at h; refine bF Try.func103 rfl rfl<|gco 8 rfl<|oJn h [(8,14)] [] (fun d=>(.n,[(14,Bo d)],[])) (fun _ h=> ?_) (fun d h=> ?_)
 refine goo 3 rfl<|oIf 10 h rfl (fun v h=> ?_) (fun v h=> ?_)
 exact geo; refine xLd rfl<|xC0 h (tM ·) rfl (fun u h=> ?_)
 exact geo; refine cIf h rfl (fun w h=> ?_) (fun w h=> ?_)
 exact gec; refine gco 10 rfl<|xLn rfl<|goc 2 rfl<|cLp h [(4,5),(7,7),(18,30)] [(7,7)] (fun(l,f)=>([(5,I64 l),(18,I64 f)],[])) (fun q=>match q with | .inl j=>(.r,[(4,I64 j)],[]) | .inr (m,g,c)=>(.e 0,[(5,I64 m),(18,I64 g),(19,Bo c)],[])) rfl (fun st _ h=> ?_) (fun q h=> ?_)
 obtain⟨l,f⟩:=st; unfold cM at h; refine gcc 5 rfl<|cIf h rfl (fun s h=> ?_) (fun s h=> ?_)
 refine gco 5 rfl<|xIx h aJ rfl (fun p h=> ?_)
 refine xLd rfl<|xAz [.int .i64 0, .int .i64 0, .str [], .sl ([].map aF)] rfl<|goo 8 rfl<|xC0 h (b ·) rfl (fun o h=> ?_)
 refine goc 8 rfl<|cIf h rfl (fun t h=> ?_) (fun t h=> ?_)
 exact gec; exact gec; exact gec; rcases q with j | ⟨m,g,c⟩; exact en; exact gec
def oP:Nat→(dG)
  | 0=>(fun _ _ _ _ _=>none)
  | n+1=>eM n (oP n)
def bP(n:Nat):dG:=oP n
theorem rU(n:Nat):gM (bP n):=by
  induction n with
  | zero=>exact(fun h=>nomatch h)
  | succ n ih=>exact rT (n:=n) ih
theorem tN{n:Nat}:gM (bP n):=(rU n)
theorem qY(n:Nat):bP (n+1)=eM n (bP n):=rfl
abbrev FJ(p:Int→Int→(List UInt8)→(List aB)→Option (Bool)):Prop:= ∀ {a b:Int} {d:List UInt8} {f:List aB} {r:Bool},p a b d f=some r→Big Try.prog τ An (.fn 63 [.one (.ag [.int .i64 a, .int .i64 b, .str d, .sl (f.map aF)])] [] (.one (.c (.bool r))) none [] none)
def lK(n:Nat)(b:Int)(c:Int)(d:List UInt8)(f:List aB):Option (Bool):=
  (bP n b c d f (1:Int)).bind fun a=>some (decide (a≤(300:Int)))
theorem CC{n:Nat}:FJ (lK n):=by
 intro b c d f r h; unfold lK at h; refine bF Try.func63 rfl rfl<|gco 8 rfl<|xC0 h (tN ·) rfl (fun a h=> ?_)
 exact geo
abbrev dV:Type:=(List aB)→Option ((List aB))
abbrev hJ(p:dV):Prop:= ∀ {a:List aB} {r:(List aB)},p a=some r→Big Try.prog τ An (.fn 49 [.one (.c (.sl (a.map aF)))] [] (.one (.c (.sl (r.map aF)))) none [] none)
abbrev dL:Type:=Int→Int→(List UInt8)→(List aB)→Option (Int×Int×(List UInt8)×(List aB))
abbrev iV(p:dL):Prop:= ∀ {a b:Int} {c:List UInt8} {d:List aB} {r:Int×Int×(List UInt8)×(List aB)},p a b c d=some r→Big Try.prog τ An (.fn 93 [.one (.ag [.int .i64 a, .int .i64 b, .str c, .sl (d.map aF)])] [] (.one (.ag [.int .i64 r.1, .int .i64 r.2.1, .str r.2.2.1, .sl (r.2.2.2.map aF)])) none [] none)
def eS(n:Nat)(a:dL)(f:List aB):((List aB)×Int)→Option (((List aB)×Int)⊕(((List aB)×Int×Bool)))
  | (g,d)=>bif decide (d<(f.length:Int))then(ix f d).bind fun c=>(a c.f0 c.f1 c.f2 c.f3).bind fun b=>(fS 56 g ([aB.mk b.1 b.2.1 b.2.2.1 b.2.2.2]:List aB)).bind fun j=>some (.inl (j,(IntKind.wrap .i64 (d+(1:Int)))))else some (.inr (g,d,false))
def gV(n:Nat)(b:dV)(a:dL)(c:List aB):Option ((List aB)):=
  (loopN (eS n a c) n (([]:List aB),(0:Int))).bind fun(d,f,g)=>some d
theorem uY{n:Nat}{b:dV}(j:hJ b){c:dL}(d:iV c):hJ (gV n b c):=by
 intro w r h; unfold gV at h; refine bF Try.func49 rfl rfl<|cRs<|wAe (Li aF []) rfl rfl rfl rfl<|oRs<|wAe (Li aF []) rfl rfl rfl rfl<|goo 5 rfl<|xLn rfl<|goc 2 rfl<|cLp h [(3,3),(5,5),(8,17)] [(5,5)] (fun(l,o)=>([(3,Li aF l),(8,I64 o)],[])) (fun(m,p,s)=>(.e 0,[(3,Li aF m),(8,I64 p),(9,Bo s)],[])) rfl (fun st _ h=> ?_) (fun q h=> ?_)
 obtain⟨l,o⟩:=st; unfold eS at h; refine gcc 5 rfl<|cIf h rfl (fun v h=> ?_) (fun v h=> ?_)
 refine gco 5 rfl<|xIx h aJ rfl (fun t h=> ?_)
 refine xLd rfl<|xAz [.int .i64 0, .int .i64 0, .str [], .sl ([].map aF)] rfl<|goo 5 rfl<|xC0 h (d ·) rfl (fun g h=> ?_)
 refine cS (L:=([aB.mk g.1 g.2.1 g.2.2.1 g.2.2.2]:List aB)) (f:=aF) rfl rfl rfl rfl (by simp only[List.map,bZ]<;>rfl) rfl rfl<|wAp (f:=aF) h rfl rfl rfl rfl rfl rfl rfl rfl rfl (fun a=>by rw[aJ]; rfl) rfl (fun u h=> ?_)
 exact geo; exact gec; obtain⟨m,p,s⟩:=q; exact gec
def iO(n:Nat)(a:dV)(b:dL)(d:Int)(f:Int)(g:List UInt8)(j:List aB):Option (Int×Int×(List UInt8)×(List aB)):=
  (a j).bind fun c=>some (d,f,g,c)
theorem wY{n:Nat}{a:dV}(c:hJ a){b:dL}(d:iV b):iV (iO n a b):=by
 intro g j l m r h; unfold iO at h; refine bF Try.func93 rfl rfl<|gco 3 rfl<|xAz [.int .i64 0, .int .i64 0, .str [], .sl ([].map aF)] rfl<|goo 5 rfl<|xC0 h (c ·) rfl (fun f h=> ?_)
 exact geo
def fE:Nat→(dV)×(dL)
  | 0=>((fun _=>none),(fun _ _ _ _=>none))
  | n+1=>(gV n ((fE n).1) ((fE n).2),iO n ((fE n).1) ((fE n).2))
def dT(n:Nat):dV:=(fE n).1
def cZ(n:Nat):dL:=(fE n).2
theorem oQ(n:Nat):hJ (dT n)∧iV (cZ n):=by
  induction n with
  | zero=>exact⟨(fun h=>nomatch h),(fun h=>nomatch h)⟩
  | succ n ih=>exact⟨uY (n:=n) (ih.1) (ih.2),wY (n:=n) (ih.1) (ih.2)⟩
theorem xM{n:Nat}:hJ (dT n):=(oQ n).1
theorem yR{n:Nat}:iV (cZ n):=(oQ n).2
theorem tK(n:Nat):dT (n+1)=gV n (dT n) (cZ n):=rfl
theorem tZ(n:Nat):cZ (n+1)=iO n (dT n) (cZ n):=rfl
abbrev eI:Type:=(List aA)→(List aB)→(List aI)→Option ((List aI)×Bool)
abbrev iU(p:eI):Prop:= ∀ {a:List aA} {b:List aB} {d:List aI} {r:(List aI)×Bool},p a b d=some r→Big Try.prog τ An (.fn 104 [.one (.c (.sl (a.map aE))), .one (.c (.sl (b.map aF))), .one (.c (.sl (d.map aP)))] [] (.tup [.c (.sl (r.1.map aP)), .c (.bool r.2)]) none [] none)
abbrev gF:Type:=Int→Int→(List UInt8)→(List aA)→(List aC)→Int→Int→(List UInt8)→(List aB)→(List aI)→Option ((List aI)×Bool)
abbrev mZ(p:gF):Prop:= ∀ {a b:Int} {d:List UInt8} {f:List aA} {g:List aC} {j l:Int} {m:List UInt8} {o:List aB} {s:List aI} {r:(List aI)×Bool},p a b d f g j l m o s=some r→Big Try.prog τ An (.fn 64 [.one (.ag [.int .i64 a, .int .i64 b, .str d, .sl (f.map aE), .sl (g.map aD)]), .one (.ag [.int .i64 j, .int .i64 l, .str m, .sl (o.map aF)]), .one (.c (.sl (s.map aP)))] [] (.tup [.c (.sl (r.1.map aP)), .c (.bool r.2)]) none [] none)
def dP(n:Nat)(f:gF)(g:List aA)(l:List aB):((List aI)×Int)→Option (((List aI)×Int)⊕(((List aI)×Bool)⊕((List aI)×Int×Bool)))
  | (j,c)=>bif decide (c<(g.length:Int))then(ix g c).bind fun a=>(ix l c).bind fun b=>(f a.f0 a.f1 a.f2 a.f3 a.f4 b.f0 b.f1 b.f2 b.f3 j).bind fun d=>bif !d.2 then some (.inr (.inl (d.1,false)))else some (.inl (d.1,(IntKind.wrap .i64 (c+(1:Int)))))else some (.inr (.inr (j,c,false)))
def iN(n:Nat)(a:gF)(b:eI)(c:List aA)(d:List aB)(f:List aI):Option ((List aI)×Bool):=
  (loopN (dP n a c d) n (f,(0:Int))).bind fun q=>(match q with | .inl (j,l)=>some (j,l) | .inr (g,m,o)=>some (g,true))
theorem wX{n:Nat}{b:gF}(c:mZ b){a:eI}(d:iU a):iU (iN n b a):=by
 intro y z A r h; unfold iN at h; refine bF Try.func104 rfl rfl<|cRs<|wAe (Li aP []) rfl rfl rfl rfl<|goo 10 rfl<|xLn rfl<|goc 2 rfl<|cLp h [(2,2),(6,10),(13,31)] [(10,10)] (fun(l,f)=>([(2,Li aP l),(13,I64 f)],[])) (fun q=>match q with | .inl (o,p)=>(.r,[(6,Li aP o),(7,Bo p)],[]) | .inr (m,g,j)=>(.e 0,[(2,Li aP m),(13,I64 g),(14,Bo j)],[])) rfl (fun st _ h=> ?_) (fun q h=> ?_)
 obtain⟨l,f⟩:=st; unfold dP at h; refine gcc 5 rfl<|cIf h rfl (fun w h=> ?_) (fun w h=> ?_)
 refine gco 6 rfl<|xIx h aM rfl (fun v h=> ?_)
 refine xLd rfl<|xAz [.int .i64 0, .int .i64 0, .str [], .sl ([].map aE), .sl ([].map aD)] rfl<|goo 8 rfl<|xIx h aJ rfl (fun t h=> ?_)
 refine goo 2 rfl<|xC0 h (c ·) rfl (fun s h=> ?_)
 refine goc 11 rfl<|cIf h rfl (fun u h=> ?_) (fun u h=> ?_)
 exact gec; exact gec; exact gec; rcases q with⟨o,p⟩ | ⟨m,g,j⟩; exact en; exact gec
def mS(n:Nat)(m:gF)(a:eI)(o:Int)(G:Int)(u:List UInt8)(b:List aA)(J:List aC)(j:Int)(A:Int)(B:List UInt8)(f:List aB)(c:List aI):Option ((List aI)×Bool):=
  bif decide (o=(1:Int))then(bif decide (j=(1:Int))then some (decide (A=G))else some false).bind fun H=>some (c,H)else bif decide (o=(2:Int))then(bif decide (j=(2:Int))then some (decide (B=u))else some false).bind fun I=>some (c,I)else bif decide (o=(3:Int))then bif !decide (u=([95]:List UInt8))then(cZ n j A B f).bind fun l=>(fS 72 c ([aI.mk u l.1 l.2.1 l.2.2.1 l.2.2.2]:List aI)).bind fun C=>some (C,true)else some (c,true)else bif decide (o=(4:Int))then(bif !decide (j=(4:Int))then some true else some (!decide ((f.length:Int)=(b.length:Int)))).bind fun D=>bif D then some (c,false)else(a b f c).bind fun s=>some (s.1,s.2)else bif decide (o=(5:Int))then(bif !decide (j=(5:Int))then some true else some (!decide ((f.length:Int)=(b.length:Int)))).bind fun E=>bif E then some (c,false)else(a b f c).bind fun t=>some (t.1,t.2)else(bif !decide (j=(5:Int))then some true else some (decide ((f.length:Int)<(IntKind.wrap .i64 ((b.length:Int) - (1:Int)))))).bind fun v=>bif v then some (c,false)else(sub b none (some (IntKind.wrap .i64 ((b.length:Int) - (1:Int))))).bind fun w=>(sub f none (some (IntKind.wrap .i64 ((b.length:Int) - (1:Int))))).bind fun y=>(a w y c).bind fun g=>bif !g.2 then some (g.1,false)else(ix b (IntKind.wrap .i64 ((b.length:Int) - (1:Int)))).bind fun d=>(sub f (some (IntKind.wrap .i64 ((b.length:Int) - (1:Int)))) none).bind fun z=>(m d.f0 d.f1 d.f2 d.f3 d.f4 (5:Int) (0:Int) ([]:List UInt8) z g.1).bind fun p=>some (p.1,p.2)
theorem Bt{n:Nat}{g:gF}(j:mZ g){d:eI}(b:iU d):mZ (mS n g d):=by
 intro Z a0 s a1 a2 a3 a4 a5 a6 t r h; unfold mS at h; refine bF Try.func64 rfl rfl<|gco 4 rfl<|wAe (Li aP []) rfl rfl rfl rfl<|goc 14 rfl<|cIf h rfl (fun T h=> ?_) (fun T h=> ?_)
 refine cRs<|oJn h [(6,7),(14,24)] [] (fun u=>(.n,[(6,Li aP t),(7,Bo u)],[])) (fun _ h=> ?_) (fun u h=> ?_)
 refine goo 5 rfl<|oIf 18 h rfl (fun U h=> ?_) (fun U h=> ?_)
 exact geo; exact geo; exact gec; refine gcc 5 rfl<|cIf h rfl (fun V h=> ?_) (fun V h=> ?_)
 refine cRs<|oJn h [(6,7),(27,37)] [] (fun v=>(.n,[(6,Li aP t),(7,Bo v)],[])) (fun _ h=> ?_) (fun v h=> ?_)
 refine goo 5 rfl<|oIf 31 h rfl (fun W h=> ?_) (fun W h=> ?_)
 exact geo; exact geo; exact gec; refine gcc 5 rfl<|cIf h rfl (fun X h=> ?_) (fun X h=> ?_)
 refine gcc 7 rfl<|cIf h rfl (fun Y h=> ?_) (fun Y h=> ?_)
 refine gco 5 rfl<|xC0 h (yR ·) rfl (fun c h=> ?_)
 refine wBd [.str s, .int .i64 c.1, .int .i64 c.2.1, .str c.2.2.1, .sl (c.2.2.2.map aF)] rfl rfl rfl rfl rfl rfl<|cS (L:=([aI.mk s c.1 c.2.1 c.2.2.1 c.2.2.2]:List aI)) (f:=aP) rfl rfl rfl rfl rfl rfl rfl<|wAp (f:=aP) h rfl rfl rfl rfl rfl rfl rfl rfl rfl (fun _=>rfl) rfl (fun R h=> ?_)
 exact geo; exact gec; refine gcc 5 rfl<|cIf h rfl (fun E h=> ?_) (fun E h=> ?_)
 refine gco 3 rfl<|oJn h [(54,65)] [] (fun m=>(.n,[(65,Bo m)],[])) (fun _ h=> ?_) (fun m h=> ?_)
 refine goo 4 rfl<|oIf 57 h rfl (fun G h=> ?_) (fun G h=> ?_)
 exact geo; exact goo 2 rfl<|xLn rfl<|goo 2 rfl<|xLn rfl<|geo
 refine cIf h rfl (fun H h=> ?_) (fun H h=> ?_)
 exact gec; refine gco 8 rfl<|xC0 h (b ·) rfl (fun C h=> ?_)
 exact geo; refine gcc 5 rfl<|cIf h rfl (fun I h=> ?_) (fun I h=> ?_)
 refine gco 3 rfl<|oJn h [(77,88)] [] (fun o=>(.n,[(88,Bo o)],[])) (fun _ h=> ?_) (fun o h=> ?_)
 refine goo 4 rfl<|oIf 80 h rfl (fun J h=> ?_) (fun J h=> ?_)
 exact geo; exact goo 2 rfl<|xLn rfl<|goo 2 rfl<|xLn rfl<|geo
 refine cIf h rfl (fun K h=> ?_) (fun K h=> ?_)
 exact gec; refine gco 8 rfl<|xC0 h (b ·) rfl (fun D h=> ?_)
 exact geo; refine gco 5 rfl<|xLn rfl<|goo 6 rfl<|oJn h [(102,111)] [] (fun l=>(.n,[(111,Bo l)],[])) (fun _ h=> ?_) (fun l h=> ?_)
 refine goo 4 rfl<|oIf 105 h rfl (fun M h=> ?_) (fun M h=> ?_)
 exact geo; exact goo 2 rfl<|xLn rfl<|geo
 refine cIf h rfl (fun N h=> ?_) (fun N h=> ?_)
 exact gec; refine gco 6 rfl<|wSl (rf:=aE) h rfl rfl rfl rfl .no (.so rfl) (fun a=>by rw[aM]; rfl) rfl (fun A h=> ?_)
 refine goo 3 rfl<|wSl (rf:=aF) h rfl rfl rfl rfl .no (.so rfl) (fun a=>by rw[aJ]; rfl) rfl (fun B h=> ?_)
 refine xMv rfl<|xC0 h (b ·) rfl (fun w h=> ?_)
 refine goc 12 rfl<|cIf h rfl (fun Q h=> ?_) (fun Q h=> ?_)
 exact gec; refine gco 6 rfl<|xIx h aM rfl (fun z h=> ?_)
 refine goo 4 rfl<|wSl (rf:=aF) h rfl rfl rfl rfl (.so rfl) .no (fun a=>by rw[aJ]; rfl) rfl (fun p h=> ?_)
 refine wBd [.int .i64 5, .int .i64 0, .str [], .sl (p.map aF)] rfl rfl rfl rfl rfl rfl<|xMv rfl<|xC0 h (j ·) rfl (fun y h=> ?_)
 exact geo
def kP:Nat→(gF)×(eI)
  | 0=>((fun _ _ _ _ _ _ _ _ _ _=>none),(fun _ _ _=>none))
  | n+1=>(mS n ((kP n).1) ((kP n).2),iN n ((kP n).1) ((kP n).2))
def eC(n:Nat):gF:=(kP n).1
def dK(n:Nat):eI:=(kP n).2
theorem sR(n:Nat):mZ (eC n)∧iU (dK n):=by
  induction n with
  | zero=>exact⟨(fun h=>nomatch h),(fun h=>nomatch h)⟩
  | succ n ih=>exact⟨Bt (n:=n) (ih.1) (ih.2),wX (n:=n) (ih.1) (ih.2)⟩
theorem Cp{n:Nat}:mZ (eC n):=(sR n).1
theorem Jm{n:Nat}:iU (dK n):=(sR n).2
theorem yN(n:Nat):eC (n+1)=mS n (eC n) (dK n):=rfl
theorem tY(n:Nat):dK (n+1)=iN n (eC n) (dK n):=rfl
abbrev Gu(p:Int→Int→(List UInt8)→(List aA)→(List aC)→Int→Int→(List UInt8)→(List aB)→Option ((List aI)×Bool)):Prop:= ∀ {a b:Int} {d:List UInt8} {f:List aA} {g:List aC} {j l:Int} {m:List UInt8} {o:List aB} {r:(List aI)×Bool},p a b d f g j l m o=some r→Big Try.prog τ An (.fn 25 [.one (.ag [.int .i64 a, .int .i64 b, .str d, .sl (f.map aE), .sl (g.map aD)]), .one (.ag [.int .i64 j, .int .i64 l, .str m, .sl (o.map aF)])] [] (.tup [.c (.sl (r.1.map aP)), .c (.bool r.2)]) none [] none)
def iL(n:Nat)(b:Int)(c:Int)(d:List UInt8)(f:List aA)(g:List aC)(j:Int)(l:Int)(m:List UInt8)(o:List aB):Option ((List aI)×Bool):=
  ((mY n b c d f g).bind fun t=>bif !t then some true else(lK n j l m o).bind fun p=>some (!p)).bind fun s=>bif s then some (([]:List aI),false)else(eC n b c d f g j l m o ([]:List aI)).bind fun a=>bif !a.2 then some (([]:List aI),false)else some (a.1,true)
theorem uH{n:Nat}:Gu (iL n):=by
 intro l m o p s t u v w r h; unfold iL at h; refine bF Try.func25 rfl rfl<|gco 4 rfl<|wAe (Li aP []) rfl rfl rfl rfl<|goo 5 rfl<|oJn h [(8,15)] [] (fun a=>(.n,[(15,Bo a)],[])) (fun _ h=> ?_) (fun a h=> ?_)
 refine xLd rfl<|xC0 h (Cq ·) rfl (fun d h=> ?_)
 refine goo 2 rfl<|oIf 11 h rfl (fun f h=> ?_) (fun f h=> ?_)
 exact geo; refine xLd rfl<|xC0 h (CC ·) rfl (fun b h=> ?_)
 exact geo; refine cIf h rfl (fun g h=> ?_) (fun g h=> ?_)
 exact cRs<|wAe (Li aP []) rfl rfl rfl rfl<|geo
 refine gco 5 rfl<|xC0 h (Cp ·) rfl (fun c h=> ?_)
 refine goc 12 rfl<|cIf h rfl (fun j h=> ?_) (fun j h=> ?_)
 exact cRs<|wAe (Li aP []) rfl rfl rfl rfl<|geo
 exact gec
abbrev uA(p:(List aB)→Int→Int→Option ((List aB))):Prop:= ∀ {a:List aB} {b d:Int} {r:(List aB)},p a b d=some r→Big Try.prog τ An (.fn 50 [.one (.c (.sl (a.map aF))), .one (.c (.int .i64 b)), .one (.c (.int .i64 d))] [] (.one (.c (.sl (r.map aF)))) none [] none)
def dW(n:Nat)(b:List aB)(a:Int)(c:Int):Option (List aB):=bif decide (c=a+1)&&(decide (0≤a)&&decide (a<(b.length:Int)))then some (b.eraseIdx a.toNat)else none
set_option maxRecDepth 100000 in
theorem rV{n:Nat}:uA (dW n):=by
 intro b a c r h; unfold dW at h; cases hc:(decide (c=a+1)&&(decide (0≤a)&&decide (a<(b.length:Int))))with
 | false=>rw[hc]at h; cases h
 | true=>
  rw[hc]at h; cases h; simp only[z7,z35]at hc; obtain⟨rfl,h1,h2⟩:=hc; obtain⟨i,rfl⟩: ∃i:Nat,a=i:=⟨a.toNat,by omega⟩
  rw[z66, ←Lt]; exact Big.lib Try.func50 rfl rfl (Nn OB rfl rfl rfl rfl (by decide) (.inl rfl) (by rw[z83]; omega))

abbrev II(p:Int→Int→(List UInt8)→(List aA)→(List aC)→(List aB)→Option (Int×Int×(List UInt8)×(List aB)×(List aB)×Bool)):Prop:= ∀ {a b:Int} {d:List UInt8} {f:List aA} {g:List aC} {j:List aB} {r:Int×Int×(List UInt8)×(List aB)×(List aB)×Bool},p a b d f g j=some r→Big Try.prog τ An (.fn 12 [.one (.ag [.int .i64 a, .int .i64 b, .str d, .sl (f.map aE), .sl (g.map aD)]), .one (.c (.sl (j.map aF)))] [] (.tup [.ag [.int .i64 r.1, .int .i64 r.2.1, .str r.2.2.1, .sl (r.2.2.2.1.map aF)], .c (.sl (r.2.2.2.2.1.map aF)), .c (.bool r.2.2.2.2.2)]) none [] none)
def kA(n:Nat)(o:Int)(c:(List aB))(p:Int)(s:List UInt8)(t:List aA)(u:List aC):(Int×Int×Int×(List UInt8)×(List aB))→Option ((Int×Int×Int×(List UInt8)×(List aB))⊕(((List aB)×Bool×Int×Int×(List UInt8)×(List aB))⊕(Int×Bool×Int×Int×(List UInt8)×(List aB))))
  | (b,g,j,l,m)=>bif decide (b<(c.length:Int))then(ix c b).bind fun a=>(iL n o p s t u a.f0 a.f1 a.f2 a.f3).bind fun d=>bif d.2 then(dW n c b (IntKind.wrap .i64 (b+(1:Int)))).bind fun f=>some (.inr (.inl (f,true,a.f0,a.f1,a.f2,a.f3)))else some (.inl ((IntKind.wrap .i64 (b+(1:Int))),g,j,l,m))else some (.inr (.inr (b,false,g,j,l,m)))
def mC(n:Nat)(f:Int)(g:Int)(j:List UInt8)(l:List aA)(m:List aC)(o:List aB):Option (Int×Int×(List UInt8)×(List aB)×(List aB)×Bool):=
  (dT n o).bind fun a=>(loopN (kA n f a g j l m) n ((0:Int),(0:Int),(0:Int),([]:List UInt8),([]:List aB))).bind fun q=>(match q with | .inl (p,s,t,b,c,d)=>some (t,b,c,d,p,s) | .inr (u,v,w,y,z,A)=>some ((0:Int),(0:Int),([]:List UInt8),([]:List aB),a,false))
theorem Ex{n:Nat}:II (mC n):=by
 intro I J K L M N r h; unfold mC at h; refine bF Try.func12 rfl rfl<|gco 3 rfl<|xAz [.int .i64 0, .int .i64 0, .str [], .sl ([].map aF)] rfl<|wAe (Li aF []) rfl rfl rfl rfl<|goo 5 rfl<|xC0 h (xM ·) rfl (fun H h=> ?_)
 refine goo 5 rfl<|wAl rfl rfl rfl rfl<|xLn rfl<|goc 2 rfl<|cLp h [(4,6),(8,11),(16,34)] [(4,4),(9,9)] (fun(d,v,w,y,z)=>([(4,Pt 4),(16,I64 d)],[(4,[.int .i64 v, .int .i64 w, .str y, .sl (z.map aF)])])) (fun q=>match q with | .inl (t,u,A,g,j,l)=>(.r,[(4,Pt 4),(5,Li aF t),(6,Bo u)],[(4,[.int .i64 A, .int .i64 g, .str j, .sl (l.map aF)])]) | .inr (b,c,m,o,p,s)=>(.e 0,[(4,Pt 4),(16,I64 b),(17,Bo c)],[(4,[.int .i64 m, .int .i64 o, .str p, .sl (s.map aF)])])) rfl (fun st _ h=> ?_) (fun q h=> ?_)
 obtain⟨d,v,w,y,z⟩:=st; unfold kA at h; refine gcc 5 rfl<|cIf h rfl (fun E h=> ?_) (fun E h=> ?_)
 refine gco 6 rfl<|wIp (f:=aF) h rfl rfl rfl rfl rfl rfl (fun a=>by rw[aJ]; rfl) rfl (fun D ke19_20 h=> ?_)
 refine wLp (f:=aF) ke19_20 rfl rfl rfl rfl rfl rfl rfl (by rw[aJ]) rfl rfl<|xAz [.int .i64 0, .int .i64 0, .str [], .sl ([].map aF)] rfl<|goo 7 rfl<|xC0 h (uH ·) rfl (fun B h=> ?_)
 refine goc 10 rfl<|cIf h rfl (fun G h=> ?_) (fun G h=> ?_)
 refine gco 7 rfl<|xC0 h (rV ·) rfl (fun C h=> ?_)
 exact geo; exact gec; exact gec; rcases q with⟨t,u,A,g,j,l⟩ | ⟨b,c,m,o,p,s⟩; exact en; exact cRs<|wBd [.int .i64 0, .int .i64 0, .str [], .sl ([].map aF)] rfl rfl rfl rfl rfl rfl<|geo
abbrev Jl(p:(List Int)→Option (Bool)):Prop:= ∀ {a:List Int} {r:Bool},p a=some r→Big Try.prog τ An (.fn 21 [.one (.c (.sl (a.map rI_u8)))] [] (.one (.c (.bool r))) none [] none)
def tC(n:Nat)(a:List Int):Option (Bool):=
  some (decide ((1048576:Int)<(a.length:Int)))
theorem Gg{n:Nat}:Jl (tC n):=by
 intro a r h; unfold tC at h; exact bF Try.func21 rfl rfl<|gco 7 rfl<|xLn rfl<|geo
abbrev Gn(p:(List Int)→Option ((List Int)×Int×Int)):Prop:= ∀ {a:List Int} {r:(List Int)×Int×Int},p a=some r→Big Try.prog τ An (.fn 56 [.one (.c (.sl (a.map rI_u8)))] [] (.one (.ptr 0 0)) none [] (some [.sl (r.1.map rI_u8), .int .i64 r.2.1, .int .i64 r.2.2]))
def oI(n:Nat)(b:List Int):(Int×Int)→Option ((Int×Int)⊕((Int×Int×Bool)))
  | (c,a)=>(bif decide (a<(b.length:Int))then some (decide (a<(4000:Int)))else some false).bind fun f=>bif f then(ix b a).bind fun d=>some (.inl ((bits .and .i64 (IntKind.wrap .i64 ((IntKind.wrap .i64 ((IntKind.wrap .i64 (c*(137:Int)))+(IntKind.wrap .i64 d)))+(11:Int))) (1073741823:Int)),(IntKind.wrap .i64 (a+(1:Int)))))else some (.inr (c,a,false))
def kQ(n:Nat)(a:List Int):Option ((List Int)×Int×Int):=
  (loopN (oI n a) n ((IntKind.wrap .i64 ((375375:Int)+(a.length:Int))),(0:Int))).bind fun(b,d,c)=>some (a,(0:Int),b)
theorem uG{n:Nat}:Gn (kQ n):=by
 intro l r h; unfold kQ at h; refine bF Try.func56 rfl rfl<|gco 7 rfl<|xLn rfl<|goc 8 rfl<|cLp h [(3,4),(8,27)] [] (fun(a,f)=>([(3,I64 a),(4,I64 f)],[])) (fun(b,g,c)=>(.e 0,[(3,I64 b),(4,I64 g),(15,Bo c)],[])) rfl (fun st _ h=> ?_) (fun q h=> ?_)
 obtain⟨a,f⟩:=st; unfold oI at h; refine gco 3 rfl<|oJn h [(8,15)] [] (fun d=>(.n,[(15,Bo d)],[])) (fun _ h=> ?_) (fun d h=> ?_)
 refine goo 2 rfl<|xLn rfl<|goo 2 rfl<|oIf 12 h rfl (fun m h=> ?_) (fun m h=> ?_)
 exact geo; exact geo; refine cIf h rfl (fun o h=> ?_) (fun o h=> ?_)
 refine gco 8 rfl<|xIx h IX rfl (fun j h=> ?_)
 exact goo 4 rfl<|wBi (.int .i64 (bits .and .i64 (IntKind.wrap .i64 ((IntKind.wrap .i64 ((IntKind.wrap .i64 (a*(137:Int)))+(IntKind.wrap .i64 j)))+(11:Int))) (1073741823:Int))) rfl rfl rfl rfl rfl<|geo
 exact gec; obtain⟨b,g,c⟩:=q; exact gco 4 rfl<|wBd [.sl (l.map rI_u8), .int .i64 0, .int .i64 b] rfl rfl rfl rfl rfl rfl<|geo
abbrev FE(p:(List Int)→Int→Int→Option (Int×(List Int)×Int×Int)):Prop:= ∀ {a:List Int} {b d:Int} {r:Int×(List Int)×Int×Int},p a b d=some r→Big Try.prog τ An (.fn 99 [.one (.ptr 1000000 0)] [[.sl (a.map rI_u8), .int .i64 b, .int .i64 d]] (.one (.c (.int .i64 r.1))) none [[.sl (r.2.1.map rI_u8), .int .i64 r.2.2.1, .int .i64 r.2.2.2]] none)
def fN(n:Nat)(b:List Int)(c:Int)(a:Int):Option (Int×(List Int)×Int×Int):=
  bif decide (c<(b.length:Int))then(ix b c).bind fun d=>some ((bits .and .i64 (IntKind.wrap .i64 ((bits .and .i64 (bits .xor .i64 (Int.fdiv (IntKind.wrap .i64 ((IntKind.wrap .i64 (a*(6364136223846793005:Int)))+(1442695040888963407:Int))) (2 ^ 33)) (Int.fdiv (IntKind.wrap .i64 ((IntKind.wrap .i64 (a*(6364136223846793005:Int)))+(1442695040888963407:Int))) (2 ^ 47))) (255:Int))+(IntKind.wrap .i64 d))) (255:Int)),b,(IntKind.wrap .i64 (c+(1:Int))),(IntKind.wrap .i64 ((IntKind.wrap .i64 (a*(6364136223846793005:Int)))+(1442695040888963407:Int))))else some ((bits .and .i64 (bits .xor .i64 (Int.fdiv (IntKind.wrap .i64 ((IntKind.wrap .i64 (a*(6364136223846793005:Int)))+(1442695040888963407:Int))) (2 ^ 33)) (Int.fdiv (IntKind.wrap .i64 ((IntKind.wrap .i64 (a*(6364136223846793005:Int)))+(1442695040888963407:Int))) (2 ^ 47))) (255:Int)),b,c,(IntKind.wrap .i64 ((IntKind.wrap .i64 (a*(6364136223846793005:Int)))+(1442695040888963407:Int))))
theorem lT{n:Nat}:FE (fN n):=by
 intro c d a r h; unfold fN at h; refine bF Try.func99 rfl rfl<|gco 23 rfl<|wBi (.int .i64 (Int.fdiv (IntKind.wrap .i64 ((IntKind.wrap .i64 (a*(6364136223846793005:Int)))+(1442695040888963407:Int))) (2 ^ 33))) rfl rfl rfl rfl rfl<|goo 4 rfl<|wBi (.int .i64 (Int.fdiv (IntKind.wrap .i64 ((IntKind.wrap .i64 (a*(6364136223846793005:Int)))+(1442695040888963407:Int))) (2 ^ 47))) rfl rfl rfl rfl rfl<|wBi (.int .i64 (bits .xor .i64 (Int.fdiv (IntKind.wrap .i64 ((IntKind.wrap .i64 (a*(6364136223846793005:Int)))+(1442695040888963407:Int))) (2 ^ 33)) (Int.fdiv (IntKind.wrap .i64 ((IntKind.wrap .i64 (a*(6364136223846793005:Int)))+(1442695040888963407:Int))) (2 ^ 47)))) rfl rfl rfl rfl rfl<|wBi (.int .i64 (bits .and .i64 (bits .xor .i64 (Int.fdiv (IntKind.wrap .i64 ((IntKind.wrap .i64 (a*(6364136223846793005:Int)))+(1442695040888963407:Int))) (2 ^ 33)) (Int.fdiv (IntKind.wrap .i64 ((IntKind.wrap .i64 (a*(6364136223846793005:Int)))+(1442695040888963407:Int))) (2 ^ 47))) (255:Int))) rfl rfl rfl rfl rfl<|goo 13 rfl<|xLn rfl<|goc 2 rfl<|cIf h rfl (fun f h=> ?_) (fun f h=> ?_)
 refine gco 11 rfl<|xIx h IX rfl (fun b h=> ?_)
 exact goo 3 rfl<|wBi (.int .i64 (bits .and .i64 (IntKind.wrap .i64 ((bits .and .i64 (bits .xor .i64 (Int.fdiv (IntKind.wrap .i64 ((IntKind.wrap .i64 (a*(6364136223846793005:Int)))+(1442695040888963407:Int))) (2 ^ 33)) (Int.fdiv (IntKind.wrap .i64 ((IntKind.wrap .i64 (a*(6364136223846793005:Int)))+(1442695040888963407:Int))) (2 ^ 47))) (255:Int))+(IntKind.wrap .i64 b))) (255:Int))) rfl rfl rfl rfl rfl<|geo
 exact gec
abbrev Cz(p:Int→(List Int)→Int→Int→Option (Int×(List Int)×Int×Int)):Prop:= ∀ {f:Int} {a:List Int} {b d:Int} {r:Int×(List Int)×Int×Int},p f a b d=some r→Big Try.prog τ An (.fn 58 [.one (.ptr 1000000 0), .one (.c (.int .i64 f))] [[.sl (a.map rI_u8), .int .i64 b, .int .i64 d]] (.one (.c (.int .i64 r.1))) none [[.sl (r.2.1.map rI_u8), .int .i64 r.2.2.1, .int .i64 r.2.2.2]] none)
def aK(n:Nat)(a:Int)(g:List Int)(j:Int)(l:Int):Option (Int×(List Int)×Int×Int):=
  bif decide (a≤(0:Int))then some ((0:Int),g,j,l)else bif decide (a≤(256:Int))then(fN n g j l).bind fun b=>(ck (!decide (a=0))).bind fun _=>some ((Int.tmod b.1 a),b.2.1,b.2.2.1,b.2.2.2)else(fN n g j l).bind fun c=>(fN n c.2.1 c.2.2.1 c.2.2.2).bind fun d=>(fN n d.2.1 d.2.2.1 d.2.2.2).bind fun f=>(ck (!decide (a=0))).bind fun _=>some ((Int.tmod (IntKind.wrap .i64 ((IntKind.wrap .i64 ((IntKind.wrap .i64 (c.1*(65536:Int)))+(IntKind.wrap .i64 (d.1*(256:Int)))))+f.1)) a),f.2.1,f.2.2.1,f.2.2.2)
theorem aL{n:Nat}:Cz (aK n):=by
 intro s j l m r h; unfold aK at h; refine bF Try.func58 rfl rfl<|gcc 10 rfl<|cIf h rfl (fun o h=> ?_) (fun o h=> ?_)
 exact gec; refine gcc 7 rfl<|cIf h rfl (fun p h=> ?_) (fun p h=> ?_)
 refine gco 3 rfl<|xC1 h (lT ·) rfl (fun c h=> ?_)
 refine xMv rfl<|oCk h (fun a h=> ?_)
 exact wRem a rfl rfl rfl rfl<|geo
 refine gco 4 rfl<|xC1 h (lT ·) rfl (fun d h=> ?_)
 refine goo 5 rfl<|xC1 h (lT ·) rfl (fun f h=> ?_)
 refine goo 5 rfl<|xC1 h (lT ·) rfl (fun g h=> ?_)
 refine goo 12 rfl<|oCk h (fun b h=> ?_)
 exact wRem b rfl rfl rfl rfl<|geo
abbrev Gp(p:(List Int)→(List Int)→Int→Int→Option (Int×(List Int)×Int×Int)):Prop:= ∀ {f a:List Int} {b d:Int} {r:Int×(List Int)×Int×Int},p f a b d=some r→Big Try.prog τ An (.fn 100 [.one (.ptr 1000000 0), .one (.c (.sl (f.map pK)))] [[.sl (a.map rI_u8), .int .i64 b, .int .i64 d]] (.one (.c (.int .i64 r.1))) none [[.sl (r.2.1.map rI_u8), .int .i64 r.2.2.1, .int .i64 r.2.2.2]] none)
def bN(n:Nat)(b:List Int)(d:List Int)(f:Int)(g:Int):Option (Int×(List Int)×Int×Int):=
  (aK n (b.length:Int) d f g).bind fun a=>(ix b a.1).bind fun c=>some (c,a.2.1,a.2.2.1,a.2.2.2)
theorem cK{n:Nat}:Gp (bN n):=by
 intro g c d f r h; unfold bN at h; refine bF Try.func100 rfl rfl<|gco 9 rfl<|xLn rfl<|xC1 h (aL ·) rfl (fun b h=> ?_)
 refine xIx h LW rfl (fun a h=> ?_)
 exact geo
abbrev Gm(p:(List (List UInt8))→(List Int)→Int→Int→Option ((List UInt8)×(List Int)×Int×Int)):Prop:= ∀ {f:List (List UInt8)} {a:List Int} {b d:Int} {r:(List UInt8)×(List Int)×Int×Int},p f a b d=some r→Big Try.prog τ An (.fn 101 [.one (.ptr 1000000 0), .one (.c (.sl (f.map eA)))] [[.sl (a.map rI_u8), .int .i64 b, .int .i64 d]] (.one (.c (.str r.1))) none [[.sl (r.2.1.map rI_u8), .int .i64 r.2.2.1, .int .i64 r.2.2.2]] none)
def aU(n:Nat)(b:List (List UInt8))(d:List Int)(f:Int)(g:Int):Option ((List UInt8)×(List Int)×Int×Int):=
  (aK n (b.length:Int) d f g).bind fun a=>(ix b a.1).bind fun c=>some (c,a.2.1,a.2.2.1,a.2.2.2)
theorem bD{n:Nat}:Gm (aU n):=by
 intro g c d f r h; unfold aU at h; refine bF Try.func101 rfl rfl<|gco 9 rfl<|xLn rfl<|xC1 h (aL ·) rfl (fun b h=> ?_)
 refine xIx h oZ rfl (fun a h=> ?_)
 exact geo
abbrev Gi(p:Int→Option (Int×Int×(List UInt8)×(List aA)×(List aC))):Prop:= ∀ {a:Int} {r:Int×Int×(List UInt8)×(List aA)×(List aC)},p a=some r→Big Try.prog τ An (.fn 130 [.one (.c (.int .i64 a))] [] (.one (.ag [.int .i64 r.1, .int .i64 r.2.1, .str r.2.2.1, .sl (r.2.2.2.1.map aE), .sl (r.2.2.2.2.map aD)])) none [] none)
def bM(n:Nat)(a:Int):Option (Int×Int×(List UInt8)×(List aA)×(List aC)):=
  some ((1:Int),a,([]:List UInt8),([]:List aA),([]:List aC))
theorem cA{n:Nat}:Gi (bM n):=by
 intro a r h; unfold bM at h; exact bF Try.func130 rfl rfl<|cRs<|xAz [.int .i64 0, .int .i64 0, .str [], .sl ([].map aE), .sl ([].map aD)] rfl<|goo 4 rfl<|wBd [.int .i64 1, .int .i64 a, .str [], .sl ([].map aE), .sl ([].map aD)] rfl rfl rfl rfl rfl rfl<|geo
abbrev ID(p:(List UInt8)→Option (Int×Int×(List UInt8)×(List aA)×(List aC))):Prop:= ∀ {a:List UInt8} {r:Int×Int×(List UInt8)×(List aA)×(List aC)},p a=some r→Big Try.prog τ An (.fn 131 [.one (.c (.str a))] [] (.one (.ag [.int .i64 r.1, .int .i64 r.2.1, .str r.2.2.1, .sl (r.2.2.2.1.map aE), .sl (r.2.2.2.2.map aD)])) none [] none)
def kD(n:Nat)(a:List UInt8):Option (Int×Int×(List UInt8)×(List aA)×(List aC)):=
  some ((2:Int),(0:Int),a,([]:List aA),([]:List aC))
theorem rA{n:Nat}:ID (kD n):=by
 intro a r h; unfold kD at h; exact bF Try.func131 rfl rfl<|cRs<|xAz [.int .i64 0, .int .i64 0, .str [], .sl ([].map aE), .sl ([].map aD)] rfl<|goo 4 rfl<|wBd [.int .i64 2, .int .i64 0, .str a, .sl ([].map aE), .sl ([].map aD)] rfl rfl rfl rfl rfl rfl<|geo
abbrev iM:Type:=Int→(List Int)→Int→Int→(List (List UInt8))→Option (Int×Int×(List UInt8)×(List aA)×(List aC)×(List Int)×Int×Int×(List (List UInt8)))
abbrev pP(p:iM):Prop:= ∀ {g:Int} {a:List Int} {b d:Int} {f:List (List UInt8)} {r:Int×Int×(List UInt8)×(List aA)×(List aC)×(List Int)×Int×Int×(List (List UInt8))},p g a b d f=some r→Big Try.prog τ An (.fn 95 [.one (.ptr 1000000 0), .one (.c (.int .i64 g)), .one (.ptr 1000001 0)] [[.sl (a.map rI_u8), .int .i64 b, .int .i64 d],[.sl (f.map eA)]] (.one (.ag [.int .i64 r.1, .int .i64 r.2.1, .str r.2.2.1, .sl (r.2.2.2.1.map aE), .sl (r.2.2.2.2.1.map aD)])) none [[.sl (r.2.2.2.2.2.1.map rI_u8), .int .i64 r.2.2.2.2.2.2.1, .int .i64 r.2.2.2.2.2.2.2.1],[.sl (r.2.2.2.2.2.2.2.2.map eA)]] none)
def lR(n:Nat)(g:iM)(y:Int):(Int×Int×Int×(List UInt8)×(List aA)×(List aC)×(List Int)×Int×Int×(List (List UInt8)))→Option ((Int×Int×Int×(List UInt8)×(List aA)×(List aC)×(List Int)×Int×Int×(List (List UInt8)))⊕((Int×Bool×Int×Int×(List UInt8)×(List aA)×(List aC)×(List Int)×Int×Int×(List (List UInt8)))))
  | (j,s,t,u,v,w,b,c,d,f)=>bif decide (j<(2:Int))then((bif decide ((0:Int)<y)then(g (IntKind.wrap .i64 (y - (1:Int))) b c d f).bind fun a=>(fS 80 v ([aA.mk a.1 a.2.1 a.2.2.1 a.2.2.2.1 a.2.2.2.2.1]:List aA)).bind fun z=>some (s,t,u,z,w,a.2.2.2.2.2.1,a.2.2.2.2.2.2.1,a.2.2.2.2.2.2.2.1,a.2.2.2.2.2.2.2.2)else(fS 80 v ([aA.mk (3:Int) (0:Int) ([95]:List UInt8) ([]:List aA) ([]:List aC)]:List aA)).bind fun A=>some (s,t,u,A,w,b,c,d,f):Option ((Int×Int×(List UInt8)×(List aA)×(List aC)×(List Int)×Int×Int×(List (List UInt8)))))).bind fun(B,C,D,E,G,l,m,o,p)=>some (.inl ((IntKind.wrap .i64 (j+(1:Int))),B,C,D,E,G,l,m,o,p))else some (.inr (j,false,s,t,u,v,w,b,c,d,f))
def lQ(n:Nat)(g:iM)(z:Int)(y:Int×(List Int)×Int×Int):(Int×Int×Int×(List UInt8)×(List aA)×(List aC)×(List Int)×Int×Int×(List (List UInt8)))→Option ((Int×Int×Int×(List UInt8)×(List aA)×(List aC)×(List Int)×Int×Int×(List (List UInt8)))⊕((Int×Bool×Int×Int×(List UInt8)×(List aA)×(List aC)×(List Int)×Int×Int×(List (List UInt8)))))
  | (j,s,t,u,v,w,b,c,d,f)=>bif decide (j<y.1)then((bif decide ((0:Int)<z)then(g (IntKind.wrap .i64 (z - (1:Int))) b c d f).bind fun a=>(fS 80 v ([aA.mk a.1 a.2.1 a.2.2.1 a.2.2.2.1 a.2.2.2.2.1]:List aA)).bind fun A=>some (s,t,u,A,w,a.2.2.2.2.2.1,a.2.2.2.2.2.2.1,a.2.2.2.2.2.2.2.1,a.2.2.2.2.2.2.2.2)else(fS 80 v ([aA.mk (3:Int) (0:Int) ([95]:List UInt8) ([]:List aA) ([]:List aC)]:List aA)).bind fun B=>some (s,t,u,B,w,b,c,d,f):Option ((Int×Int×(List UInt8)×(List aA)×(List aC)×(List Int)×Int×Int×(List (List UInt8)))))).bind fun(C,D,E,G,H,l,m,o,p)=>some (.inl ((IntKind.wrap .i64 (j+(1:Int))),C,D,E,G,H,l,m,o,p))else some (.inr (j,false,s,t,u,v,w,b,c,d,f))
def mR(n:Nat)(l:iM)(G:Int)(X:List Int)(Y:Int)(Z:Int)(f:List (List UInt8)):Option (Int×Int×(List UInt8)×(List aA)×(List aC)×(List Int)×Int×Int×(List (List UInt8))):=
  (aK n (8:Int) X Y Z).bind fun a=>bif decide (a.1=(0:Int))then(aK n (3:Int) a.2.1 a.2.2.1 a.2.2.2).bind fun p=>(bM n p.1).bind fun m=>some (m.1,m.2.1,m.2.2.1,m.2.2.2.1,m.2.2.2.2,p.2.1,p.2.2.1,p.2.2.2,f)else bif decide (a.1=(1:Int))then(aU n ([([111,107]:List UInt8),([97]:List UInt8),([115,116,111,112]:List UInt8)]:List (List UInt8)) a.2.1 a.2.2.1 a.2.2.2).bind fun s=>(kD n s.1).bind fun o=>some (o.1,o.2.1,o.2.2.1,o.2.2.2.1,o.2.2.2.2,s.2.1,s.2.2.1,s.2.2.2,f)else bif decide (a.1=(2:Int))then some ((3:Int),(0:Int),([95]:List UInt8),([]:List aA),([]:List aC),a.2.1,a.2.2.1,a.2.2.2,f)else bif decide (a.1=(3:Int))then(aU n ([([65]:List UInt8),([66]:List UInt8),([67]:List UInt8),([68]:List UInt8),([72]:List UInt8),([84]:List UInt8)]:List (List UInt8)) a.2.1 a.2.2.1 a.2.2.2).bind fun b=>(fD n f b.1).bind fun C=>bif C then some ((3:Int),(0:Int),([95]:List UInt8),([]:List aA),([]:List aC),b.2.1,b.2.2.1,b.2.2.2,f)else(fS 16 f ([b.1]:List (List UInt8))).bind fun H=>some ((3:Int),(0:Int),b.1,([]:List aA),([]:List aC),b.2.1,b.2.2.1,b.2.2.2,H)else bif decide (a.1=(4:Int))then(aU n ([([65]:List UInt8),([66]:List UInt8),([67]:List UInt8),([68]:List UInt8),([72]:List UInt8),([84]:List UInt8)]:List (List UInt8)) a.2.1 a.2.2.1 a.2.2.2).bind fun c=>(fD n f c.1).bind fun D=>bif D then some ((3:Int),(0:Int),([95]:List UInt8),([]:List aA),([]:List aC),c.2.1,c.2.2.1,c.2.2.2,f)else(fS 16 f ([c.1]:List (List UInt8))).bind fun I=>some ((3:Int),(0:Int),c.1,([]:List aA),([]:List aC),c.2.1,c.2.2.1,c.2.2.2,I)else bif decide (a.1=(5:Int))then(aU n ([([65]:List UInt8),([66]:List UInt8),([67]:List UInt8),([68]:List UInt8),([72]:List UInt8),([84]:List UInt8)]:List (List UInt8)) a.2.1 a.2.2.1 a.2.2.2).bind fun d=>(fD n f d.1).bind fun E=>bif E then some ((3:Int),(0:Int),([95]:List UInt8),([]:List aA),([]:List aC),d.2.1,d.2.2.1,d.2.2.2,f)else(fS 16 f ([d.1]:List (List UInt8))).bind fun J=>some ((3:Int),(0:Int),d.1,([]:List aA),([]:List aC),d.2.1,d.2.2.1,d.2.2.2,J)else(bN n ([(4:Int),(5:Int),(6:Int)]:List Int) a.2.1 a.2.2.1 a.2.2.2).bind fun j=>(aK n (3:Int) j.2.1 j.2.2.1 j.2.2.2).bind fun g=>bif decide (j.1=(6:Int))then(loopN (lR n l G) n ((0:Int),j.1,(0:Int),([]:List UInt8),([]:List aA),([]:List aC),g.2.1,g.2.2.1,g.2.2.2,f)).bind fun(a0,a2,K,L,M,N,Q,t,u,v,A)=>some (K,L,M,N,Q,t,u,v,A)else(loopN (lQ n l G g) n ((0:Int),j.1,(0:Int),([]:List UInt8),([]:List aA),([]:List aC),g.2.1,g.2.2.1,g.2.2.2,f)).bind fun(a1,a3,R,T,U,V,W,w,y,z,B)=>some (R,T,U,V,W,w,y,z,B)
theorem Bs{n:Nat}{g:iM}(b:pP g):pP (mR n g):=by
 intro g5 f7 f8 f9 g0 r h; unfold mR at h; refine bF Try.func95 rfl rfl<|cRs<|xAz [.int .i64 0, .int .i64 0, .str [], .sl ([].map aE), .sl ([].map aD)] rfl<|goo 5 rfl<|xC1 h (aL ·) rfl (fun f2 h=> ?_)
 refine goc 7 rfl<|cIf h rfl (fun q2 h=> ?_) (fun q2 h=> ?_)
 refine gco 3 rfl<|xC1 h (aL ·) rfl (fun f3 h=> ?_)
 refine xC0 h (cA ·) rfl (fun f4 h=> ?_)
 exact geo; refine gcc 5 rfl<|cIf h rfl (fun q5 h=> ?_) (fun q5 h=> ?_)
 refine gco 3 rfl<|cS (L:=([([111,107]:List UInt8),([97]:List UInt8),([115,116,111,112]:List UInt8)]:List (List UInt8))) (f:=eA) rfl rfl rfl rfl rfl rfl rfl<|xC1 h (bD ·) rfl (fun f5 h=> ?_)
 refine xC0 h (rA ·) rfl (fun f6 h=> ?_)
 exact geo; refine gcc 5 rfl<|cIf h rfl (fun q8 h=> ?_) (fun q8 h=> ?_)
 exact cRs<|wBd [.int .i64 3, .int .i64 0, .str [95], .sl ([].map aE), .sl ([].map aD)] rfl rfl rfl rfl rfl rfl<|geo
 refine gcc 6 rfl<|cIf h rfl (fun q9 h=> ?_) (fun q9 h=> ?_)
 refine gco 5 rfl<|cS (L:=([([65]:List UInt8),([66]:List UInt8),([67]:List UInt8),([68]:List UInt8),([72]:List UInt8),([84]:List UInt8)]:List (List UInt8))) (f:=eA) rfl rfl rfl rfl rfl rfl rfl<|xC1 h (bD ·) rfl (fun Q h=> ?_)
 refine goo 9 rfl<|xC0 h (mP ·) rfl (fun d1 h=> ?_)
 refine oNl<|cIf h rfl (fun d5 h=> ?_) (fun d5 h=> ?_)
 exact cRs<|wBd [.int .i64 3, .int .i64 0, .str [95], .sl ([].map aE), .sl ([].map aD)] rfl rfl rfl rfl rfl rfl<|geo
 refine gco 8 rfl<|cS (L:=([Q.1]:List (List UInt8))) (f:=eA) rfl rfl rfl rfl rfl rfl rfl<|wAp (f:=eA) h rfl rfl rfl rfl rfl rfl rfl rfl rfl (fun _=>rfl) rfl (fun e5 h=> ?_)
 exact goo 6 rfl<|wBd [.int .i64 3, .int .i64 0, .str Q.1, .sl ([].map aE), .sl ([].map aD)] rfl rfl rfl rfl rfl rfl<|geo
 refine gcc 5 rfl<|cIf h rfl (fun d6 h=> ?_) (fun d6 h=> ?_)
 refine gco 5 rfl<|cS (L:=([([65]:List UInt8),([66]:List UInt8),([67]:List UInt8),([68]:List UInt8),([72]:List UInt8),([84]:List UInt8)]:List (List UInt8))) (f:=eA) rfl rfl rfl rfl rfl rfl rfl<|xC1 h (bD ·) rfl (fun R h=> ?_)
 refine goo 9 rfl<|xC0 h (mP ·) rfl (fun d2 h=> ?_)
 refine oNl<|cIf h rfl (fun d7 h=> ?_) (fun d7 h=> ?_)
 exact cRs<|wBd [.int .i64 3, .int .i64 0, .str [95], .sl ([].map aE), .sl ([].map aD)] rfl rfl rfl rfl rfl rfl<|geo
 refine gco 8 rfl<|cS (L:=([R.1]:List (List UInt8))) (f:=eA) rfl rfl rfl rfl rfl rfl rfl<|wAp (f:=eA) h rfl rfl rfl rfl rfl rfl rfl rfl rfl (fun _=>rfl) rfl (fun e6 h=> ?_)
 exact goo 6 rfl<|wBd [.int .i64 3, .int .i64 0, .str R.1, .sl ([].map aE), .sl ([].map aD)] rfl rfl rfl rfl rfl rfl<|geo
 refine gcc 4 rfl<|cIf h rfl (fun d8 h=> ?_) (fun d8 h=> ?_)
 refine gco 3 rfl<|cS (L:=([([65]:List UInt8),([66]:List UInt8),([67]:List UInt8),([68]:List UInt8),([72]:List UInt8),([84]:List UInt8)]:List (List UInt8))) (f:=eA) rfl rfl rfl rfl rfl rfl rfl<|xC1 h (bD ·) rfl (fun T h=> ?_)
 refine goo 9 rfl<|xC0 h (mP ·) rfl (fun d3 h=> ?_)
 refine oNl<|cIf h rfl (fun d9 h=> ?_) (fun d9 h=> ?_)
 exact cRs<|wBd [.int .i64 3, .int .i64 0, .str [95], .sl ([].map aE), .sl ([].map aD)] rfl rfl rfl rfl rfl rfl<|geo
 refine gco 8 rfl<|cS (L:=([T.1]:List (List UInt8))) (f:=eA) rfl rfl rfl rfl rfl rfl rfl<|wAp (f:=eA) h rfl rfl rfl rfl rfl rfl rfl rfl rfl (fun _=>rfl) rfl (fun e7 h=> ?_)
 exact goo 6 rfl<|wBd [.int .i64 3, .int .i64 0, .str T.1, .sl ([].map aE), .sl ([].map aD)] rfl rfl rfl rfl rfl rfl<|geo
 refine gco 4 rfl<|cS (L:=([(4:Int),(5:Int),(6:Int)]:List Int)) (f:=pK) rfl rfl rfl rfl rfl rfl rfl<|xC1 h (cK ·) rfl (fun d0 h=> ?_)
 refine wBd [.int .i64 d0.1, .int .i64 0, .str [], .sl ([].map aE), .sl ([].map aD)] rfl rfl rfl rfl rfl rfl<|xAz [.int .i64 0, .int .i64 0, .str [], .sl ([].map aE), .sl ([].map aD)] rfl<|goo 5 rfl<|xC1 h (aL ·) rfl (fun d4 h=> ?_)
 refine goc 9 rfl<|cIf h rfl (fun e0 h=> ?_) (fun e0 h=> ?_)
 refine gcc 8 rfl<|cLp h [(10,10),(59,81)] [(8,8),(1000000,1000001)] (fun(U,a0,a1,a2,a3,a4,j,l,m,H)=>([(10,I64 U)],[(8,[.int .i64 a0, .int .i64 a1, .str a2, .sl (a3.map aE), .sl (a4.map aD)]),(1000000,[.sl (j.map rI_u8), .int .i64 l, .int .i64 m]),(1000001,[.sl (H.map eA)])])) (fun(V,Y,a5,a6,a7,a8,a9,o,p,s,I)=>(.e 1,[(10,I64 V),(61,Bo Y)],[(8,[.int .i64 a5, .int .i64 a6, .str a7, .sl (a8.map aE), .sl (a9.map aD)]),(1000000,[.sl (o.map rI_u8), .int .i64 p, .int .i64 s]),(1000001,[.sl (I.map eA)])])) rfl (fun st _ h=> ?_) (fun q h=> ?_)
 obtain⟨U,a0,a1,a2,a3,a4,j,l,m,H⟩:=st; unfold lR at h; refine gcc 7 rfl<|cIf h rfl (fun e1 h=> ?_) (fun e1 h=> ?_)
 refine gcc 2 rfl<|cJn h [(64,81)] [(8,8),(1000000,1000001)] (fun(b0,b1,b2,b3,b4,t,u,v,J)=>(.n,[],[(8,[.int .i64 b0, .int .i64 b1, .str b2, .sl (b3.map aE), .sl (b4.map aD)]),(1000000,[.sl (t.map rI_u8), .int .i64 u, .int .i64 v]),(1000001,[.sl (J.map eA)])])) (fun _ h=> ?_) (fun q h=> ?_)
 refine gcc 6 rfl<|cIf h rfl (fun e2 h=> ?_) (fun e2 h=> ?_)
 refine gco 7 rfl<|xCk h (b ·) rfl (fun c h=> ?_)
 refine cS (L:=([aA.mk c.1 c.2.1 c.2.2.1 c.2.2.2.1 c.2.2.2.2.1]:List aA)) (f:=aE) rfl rfl rfl rfl (by simp only[List.map,aO]<;>rfl) rfl rfl<|wAp (f:=aE) h rfl rfl rfl rfl rfl rfl rfl rfl rfl (fun a=>by rw[aM]; rfl) rfl (fun e8 h=> ?_)
 exact geo; refine gco 3 rfl<|wBd [.int .i64 3, .int .i64 0, .str [95], .sl ([].map aE), .sl ([].map aD)] rfl rfl rfl rfl rfl rfl<|cS (L:=([aA.mk (3:Int) (0:Int) ([95]:List UInt8) ([]:List aA) ([]:List aC)]:List aA)) (f:=aE) rfl rfl rfl rfl (by simp only[List.map,aO]<;>rfl) rfl rfl<|wAp (f:=aE) h rfl rfl rfl rfl rfl rfl rfl rfl rfl (fun a=>by rw[aM]; rfl) rfl (fun f0 h=> ?_)
 exact geo; obtain⟨b0,b1,b2,b3,b4,t,u,v,J⟩:=q; exact gec; exact gec; obtain⟨V,Y,a5,a6,a7,a8,a9,o,p,s,I⟩:=q; exact gec; refine gcc 6 rfl<|cLp h [(10,10),(59,81)] [(8,8),(1000000,1000001)] (fun(W,b5,b6,b7,b8,b9,w,y,z,K)=>([(10,I64 W)],[(8,[.int .i64 b5, .int .i64 b6, .str b7, .sl (b8.map aE), .sl (b9.map aD)]),(1000000,[.sl (w.map rI_u8), .int .i64 y, .int .i64 z]),(1000001,[.sl (K.map eA)])])) (fun(X,Z,c0,c1,c2,c3,c4,A,B,C,M)=>(.e 1,[(10,I64 X),(61,Bo Z)],[(8,[.int .i64 c0, .int .i64 c1, .str c2, .sl (c3.map aE), .sl (c4.map aD)]),(1000000,[.sl (A.map rI_u8), .int .i64 B, .int .i64 C]),(1000001,[.sl (M.map eA)])])) rfl (fun st _ h=> ?_) (fun q h=> ?_)
 obtain⟨W,b5,b6,b7,b8,b9,w,y,z,K⟩:=st; unfold lQ at h; refine gcc 7 rfl<|cIf h rfl (fun e3 h=> ?_) (fun e3 h=> ?_)
 refine gcc 2 rfl<|cJn h [(64,81)] [(8,8),(1000000,1000001)] (fun(c5,c6,c7,c8,c9,D,E,G,N)=>(.n,[],[(8,[.int .i64 c5, .int .i64 c6, .str c7, .sl (c8.map aE), .sl (c9.map aD)]),(1000000,[.sl (D.map rI_u8), .int .i64 E, .int .i64 G]),(1000001,[.sl (N.map eA)])])) (fun _ h=> ?_) (fun q h=> ?_)
 refine gcc 6 rfl<|cIf h rfl (fun e4 h=> ?_) (fun e4 h=> ?_)
 refine gco 7 rfl<|xCk h (b ·) rfl (fun d h=> ?_)
 refine cS (L:=([aA.mk d.1 d.2.1 d.2.2.1 d.2.2.2.1 d.2.2.2.2.1]:List aA)) (f:=aE) rfl rfl rfl rfl (by simp only[List.map,aO]<;>rfl) rfl rfl<|wAp (f:=aE) h rfl rfl rfl rfl rfl rfl rfl rfl rfl (fun a=>by rw[aM]; rfl) rfl (fun e9 h=> ?_)
 exact geo; refine gco 3 rfl<|wBd [.int .i64 3, .int .i64 0, .str [95], .sl ([].map aE), .sl ([].map aD)] rfl rfl rfl rfl rfl rfl<|cS (L:=([aA.mk (3:Int) (0:Int) ([95]:List UInt8) ([]:List aA) ([]:List aC)]:List aA)) (f:=aE) rfl rfl rfl rfl (by simp only[List.map,aO]<;>rfl) rfl rfl<|wAp (f:=aE) h rfl rfl rfl rfl rfl rfl rfl rfl rfl (fun a=>by rw[aM]; rfl) rfl (fun f1 h=> ?_)
 exact geo; obtain⟨c5,c6,c7,c8,c9,D,E,G,N⟩:=q; exact gec; exact gec; obtain⟨X,Z,c0,c1,c2,c3,c4,A,B,C,M⟩:=q; exact gec
def zD:Nat→(iM)
  | 0=>(fun _ _ _ _ _=>none)
  | n+1=>mR n (zD n)
def cI(n:Nat):iM:=zD n
theorem Bw(n:Nat):pP (cI n):=by
  induction n with
  | zero=>exact(fun h=>nomatch h)
  | succ n ih=>exact Bs (n:=n) ih
theorem mO{n:Nat}:pP (cI n):=(Bw n)
theorem yM(n:Nat):cI (n+1)=mR n (cI n):=rfl
abbrev jE:Type:=Int→(List Int)→Int→Int→Option (Int×Int×(List UInt8)×(List aB)×(List Int)×Int×Int)
abbrev nV(p:jE):Prop:= ∀ {f:Int} {a:List Int} {b d:Int} {r:Int×Int×(List UInt8)×(List aB)×(List Int)×Int×Int},p f a b d=some r→Big Try.prog τ An (.fn 59 [.one (.ptr 1000000 0), .one (.c (.int .i64 f))] [[.sl (a.map rI_u8), .int .i64 b, .int .i64 d]] (.one (.ag [.int .i64 r.1, .int .i64 r.2.1, .str r.2.2.1, .sl (r.2.2.2.1.map aF)])) none [[.sl (r.2.2.2.2.1.map rI_u8), .int .i64 r.2.2.2.2.2.1, .int .i64 r.2.2.2.2.2.2]] none)
def nH(n:Nat)(f:jE)(p:Int):(Int×Int×Int×(List UInt8)×(List aB)×(List Int)×Int×Int)→Option ((Int×Int×Int×(List UInt8)×(List aB)×(List Int)×Int×Int)⊕((Int×Bool×Int×Int×(List UInt8)×(List aB)×(List Int)×Int×Int)))
  | (g,j,l,m,o,b,c,d)=>(bif decide ((0:Int)<g)then some (decide ((0:Int)<p))else some false).bind fun s=>bif s then(f (IntKind.wrap .i64 (p - (1:Int))) b c d).bind fun a=>(fS 56 o ([aB.mk a.1 a.2.1 a.2.2.1 a.2.2.2.1]:List aB)).bind fun t=>some (.inl ((IntKind.wrap .i64 (g - (1:Int))),j,l,m,t,a.2.2.2.2.1,a.2.2.2.2.2.1,a.2.2.2.2.2.2))else some (.inr (g,false,j,l,m,o,b,c,d))
def lE(n:Nat)(l:jE)(G:Int)(C:List Int)(D:Int)(E:Int):Option (Int×Int×(List UInt8)×(List aB)×(List Int)×Int×Int):=
  (aK n (8:Int) C D E).bind fun a=>bif decide (a.1=(0:Int))then(aK n (1000:Int) a.2.1 a.2.2.1 a.2.2.2).bind fun m=>(bN n ([(0:Int),(1:Int),(2:Int),((-1):Int),(7:Int),(1000000000000:Int),((-1000000000000):Int),m.1]:List Int) m.2.1 m.2.2.1 m.2.2.2).bind fun s=>some ((1:Int),s.1,([]:List UInt8),([]:List aB),s.2.1,s.2.2.1,s.2.2.2)else bif decide (a.1=(1:Int))then(aK n (1000:Int) a.2.1 a.2.2.1 a.2.2.2).bind fun o=>(bN n ([(0:Int),(1:Int),(2:Int),((-1):Int),(7:Int),(1000000000000:Int),((-1000000000000):Int),o.1]:List Int) o.2.1 o.2.2.1 o.2.2.2).bind fun t=>some ((1:Int),t.1,([]:List UInt8),([]:List aB),t.2.1,t.2.2.1,t.2.2.2)else bif decide (a.1=(2:Int))then(aK n (1000:Int) a.2.1 a.2.2.1 a.2.2.2).bind fun p=>(bN n ([(0:Int),(1:Int),(2:Int),((-1):Int),(7:Int),(1000000000000:Int),((-1000000000000):Int),p.1]:List Int) p.2.1 p.2.2.1 p.2.2.2).bind fun b=>some ((1:Int),b.1,([]:List UInt8),([]:List aB),b.2.1,b.2.2.1,b.2.2.2)else bif decide (a.1=(3:Int))then(aU n ([([111,107]:List UInt8),([115,116,111,112]:List UInt8),([97]:List UInt8),([116,114,117,101]:List UInt8),([97,100,100]:List UInt8)]:List (List UInt8)) a.2.1 a.2.2.1 a.2.2.2).bind fun c=>some ((2:Int),(0:Int),c.1,([]:List aB),c.2.1,c.2.2.1,c.2.2.2)else bif decide (a.1=(4:Int))then(aU n ([([111,107]:List UInt8),([115,116,111,112]:List UInt8),([97]:List UInt8),([116,114,117,101]:List UInt8),([97,100,100]:List UInt8)]:List (List UInt8)) a.2.1 a.2.2.1 a.2.2.2).bind fun d=>some ((2:Int),(0:Int),d.1,([]:List aB),d.2.1,d.2.2.1,d.2.2.2)else bif decide (a.1=(5:Int))then(aK n (5:Int) a.2.1 a.2.2.1 a.2.2.2).bind fun f=>some ((3:Int),f.1,([]:List UInt8),([]:List aB),f.2.1,f.2.2.1,f.2.2.2)else(bN n ([(4:Int),(5:Int)]:List Int) a.2.1 a.2.2.1 a.2.2.2).bind fun g=>(aK n (4:Int) g.2.1 g.2.2.1 g.2.2.2).bind fun j=>(loopN (nH n l G) n (j.1,g.1,(0:Int),([]:List UInt8),([]:List aB),j.2.1,j.2.2.1,j.2.2.2)).bind fun(I,H,y,z,A,B,u,v,w)=>some (y,z,A,B,u,v,w)
theorem AI{n:Nat}{b:jE}(p:nV b):nV (lE n b):=by
 intro a8 a2 a3 a4 r h; unfold lE at h; refine bF Try.func59 rfl rfl<|cRs<|xAz [.int .i64 0, .int .i64 0, .str [], .sl ([].map aF)] rfl<|goo 5 rfl<|xC1 h (aL ·) rfl (fun a1 h=> ?_)
 refine goc 8 rfl<|cIf h rfl (fun q2 h=> ?_) (fun q2 h=> ?_)
 refine gco 6 rfl<|xC1 h (aL ·) rfl (fun M h=> ?_)
 refine cS (L:=([(0:Int),(1:Int),(2:Int),((-1):Int),(7:Int),(1000000000000:Int),((-1000000000000):Int),M.1]:List Int)) (f:=pK) rfl rfl rfl rfl rfl rfl rfl<|xC1 h (cK ·) rfl (fun R h=> ?_)
 exact wBd [.int .i64 1, .int .i64 R.1, .str [], .sl ([].map aF)] rfl rfl rfl rfl rfl rfl<|geo
 refine gcc 5 rfl<|cIf h rfl (fun q5 h=> ?_) (fun q5 h=> ?_)
 refine gco 6 rfl<|xC1 h (aL ·) rfl (fun N h=> ?_)
 refine cS (L:=([(0:Int),(1:Int),(2:Int),((-1):Int),(7:Int),(1000000000000:Int),((-1000000000000):Int),N.1]:List Int)) (f:=pK) rfl rfl rfl rfl rfl rfl rfl<|xC1 h (cK ·) rfl (fun T h=> ?_)
 exact wBd [.int .i64 1, .int .i64 T.1, .str [], .sl ([].map aF)] rfl rfl rfl rfl rfl rfl<|geo
 refine gcc 4 rfl<|cIf h rfl (fun q8 h=> ?_) (fun q8 h=> ?_)
 refine gco 4 rfl<|xC1 h (aL ·) rfl (fun Q h=> ?_)
 refine cS (L:=([(0:Int),(1:Int),(2:Int),((-1):Int),(7:Int),(1000000000000:Int),((-1000000000000):Int),Q.1]:List Int)) (f:=pK) rfl rfl rfl rfl rfl rfl rfl<|xC1 h (cK ·) rfl (fun G h=> ?_)
 exact wBd [.int .i64 1, .int .i64 G.1, .str [], .sl ([].map aF)] rfl rfl rfl rfl rfl rfl<|geo
 refine gcc 6 rfl<|cIf h rfl (fun V h=> ?_) (fun V h=> ?_)
 refine gco 5 rfl<|cS (L:=([([111,107]:List UInt8),([115,116,111,112]:List UInt8),([97]:List UInt8),([116,114,117,101]:List UInt8),([97,100,100]:List UInt8)]:List (List UInt8))) (f:=eA) rfl rfl rfl rfl rfl rfl rfl<|xC1 h (bD ·) rfl (fun H h=> ?_)
 exact wBd [.int .i64 2, .int .i64 0, .str H.1, .sl ([].map aF)] rfl rfl rfl rfl rfl rfl<|geo
 refine gcc 4 rfl<|cIf h rfl (fun W h=> ?_) (fun W h=> ?_)
 refine gco 3 rfl<|cS (L:=([([111,107]:List UInt8),([115,116,111,112]:List UInt8),([97]:List UInt8),([116,114,117,101]:List UInt8),([97,100,100]:List UInt8)]:List (List UInt8))) (f:=eA) rfl rfl rfl rfl rfl rfl rfl<|xC1 h (bD ·) rfl (fun I h=> ?_)
 exact wBd [.int .i64 2, .int .i64 0, .str I.1, .sl ([].map aF)] rfl rfl rfl rfl rfl rfl<|geo
 refine gcc 5 rfl<|cIf h rfl (fun X h=> ?_) (fun X h=> ?_)
 refine gco 3 rfl<|xC1 h (aL ·) rfl (fun J h=> ?_)
 exact wBd [.int .i64 3, .int .i64 J.1, .str [], .sl ([].map aF)] rfl rfl rfl rfl rfl rfl<|geo
 refine gco 4 rfl<|cS (L:=([(4:Int),(5:Int)]:List Int)) (f:=pK) rfl rfl rfl rfl rfl rfl rfl<|xC1 h (cK ·) rfl (fun K h=> ?_)
 refine wBd [.int .i64 K.1, .int .i64 0, .str [], .sl ([].map aF)] rfl rfl rfl rfl rfl rfl<|xAz [.int .i64 0, .int .i64 0, .str [], .sl ([].map aF)] rfl<|goo 6 rfl<|xC1 h (aL ·) rfl (fun U h=> ?_)
 refine goc 2 rfl<|cLp h [(6,6),(37,53)] [(5,5),(1000000,1000000)] (fun(u,w,y,z,A,c,d,g)=>([(6,I64 u)],[(5,[.int .i64 w, .int .i64 y, .str z, .sl (A.map aF)]),(1000000,[.sl (c.map rI_u8), .int .i64 d, .int .i64 g])])) (fun(v,s,B,C,D,E,j,l,m)=>(.e 1,[(6,I64 v),(42,Bo s)],[(5,[.int .i64 B, .int .i64 C, .str D, .sl (E.map aF)]),(1000000,[.sl (j.map rI_u8), .int .i64 l, .int .i64 m])])) rfl (fun st _ h=> ?_) (fun q h=> ?_)
 obtain⟨u,w,y,z,A,c,d,g⟩:=st; unfold nH at h; refine gco 3 rfl<|oJn h [(37,42)] [] (fun t=>(.n,[(42,Bo t)],[])) (fun _ h=> ?_) (fun t h=> ?_)
 refine goo 3 rfl<|oIf 39 h rfl (fun Y h=> ?_) (fun Y h=> ?_)
 exact geo; exact geo; refine cIf h rfl (fun Z h=> ?_) (fun Z h=> ?_)
 refine gco 9 rfl<|xC1 h (p ·) rfl (fun o h=> ?_)
 refine cS (L:=([aB.mk o.1 o.2.1 o.2.2.1 o.2.2.2.1]:List aB)) (f:=aF) rfl rfl rfl rfl (by simp only[List.map,bZ]<;>rfl) rfl rfl<|wAp (f:=aF) h rfl rfl rfl rfl rfl rfl rfl rfl rfl (fun a=>by rw[aJ]; rfl) rfl (fun a0 h=> ?_)
 exact geo; exact gec; obtain⟨v,s,B,C,D,E,j,l,m⟩:=q; exact gec
def wH:Nat→(jE)
  | 0=>(fun _ _ _ _=>none)
  | n+1=>lE n (wH n)
def fM(n:Nat):jE:=wH n
theorem AP(n:Nat):nV (fM n):=by
  induction n with
  | zero=>exact(fun h=>nomatch h)
  | succ n ih=>exact AI (n:=n) ih
theorem oL{n:Nat}:nV (fM n):=(AP n)
theorem xF(n:Nat):fM (n+1)=lE n (fM n):=rfl
abbrev gE:Type:=Int→Int→(List UInt8)→(List aA)→(List aC)→(List Int)→Int→Int→Option (Int×Int×(List UInt8)×(List aB)×(List Int)×Int×Int)
abbrev pO(p:gE):Prop:= ∀ {d f:Int} {g:List UInt8} {j:List aA} {l:List aC} {a:List Int} {b c:Int} {r:Int×Int×(List UInt8)×(List aB)×(List Int)×Int×Int},p d f g j l a b c=some r→Big Try.prog τ An (.fn 96 [.one (.ptr 1000000 0), .one (.ag [.int .i64 d, .int .i64 f, .str g, .sl (j.map aE), .sl (l.map aD)])] [[.sl (a.map rI_u8), .int .i64 b, .int .i64 c]] (.one (.ag [.int .i64 r.1, .int .i64 r.2.1, .str r.2.2.1, .sl (r.2.2.2.1.map aF)])) none [[.sl (r.2.2.2.2.1.map rI_u8), .int .i64 r.2.2.2.2.2.1, .int .i64 r.2.2.2.2.2.2]] none)
def lP(n:Nat)(m:gE)(C:Int)(s:List aA):(Int×Int×Int×(List UInt8)×(List aB)×Int×Int×(List UInt8)×(List aB)×(List Int)×Int×Int)→Option ((Int×Int×Int×(List UInt8)×(List aB)×Int×Int×(List UInt8)×(List aB)×(List Int)×Int×Int)⊕((Int×Int×(List UInt8)×(List aB)×(List Int)×Int×Int)⊕(Int×Bool×Int×Int×(List UInt8)×(List aB)×Int×Int×(List UInt8)×(List aB)×(List Int)×Int×Int)))
  | (o,y,z,A,B,p,g,j,l,c,d,f)=>bif decide (o<(s.length:Int))then(ix s o).bind fun b=>(m b.f0 b.f1 b.f2 b.f3 b.f4 c d f).bind fun a=>(bif decide (C=(6:Int))then some (decide (o=(IntKind.wrap .i64 ((s.length:Int) - (1:Int)))))else some false).bind fun t=>bif t then bif !decide (a.1=(5:Int))then(fS 56 l ([]:List aB)).bind fun u=>some (.inr (.inl (p,g,j,u,a.2.2.2.2.1,a.2.2.2.2.2.1,a.2.2.2.2.2.2)))else(fS 56 l a.2.2.2.1).bind fun v=>some (.inr (.inl (p,g,j,v,a.2.2.2.2.1,a.2.2.2.2.2.1,a.2.2.2.2.2.2)))else(fS 56 l ([aB.mk a.1 a.2.1 a.2.2.1 a.2.2.2.1]:List aB)).bind fun w=>some (.inl ((IntKind.wrap .i64 (o+(1:Int))),y,z,A,B,p,g,j,w,a.2.2.2.2.1,a.2.2.2.2.2.1,a.2.2.2.2.2.2))else some (.inr (.inr (o,false,y,z,A,B,p,g,j,l,c,d,f)))
def lO(n:Nat)(p:gE)(C:Int)(s:List aA):(Int×Int×Int×(List UInt8)×(List aB)×Int×Int×(List UInt8)×(List aB)×(List Int)×Int×Int)→Option ((Int×Int×Int×(List UInt8)×(List aB)×Int×Int×(List UInt8)×(List aB)×(List Int)×Int×Int)⊕((Int×Int×(List UInt8)×(List aB)×(List Int)×Int×Int)⊕(Int×Bool×Int×Int×(List UInt8)×(List aB)×Int×Int×(List UInt8)×(List aB)×(List Int)×Int×Int)))
  | (g,t,u,v,w,j,l,m,o,c,d,f)=>bif decide (g<(s.length:Int))then(ix s g).bind fun b=>(p b.f0 b.f1 b.f2 b.f3 b.f4 c d f).bind fun a=>(bif decide (C=(6:Int))then some (decide (g=(IntKind.wrap .i64 ((s.length:Int) - (1:Int)))))else some false).bind fun y=>bif y then bif !decide (a.1=(5:Int))then(fS 56 o ([]:List aB)).bind fun z=>some (.inr (.inl (j,l,m,z,a.2.2.2.2.1,a.2.2.2.2.2.1,a.2.2.2.2.2.2)))else(fS 56 o a.2.2.2.1).bind fun A=>some (.inr (.inl (j,l,m,A,a.2.2.2.2.1,a.2.2.2.2.2.1,a.2.2.2.2.2.2)))else(fS 56 o ([aB.mk a.1 a.2.1 a.2.2.1 a.2.2.2.1]:List aB)).bind fun B=>some (.inl ((IntKind.wrap .i64 (g+(1:Int))),t,u,v,w,j,l,m,B,a.2.2.2.2.1,a.2.2.2.2.2.1,a.2.2.2.2.2.2))else some (.inr (.inr (g,false,t,u,v,w,j,l,m,o,c,d,f)))
def lN(n:Nat)(p:gE)(s:List aA):(Int×Int×Int×(List UInt8)×(List aB)×Int×Int×(List UInt8)×(List aB)×(List Int)×Int×Int)→Option ((Int×Int×Int×(List UInt8)×(List aB)×Int×Int×(List UInt8)×(List aB)×(List Int)×Int×Int)⊕((Int×Int×(List UInt8)×(List aB)×(List Int)×Int×Int)⊕(Int×Bool×Int×Int×(List UInt8)×(List aB)×Int×Int×(List UInt8)×(List aB)×(List Int)×Int×Int)))
  | (g,t,u,v,w,j,l,m,o,f,c,d)=>bif decide (g<(s.length:Int))then(ix s g).bind fun b=>(p b.f0 b.f1 b.f2 b.f3 b.f4 f c d).bind fun a=>bif decide (g=(IntKind.wrap .i64 ((s.length:Int) - (1:Int))))then bif !decide (a.1=(5:Int))then(fS 56 o ([]:List aB)).bind fun y=>some (.inr (.inl (j,l,m,y,a.2.2.2.2.1,a.2.2.2.2.2.1,a.2.2.2.2.2.2)))else(fS 56 o a.2.2.2.1).bind fun z=>some (.inr (.inl (j,l,m,z,a.2.2.2.2.1,a.2.2.2.2.2.1,a.2.2.2.2.2.2)))else(fS 56 o ([aB.mk a.1 a.2.1 a.2.2.1 a.2.2.2.1]:List aB)).bind fun A=>some (.inl ((IntKind.wrap .i64 (g+(1:Int))),t,u,v,w,j,l,m,A,a.2.2.2.2.1,a.2.2.2.2.2.1,a.2.2.2.2.2.2))else some (.inr (.inr (g,false,t,u,v,w,j,l,m,o,f,c,d)))
def mQ(n:Nat)(b:gE)(c:Int)(a9:Int)(b0:List UInt8)(H:List aA)(c9:List aC)(d:List Int)(f:Int)(g:Int):Option (Int×Int×(List UInt8)×(List aB)×(List Int)×Int×Int):=
  bif decide (c=(1:Int))then some ((1:Int),a9,([]:List UInt8),([]:List aB),d,f,g)else bif decide (c=(2:Int))then some ((2:Int),(0:Int),b0,([]:List aB),d,f,g)else bif decide (c=(4:Int))then(loopN (lP n b c H) n ((0:Int),(0:Int),(0:Int),([]:List UInt8),([]:List aB),(4:Int),(0:Int),([]:List UInt8),([]:List aB),d,f,g)).bind fun q=>(match q with | .inl (T,U,V,W,t,u,v)=>some (T,U,V,W,t,u,v) | .inr (b9,b2,c1,c2,c3,c4,a1,a2,a3,a4,w,y,z)=>some (a1,a2,a3,a4,w,y,z))else bif decide (c=(5:Int))then(loopN (lO n b c H) n ((0:Int),(0:Int),(0:Int),([]:List UInt8),([]:List aB),(5:Int),(0:Int),([]:List UInt8),([]:List aB),d,f,g)).bind fun q=>(match q with | .inl (X,Y,Z,a0,A,B,C)=>some (X,Y,Z,a0,A,B,C) | .inr (c0,b3,c5,c6,c7,c8,a5,a6,a7,a8,D,E,G)=>some (a5,a6,a7,a8,D,E,G))else bif decide (c=(6:Int))then(loopN (lN n b H) n ((0:Int),(0:Int),(0:Int),([]:List UInt8),([]:List aB),(5:Int),(0:Int),([]:List UInt8),([]:List aB),d,f,g)).bind fun q=>(match q with | .inl (I,J,K,L,j,l,m)=>some (I,J,K,L,j,l,m) | .inr (b4,b1,b5,b6,b7,b8,M,N,Q,R,o,p,s)=>some (M,N,Q,R,o,p,s))else(fM n (1:Int) d f g).bind fun a=>some (a.1,a.2.1,a.2.2.1,a.2.2.2.1,a.2.2.2.2.1,a.2.2.2.2.2.1,a.2.2.2.2.2.2)
theorem Br{n:Nat}{c:gE}(b:pO c):pO (mQ n c):=by
 intro k0 h1 h2 k1 k2 j5 j6 j7 r h; unfold mQ at h; refine bF Try.func96 rfl rfl<|gco 3 rfl<|xAz [.int .i64 0, .int .i64 0, .str [], .sl ([].map aF)] rfl<|goc 13 rfl<|cIf h rfl (fun q1 h=> ?_) (fun q1 h=> ?_)
 exact gco 4 rfl<|wBd [.int .i64 1, .int .i64 h1, .str [], .sl ([].map aF)] rfl rfl rfl rfl rfl rfl<|geo
 refine gcc 5 rfl<|cIf h rfl (fun q2 h=> ?_) (fun q2 h=> ?_)
 exact gco 4 rfl<|wBd [.int .i64 2, .int .i64 0, .str h2, .sl ([].map aF)] rfl rfl rfl rfl rfl rfl<|geo
 refine gcc 6 rfl<|cIf h rfl (fun q3 h=> ?_) (fun q3 h=> ?_)
 refine gco 4 rfl<|wBd [.int .i64 5, .int .i64 0, .str [], .sl ([].map aF)] rfl rfl rfl rfl rfl rfl<|xAz [.int .i64 0, .int .i64 0, .str [], .sl ([].map aF)] rfl<|goc 9 rfl<|cSu 27 q3 rfl<|gcc 10 rfl<|cLp h [(4,4),(6,7),(29,70)] [(4,5),(7,7),(1000000,1000000)] (fun(g0,g1,g2,g3,g4,g5,e1,e2,e3,u,v,w)=>([(4,Pt 4),(6,I64 g0)],[(4,[.int .i64 g1, .int .i64 g2, .str g3, .sl (g4.map aF)]),(5,[.int .i64 g5, .int .i64 e1, .str e2, .sl (e3.map aF)]),(1000000,[.sl (u.map rI_u8), .int .i64 v, .int .i64 w])])) (fun q=>match q with | .inl (b7,b8,b9,c0,y,z,A)=>(.r,[(4,Pt 4)],[(4,[.int .i64 b7, .int .i64 b8, .str b9, .sl (c0.map aF)]),(1000000,[.sl (y.map rI_u8), .int .i64 z, .int .i64 A])]) | .inr (b3,W,c1,c2,c3,c4,e4,e5,e6,e7,B,C,D)=>(.e 1,[(4,Pt 4),(6,I64 b3),(33,Bo W)],[(4,[.int .i64 c1, .int .i64 c2, .str c3, .sl (c4.map aF)]),(5,[.int .i64 e4, .int .i64 e5, .str e6, .sl (e7.map aF)]),(1000000,[.sl (B.map rI_u8), .int .i64 C, .int .i64 D])])) rfl (fun st _ h=> ?_) (fun q h=> ?_)
 obtain⟨g0,g1,g2,g3,g4,g5,e1,e2,e3,u,v,w⟩:=st; unfold lP at h; refine gco 6 rfl<|xLn rfl<|goc 2 rfl<|cIf h rfl (fun i0 h=> ?_) (fun i0 h=> ?_)
 refine gco 9 rfl<|xIx h aM rfl (fun h8 h=> ?_)
 refine xLd rfl<|xC1 h (b ·) rfl (fun T h=> ?_)
 refine xAz [.int .i64 0, .int .i64 0, .str [], .sl ([].map aF)] rfl<|goo 5 rfl<|oJn h [(43,53)] [] (fun Y=>(.n,[(53,Bo Y)],[])) (fun _ h=> ?_) (fun Y h=> ?_)
 refine goo 4 rfl<|oIf 46 h rfl (fun i1 h=> ?_) (fun i1 h=> ?_)
 exact goo 3 rfl<|xLn rfl<|geo
 exact geo; refine cIf h rfl (fun i2 h=> ?_) (fun i2 h=> ?_)
 refine gcc 7 rfl<|cIf h rfl (fun i3 h=> ?_) (fun i3 h=> ?_)
 refine cRg<|wBd [.int .i64 5, .int .i64 0, .str [], .sl ([].map aF)] rfl rfl rfl rfl rfl rfl<|goo 8 rfl<|wAp (f:=aF) h rfl rfl rfl rfl rfl rfl rfl rfl rfl (fun a=>by rw[aJ]; rfl) rfl (fun i9 h=> ?_)
 exact geo; refine gco 7 rfl<|wAp (f:=aF) h rfl rfl rfl rfl rfl rfl rfl rfl rfl (fun a=>by rw[aJ]; rfl) rfl (fun j0 h=> ?_)
 exact geo; refine gco 5 rfl<|cS (L:=([aB.mk T.1 T.2.1 T.2.2.1 T.2.2.2.1]:List aB)) (f:=aF) rfl rfl rfl rfl (by simp only[List.map,bZ]<;>rfl) rfl rfl<|wAp (f:=aF) h rfl rfl rfl rfl rfl rfl rfl rfl rfl (fun a=>by rw[aJ]; rfl) rfl (fun j3 h=> ?_)
 exact geo; exact gec; rcases q with⟨b7,b8,b9,c0,y,z,A⟩ | ⟨b3,W,c1,c2,c3,c4,e4,e5,e6,e7,B,C,D⟩; exact en; exact gec; refine gcc 5 rfl<|cIf h rfl (fun i4 h=> ?_) (fun i4 h=> ?_)
 refine gco 4 rfl<|wBd [.int .i64 5, .int .i64 0, .str [], .sl ([].map aF)] rfl rfl rfl rfl rfl rfl<|xAz [.int .i64 0, .int .i64 0, .str [], .sl ([].map aF)] rfl<|goc 9 rfl<|cSu 27 q3 rfl<|gcc 7 rfl<|cLp h [(4,4),(6,7),(29,70)] [(4,5),(7,7),(1000000,1000000)] (fun(b4,c5,c6,c7,c8,e8,e9,f0,f1,E,G,H)=>([(4,Pt 4),(6,I64 b4)],[(4,[.int .i64 c5, .int .i64 c6, .str c7, .sl (c8.map aF)]),(5,[.int .i64 e8, .int .i64 e9, .str f0, .sl (f1.map aF)]),(1000000,[.sl (E.map rI_u8), .int .i64 G, .int .i64 H])])) (fun q=>match q with | .inl (c9,d0,d1,d2,I,J,K)=>(.r,[(4,Pt 4)],[(4,[.int .i64 c9, .int .i64 d0, .str d1, .sl (d2.map aF)]),(1000000,[.sl (I.map rI_u8), .int .i64 J, .int .i64 K])]) | .inr (b5,X,d3,d4,d5,d6,f2,f3,f4,f5,M,N,Q)=>(.e 1,[(4,Pt 4),(6,I64 b5),(33,Bo X)],[(4,[.int .i64 d3, .int .i64 d4, .str d5, .sl (d6.map aF)]),(5,[.int .i64 f2, .int .i64 f3, .str f4, .sl (f5.map aF)]),(1000000,[.sl (M.map rI_u8), .int .i64 N, .int .i64 Q])])) rfl (fun st _ h=> ?_) (fun q h=> ?_)
 obtain⟨b4,c5,c6,c7,c8,e8,e9,f0,f1,E,G,H⟩:=st; unfold lO at h; refine gco 6 rfl<|xLn rfl<|goc 2 rfl<|cIf h rfl (fun i5 h=> ?_) (fun i5 h=> ?_)
 refine gco 9 rfl<|xIx h aM rfl (fun h9 h=> ?_)
 refine xLd rfl<|xC1 h (b ·) rfl (fun U h=> ?_)
 refine xAz [.int .i64 0, .int .i64 0, .str [], .sl ([].map aF)] rfl<|goo 5 rfl<|oJn h [(43,53)] [] (fun Z=>(.n,[(53,Bo Z)],[])) (fun _ h=> ?_) (fun Z h=> ?_)
 refine goo 4 rfl<|oIf 46 h rfl (fun i6 h=> ?_) (fun i6 h=> ?_)
 exact goo 3 rfl<|xLn rfl<|geo
 exact geo; refine cIf h rfl (fun i7 h=> ?_) (fun i7 h=> ?_)
 refine gcc 7 rfl<|cIf h rfl (fun i8 h=> ?_) (fun i8 h=> ?_)
 refine cRg<|wBd [.int .i64 5, .int .i64 0, .str [], .sl ([].map aF)] rfl rfl rfl rfl rfl rfl<|goo 8 rfl<|wAp (f:=aF) h rfl rfl rfl rfl rfl rfl rfl rfl rfl (fun a=>by rw[aJ]; rfl) rfl (fun j1 h=> ?_)
 exact geo; refine gco 7 rfl<|wAp (f:=aF) h rfl rfl rfl rfl rfl rfl rfl rfl rfl (fun a=>by rw[aJ]; rfl) rfl (fun j2 h=> ?_)
 exact geo; refine gco 5 rfl<|cS (L:=([aB.mk U.1 U.2.1 U.2.2.1 U.2.2.2.1]:List aB)) (f:=aF) rfl rfl rfl rfl (by simp only[List.map,bZ]<;>rfl) rfl rfl<|wAp (f:=aF) h rfl rfl rfl rfl rfl rfl rfl rfl rfl (fun a=>by rw[aJ]; rfl) rfl (fun j4 h=> ?_)
 exact geo; exact gec; rcases q with⟨c9,d0,d1,d2,I,J,K⟩ | ⟨b5,X,d3,d4,d5,d6,f2,f3,f4,f5,M,N,Q⟩; exact en; exact gec; refine gcc 4 rfl<|cIf h rfl (fun g7 h=> ?_) (fun g7 h=> ?_)
 refine cRs<|wBd [.int .i64 5, .int .i64 0, .str [], .sl ([].map aF)] rfl rfl rfl rfl rfl rfl<|xAz [.int .i64 0, .int .i64 0, .str [], .sl ([].map aF)] rfl<|goc 9 rfl<|cSu 27 q3 rfl<|gcc 7 rfl<|cLp h [(4,4),(6,7),(29,70)] [(4,5),(7,7),(1000000,1000000)] (fun(b6,d7,d8,d9,e0,f6,f7,f8,f9,R,d,g)=>([(4,Pt 4),(6,I64 b6)],[(4,[.int .i64 d7, .int .i64 d8, .str d9, .sl (e0.map aF)]),(5,[.int .i64 f6, .int .i64 f7, .str f8, .sl (f9.map aF)]),(1000000,[.sl (R.map rI_u8), .int .i64 d, .int .i64 g])])) (fun q=>match q with | .inl (a1,a2,a3,a4,j,l,m)=>(.r,[(4,Pt 4)],[(4,[.int .i64 a1, .int .i64 a2, .str a3, .sl (a4.map aF)]),(1000000,[.sl (j.map rI_u8), .int .i64 l, .int .i64 m])]) | .inr (a0,V,a5,a6,a7,a8,a9,b0,b1,b2,o,p,s)=>(.e 1,[(4,Pt 4),(6,I64 a0),(33,Bo V)],[(4,[.int .i64 a5, .int .i64 a6, .str a7, .sl (a8.map aF)]),(5,[.int .i64 a9, .int .i64 b0, .str b1, .sl (b2.map aF)]),(1000000,[.sl (o.map rI_u8), .int .i64 p, .int .i64 s])])) rfl (fun st _ h=> ?_) (fun q h=> ?_)
 obtain⟨b6,d7,d8,d9,e0,f6,f7,f8,f9,R,d,g⟩:=st; unfold lN at h; refine gco 6 rfl<|xLn rfl<|goc 2 rfl<|cIf h rfl (fun g8 h=> ?_) (fun g8 h=> ?_)
 refine gco 9 rfl<|xIx h aM rfl (fun h4 h=> ?_)
 refine xLd rfl<|xC1 h (b ·) rfl (fun t h=> ?_)
 refine xAz [.int .i64 0, .int .i64 0, .str [], .sl ([].map aF)] rfl<|goo 9 rfl<|oSu 46 g7 rfl<|goo 3 rfl<|xLn rfl<|goc 4 rfl<|cIf h rfl (fun g9 h=> ?_) (fun g9 h=> ?_)
 refine gcc 7 rfl<|cIf h rfl (fun h0 h=> ?_) (fun h0 h=> ?_)
 refine cRg<|wBd [.int .i64 5, .int .i64 0, .str [], .sl ([].map aF)] rfl rfl rfl rfl rfl rfl<|goo 8 rfl<|wAp (f:=aF) h rfl rfl rfl rfl rfl rfl rfl rfl rfl (fun a=>by rw[aJ]; rfl) rfl (fun h5 h=> ?_)
 exact geo; refine gco 7 rfl<|wAp (f:=aF) h rfl rfl rfl rfl rfl rfl rfl rfl rfl (fun a=>by rw[aJ]; rfl) rfl (fun h6 h=> ?_)
 exact geo; refine gco 5 rfl<|cS (L:=([aB.mk t.1 t.2.1 t.2.2.1 t.2.2.2.1]:List aB)) (f:=aF) rfl rfl rfl rfl (by simp only[List.map,bZ]<;>rfl) rfl rfl<|wAp (f:=aF) h rfl rfl rfl rfl rfl rfl rfl rfl rfl (fun a=>by rw[aJ]; rfl) rfl (fun h7 h=> ?_)
 exact geo; exact gec; rcases q with⟨a1,a2,a3,a4,j,l,m⟩ | ⟨a0,V,a5,a6,a7,a8,a9,b0,b1,b2,o,p,s⟩; exact en; exact gec; refine gco 4 rfl<|xC1 h (oL ·) rfl (fun h3 h=> ?_)
 exact geo
def zC:Nat→(gE)
  | 0=>(fun _ _ _ _ _ _ _ _=>none)
  | n+1=>mQ n (zC n)
def cP(n:Nat):gE:=zC n
theorem Bv(n:Nat):pO (cP n):=by
  induction n with
  | zero=>exact(fun h=>nomatch h)
  | succ n ih=>exact Br (n:=n) ih
theorem Ck{n:Nat}:pO (cP n):=(Bv n)
theorem yL(n:Nat):cP (n+1)=mQ n (cP n):=rfl
abbrev FD(p:Int→(List Int)→Int→Int→Option (Bool×(List Int)×Int×Int)):Prop:= ∀ {f:Int} {a:List Int} {b d:Int} {r:Bool×(List Int)×Int×Int},p f a b d=some r→Big Try.prog τ An (.fn 60 [.one (.ptr 1000000 0), .one (.c (.int .i64 f))] [[.sl (a.map rI_u8), .int .i64 b, .int .i64 d]] (.one (.c (.bool r.1))) none [[.sl (r.2.1.map rI_u8), .int .i64 r.2.2.1, .int .i64 r.2.2.2]] none)
def dY(n:Nat)(f:Int)(b:List Int)(c:Int)(d:Int):Option (Bool×(List Int)×Int×Int):=
  (aK n f b c d).bind fun a=>some ((decide (a.1=(0:Int))),a.2.1,a.2.2.1,a.2.2.2)
theorem iT{n:Nat}:FD (dY n):=by
 intro f b c d r h; unfold dY at h; refine bF Try.func60 rfl rfl<|gco 8 rfl<|xC1 h (aL ·) rfl (fun a h=> ?_)
 exact geo
abbrev FC(p:Int→Int→(List UInt8)→(List aB)→(List Int)→Int→Int→Option (Int×Int×(List UInt8)×(List aB)×(List Int)×Int×Int)):Prop:= ∀ {d f:Int} {g:List UInt8} {j:List aB} {a:List Int} {b c:Int} {r:Int×Int×(List UInt8)×(List aB)×(List Int)×Int×Int},p d f g j a b c=some r→Big Try.prog τ An (.fn 132 [.one (.ptr 1000000 0), .one (.ag [.int .i64 d, .int .i64 f, .str g, .sl (j.map aF)])] [[.sl (a.map rI_u8), .int .i64 b, .int .i64 c]] (.one (.ag [.int .i64 r.1, .int .i64 r.2.1, .str r.2.2.1, .sl (r.2.2.2.1.map aF)])) none [[.sl (r.2.2.2.2.1.map rI_u8), .int .i64 r.2.2.2.2.2.1, .int .i64 r.2.2.2.2.2.2]] none)
def nI(n:Nat):(Int×Int×Int×(List UInt8)×(List aB))→Option ((Int×Int×Int×(List UInt8)×(List aB))⊕((Int×Bool×Int×Int×(List UInt8)×(List aB))))
  | (a,b,c,d,f)=>bif decide (a<(8:Int))then some (.inl ((IntKind.wrap .i64 (a+(1:Int))),(4:Int),(0:Int),([]:List UInt8),([aB.mk b c d f]:List aB)))else some (.inr (a,false,b,c,d,f))
def lJ(n:Nat)(u:Int)(v:Int)(w:List UInt8)(y:List aB)(p:List Int)(s:Int)(t:Int):Option (Int×Int×(List UInt8)×(List aB)×(List Int)×Int×Int):=
  (dI n u v w y).bind fun b=>(aK n (6:Int) p s t).bind fun a=>bif decide (a.1=(0:Int))then(aK n (7:Int) a.2.1 a.2.2.1 a.2.2.2).bind fun c=>some (c.1,b.2.1,b.2.2.1,b.2.2.2,c.2.1,c.2.2.1,c.2.2.2)else bif decide (a.1=(1:Int))then(bN n ([((-1):Int),(1000000000001:Int),(1000001:Int),(3:Int)]:List Int) a.2.1 a.2.2.1 a.2.2.2).bind fun d=>some (b.1,d.1,b.2.2.1,b.2.2.2,d.2.1,d.2.2.1,d.2.2.2)else bif decide (a.1=(2:Int))then(aU n ([([]:List UInt8),([65]:List UInt8),([120]:List UInt8),([116,119,101,110,116,121,111,110,101,98,121,116,101,115,116,119,101,110,116,121,111]:List UInt8)]:List (List UInt8)) a.2.1 a.2.2.1 a.2.2.2).bind fun f=>some (b.1,b.2.1,f.1,b.2.2.2,f.2.1,f.2.2.1,f.2.2.2)else bif decide (a.1=(3:Int))then(fS 56 b.2.2.2 ([aB.mk (1:Int) (4:Int) ([]:List UInt8) ([]:List aB)]:List aB)).bind fun g=>some (b.1,b.2.1,b.2.2.1,g,a.2.1,a.2.2.1,a.2.2.2)else bif decide (a.1=(4:Int))then(loopN (nI n) n ((0:Int),b.1,b.2.1,b.2.2.1,b.2.2.2)).bind fun(A,z,j,l,m,o)=>some (j,l,m,o,a.2.1,a.2.2.1,a.2.2.2)else some (b.1,b.2.1,b.2.2.1,b.2.2.2,a.2.1,a.2.2.1,a.2.2.2)
theorem Bz{n:Nat}:FC (lJ n):=by
 intro M N Q R D E G r h; unfold lJ at h; refine bF Try.func132 rfl rfl<|gco 3 rfl<|xAz [.int .i64 0, .int .i64 0, .str [], .sl ([].map aF)] rfl<|goo 4 rfl<|xC0 h (oM ·) rfl (fun B h=> ?_)
 refine goo 6 rfl<|xC1 h (aL ·) rfl (fun C h=> ?_)
 refine goc 7 rfl<|cIf h rfl (fun H h=> ?_) (fun H h=> ?_)
 refine gco 2 rfl<|xC1 h (aL ·) rfl (fun y h=> ?_)
 exact geo; refine gcc 5 rfl<|cIf h rfl (fun I h=> ?_) (fun I h=> ?_)
 refine gco 2 rfl<|cS (L:=([((-1):Int),(1000000000001:Int),(1000001:Int),(3:Int)]:List Int)) (f:=pK) rfl rfl rfl rfl rfl rfl rfl<|xC1 h (cK ·) rfl (fun z h=> ?_)
 exact geo; refine gcc 5 rfl<|cIf h rfl (fun J h=> ?_) (fun J h=> ?_)
 refine gco 2 rfl<|cS (L:=([([]:List UInt8),([65]:List UInt8),([120]:List UInt8),([116,119,101,110,116,121,111,110,101,98,121,116,101,115,116,119,101,110,116,121,111]:List UInt8)]:List (List UInt8))) (f:=eA) rfl rfl rfl rfl rfl rfl rfl<|xC1 h (bD ·) rfl (fun A h=> ?_)
 exact geo; refine gcc 5 rfl<|cIf h rfl (fun K h=> ?_) (fun K h=> ?_)
 refine gco 3 rfl<|wBd [.int .i64 1, .int .i64 4, .str [], .sl ([].map aF)] rfl rfl rfl rfl rfl rfl<|cS (L:=([aB.mk (1:Int) (4:Int) ([]:List UInt8) ([]:List aB)]:List aB)) (f:=aF) rfl rfl rfl rfl (by simp only[List.map,bZ]<;>rfl) rfl rfl<|wAp (f:=aF) h rfl rfl rfl rfl rfl rfl rfl rfl rfl (fun a=>by rw[aJ]; rfl) rfl (fun w h=> ?_)
 exact geo; refine gcc 5 rfl<|cIf h rfl (fun u h=> ?_) (fun u h=> ?_)
 refine gcc 4 rfl<|cLp h [(5,5),(37,43)] [(3,3)] (fun(l,b,c,d,g)=>([(5,I64 l)],[(3,[.int .i64 b, .int .i64 c, .str d, .sl (g.map aF)])])) (fun(m,j,o,p,s,t)=>(.e 1,[(5,I64 m),(38,Bo j)],[(3,[.int .i64 o, .int .i64 p, .str s, .sl (t.map aF)])])) rfl (fun st _ h=> ?_) (fun q h=> ?_)
 obtain⟨l,b,c,d,g⟩:=st; unfold nI at h; refine gcc 6 rfl<|cIf h rfl (fun v h=> ?_) (fun v h=> ?_)
 exact gco 5 rfl<|cS (L:=([aB.mk b c d g]:List aB)) (f:=aF) rfl rfl rfl rfl (by simp only[List.map,bZ]<;>rfl) rfl rfl<|wBd [.int .i64 4, .int .i64 0, .str [], .sl ([aB.mk b c d g].map aF)] rfl rfl rfl rfl rfl rfl<|geo
 exact gec; obtain⟨m,j,o,p,s,t⟩:=q; exact gec; exact gec
abbrev Gl(p:(List Int)→Int→Int→Option (Int×Int×(List UInt8)×(List aB)×(List Int)×Int×Int)):Prop:= ∀ {a:List Int} {b c:Int} {r:Int×Int×(List UInt8)×(List aB)×(List Int)×Int×Int},p a b c=some r→Big Try.prog τ An (.fn 97 [.one (.ptr 1000000 0)] [[.sl (a.map rI_u8), .int .i64 b, .int .i64 c]] (.one (.ag [.int .i64 r.1, .int .i64 r.2.1, .str r.2.2.1, .sl (r.2.2.2.1.map aF)])) none [[.sl (r.2.2.2.2.1.map rI_u8), .int .i64 r.2.2.2.2.2.1, .int .i64 r.2.2.2.2.2.2]] none)
def mV(n:Nat)(d:List Int)(f:Int)(g:Int):Option (Int×Int×(List UInt8)×(List aB)×(List Int)×Int×Int):=
  (fM n (3:Int) d f g).bind fun a=>(dY n (5:Int) a.2.2.2.2.1 a.2.2.2.2.2.1 a.2.2.2.2.2.2).bind fun c=>bif c.1 then(lJ n a.1 a.2.1 a.2.2.1 a.2.2.2.1 c.2.1 c.2.2.1 c.2.2.2).bind fun b=>some (b.1,b.2.1,b.2.2.1,b.2.2.2.1,b.2.2.2.2.1,b.2.2.2.2.2.1,b.2.2.2.2.2.2)else some (a.1,a.2.1,a.2.2.1,a.2.2.2.1,c.2.1,c.2.2.1,c.2.2.2)
theorem Cm{n:Nat}:Gl (mV n):=by
 intro d f g r h; unfold mV at h; refine bF Try.func97 rfl rfl<|cRs<|xAz [.int .i64 0, .int .i64 0, .str [], .sl ([].map aF)] rfl<|goo 4 rfl<|xC1 h (oL ·) rfl (fun b h=> ?_)
 refine xAz [.int .i64 0, .int .i64 0, .str [], .sl ([].map aF)] rfl<|goo 6 rfl<|xC1 h (iT ·) rfl (fun c h=> ?_)
 refine oNl<|cIf h rfl (fun j h=> ?_) (fun j h=> ?_)
 refine gco 3 rfl<|xC1 h (Bz ·) rfl (fun a h=> ?_)
 exact geo; exact gec
abbrev gK:Type:=Int→Int→(List UInt8)→(List aA)→(List aC)→Option (Int×Int×(List UInt8)×(List aA)×(List aC))
abbrev nT(p:gK):Prop:= ∀ {a b:Int} {c:List UInt8} {d:List aA} {f:List aC} {r:Int×Int×(List UInt8)×(List aA)×(List aC)},p a b c d f=some r→Big Try.prog τ An (.fn 109 [.one (.ag [.int .i64 a, .int .i64 b, .str c, .sl (d.map aE), .sl (f.map aD)])] [] (.one (.ag [.int .i64 r.1, .int .i64 r.2.1, .str r.2.2.1, .sl (r.2.2.2.1.map aE), .sl (r.2.2.2.2.map aD)])) none [] none)
def gX(n:Nat)(c:gK)(f:List aA):(Int×Int×Int×(List UInt8)×(List aA)×(List aC))→Option ((Int×Int×Int×(List UInt8)×(List aA)×(List aC))⊕((Int×Bool×Int×Int×(List UInt8)×(List aA)×(List aC))))
  | (d,j,l,m,o,p)=>bif decide (d<(f.length:Int))then(ix f d).bind fun b=>(c b.f0 b.f1 b.f2 b.f3 b.f4).bind fun a=>(fS 80 o ([aA.mk a.1 a.2.1 a.2.2.1 a.2.2.2.1 a.2.2.2.2]:List aA)).bind fun g=>some (.inl ((IntKind.wrap .i64 (d+(1:Int))),j,l,m,g,p))else some (.inr (d,false,j,l,m,o,p))
def gW(n:Nat)(a:gK)(j:List aC):(Int×Int×Int×(List UInt8)×(List aA)×(List aC))→Option ((Int×Int×Int×(List UInt8)×(List aA)×(List aC))⊕((Int×Bool×Int×Int×(List UInt8)×(List aA)×(List aC))))
  | (g,l,m,o,p,s)=>bif decide (g<(j.length:Int))then(ix j g).bind fun d=>(a d.f0 d.f1 d.f2 d.f3 d.f4).bind fun b=>(ix j g).bind fun f=>(a f.f5 f.f6 f.f7 f.f8 f.f9).bind fun c=>(fS 160 s ([aC.mk b.1 b.2.1 b.2.2.1 b.2.2.2.1 b.2.2.2.2 c.1 c.2.1 c.2.2.1 c.2.2.2.1 c.2.2.2.2]:List aC)).bind fun t=>some (.inl ((IntKind.wrap .i64 (g+(1:Int))),l,m,o,p,t))else some (.inr (g,false,l,m,o,p,s))
def lC(n:Nat)(a:gK)(p:Int)(s:Int)(t:List UInt8)(u:List aA)(v:List aC):Option (Int×Int×(List UInt8)×(List aA)×(List aC)):=
  (loopN (gX n a u) n ((0:Int),p,s,t,([]:List aA),([]:List aC))).bind fun(B,z,w,b,c,d,f)=>(loopN (gW n a v) n ((0:Int),w,b,c,d,f)).bind fun(A,y,g,j,l,m,o)=>some (g,j,l,m,o)
theorem AG{n:Nat}{g:gK}(d:nT g):nT (lC n g):=by
 intro a1 a2 a3 a4 a5 r h; unfold lC at h; refine bF Try.func109 rfl rfl<|gco 3 rfl<|xAz [.int .i64 0, .int .i64 0, .str [], .sl ([].map aE), .sl ([].map aD)] rfl<|goo 4 rfl<|xAz [.int .i64 0, .int .i64 0, .str [], .sl ([].map aE), .sl ([].map aD)] rfl<|goo 4 rfl<|cS (L:=([]:List aA)) (f:=aE) rfl rfl rfl rfl rfl rfl rfl<|goo 5 rfl<|cS (L:=([]:List aC)) (f:=aD) rfl rfl rfl rfl rfl rfl rfl<|goc 8 rfl<|cLp h [(4,4),(11,28)] [(3,3)] (fun(I,K,M,N,Q,R)=>([(4,I64 I)],[(3,[.int .i64 K, .int .i64 M, .str N, .sl (Q.map aE), .sl (R.map aD)])])) (fun(J,m,T,s,t,u,v)=>(.e 0,[(4,I64 J),(15,Bo m)],[(3,[.int .i64 T, .int .i64 s, .str t, .sl (u.map aE), .sl (v.map aD)])])) rfl (fun st _ h=> ?_) (fun q h=> ?_)
 obtain⟨I,K,M,N,Q,R⟩:=st; unfold gX at h; refine gco 6 rfl<|xLn rfl<|goc 2 rfl<|cIf h rfl (fun X h=> ?_) (fun X h=> ?_)
 refine gco 9 rfl<|xIx h aM rfl (fun U h=> ?_)
 refine xLd rfl<|xC0 h (d ·) rfl (fun j h=> ?_)
 refine cS (L:=([aA.mk j.1 j.2.1 j.2.2.1 j.2.2.2.1 j.2.2.2.2]:List aA)) (f:=aE) rfl rfl rfl rfl (by simp only[List.map,aO]<;>rfl) rfl rfl<|wAp (f:=aE) h rfl rfl rfl rfl rfl rfl rfl rfl rfl (fun a=>by rw[aM]; rfl) rfl (fun Z h=> ?_)
 exact geo; exact gec; obtain⟨J,m,T,s,t,u,v⟩:=q; refine gcc 5 rfl<|cLp h [(5,5),(29,55)] [(3,3)] (fun(o,w,y,z,A,B)=>([(5,I64 o)],[(3,[.int .i64 w, .int .i64 y, .str z, .sl (A.map aE), .sl (B.map aD)])])) (fun(p,l,C,D,E,G,H)=>(.e 2,[(5,I64 p),(33,Bo l)],[(3,[.int .i64 C, .int .i64 D, .str E, .sl (G.map aE), .sl (H.map aD)])])) rfl (fun st _ h=> ?_) (fun q h=> ?_)
 obtain⟨o,w,y,z,A,B⟩:=st; unfold gW at h; refine gco 6 rfl<|xLn rfl<|goc 2 rfl<|cIf h rfl (fun Y h=> ?_) (fun Y h=> ?_)
 refine gco 9 rfl<|xIx h aV rfl (fun V h=> ?_)
 refine goo 2 rfl<|xC0 h (d ·) rfl (fun b h=> ?_)
 refine goo 3 rfl<|xIx h aV rfl (fun W h=> ?_)
 refine goo 2 rfl<|xC0 h (d ·) rfl (fun c h=> ?_)
 refine wBd [.int .i64 b.1, .int .i64 b.2.1, .str b.2.2.1, .sl (b.2.2.2.1.map aE), .sl (b.2.2.2.2.map aD), .int .i64 c.1, .int .i64 c.2.1, .str c.2.2.1, .sl (c.2.2.2.1.map aE), .sl (c.2.2.2.2.map aD)] rfl rfl rfl rfl rfl rfl<|cS (L:=([aC.mk b.1 b.2.1 b.2.2.1 b.2.2.2.1 b.2.2.2.2 c.1 c.2.1 c.2.2.1 c.2.2.2.1 c.2.2.2.2]:List aC)) (f:=aD) rfl rfl rfl rfl (by simp only[List.map,dE]<;>rfl) rfl rfl<|wAp (f:=aD) h rfl rfl rfl rfl rfl rfl rfl rfl rfl (fun a=>by rw[aV]; rfl) rfl (fun a0 h=> ?_)
 exact geo; exact gec; obtain⟨p,l,C,D,E,G,H⟩:=q; exact gec
def wF:Nat→(gK)
  | 0=>(fun _ _ _ _ _=>none)
  | n+1=>lC n (wF n)
def cC(n:Nat):gK:=wF n
theorem AN(n:Nat):nT (cC n):=by
  induction n with
  | zero=>exact(fun h=>nomatch h)
  | succ n ih=>exact AG (n:=n) ih
theorem oK{n:Nat}:nT (cC n):=(AN n)
theorem xD(n:Nat):cC (n+1)=lC n (cC n):=rfl
abbrev Ez(p:Int→Int→(List UInt8)→(List aA)→(List aC)→(List Int)→Int→Int→Option (Int×Int×(List UInt8)×(List aA)×(List aC)×(List Int)×Int×Int)):Prop:= ∀ {d f:Int} {g:List UInt8} {j:List aA} {l:List aC} {a:List Int} {b c:Int} {r:Int×Int×(List UInt8)×(List aA)×(List aC)×(List Int)×Int×Int},p d f g j l a b c=some r→Big Try.prog τ An (.fn 133 [.one (.ptr 1000000 0), .one (.ag [.int .i64 d, .int .i64 f, .str g, .sl (j.map aE), .sl (l.map aD)])] [[.sl (a.map rI_u8), .int .i64 b, .int .i64 c]] (.one (.ag [.int .i64 r.1, .int .i64 r.2.1, .str r.2.2.1, .sl (r.2.2.2.1.map aE), .sl (r.2.2.2.2.1.map aD)])) none [[.sl (r.2.2.2.2.2.1.map rI_u8), .int .i64 r.2.2.2.2.2.2.1, .int .i64 r.2.2.2.2.2.2.2]] none)
def nG(n:Nat):(Int×Int×Int×(List UInt8)×(List aA)×(List aC))→Option ((Int×Int×Int×(List UInt8)×(List aA)×(List aC))⊕((Int×Bool×Int×Int×(List UInt8)×(List aA)×(List aC))))
  | (a,b,c,d,f,g)=>bif decide (a<(9:Int))then some (.inl ((IntKind.wrap .i64 (a+(1:Int))),(4:Int),(0:Int),([]:List UInt8),([aA.mk b c d f g]:List aA),([]:List aC)))else some (.inr (a,false,b,c,d,f,g))
def iY(n:Nat)(C:Int)(D:Int)(E:List UInt8)(G:List aA)(H:List aC)(z:List Int)(A:Int)(B:Int):Option (Int×Int×(List UInt8)×(List aA)×(List aC)×(List Int)×Int×Int):=
  (cC n C D E G H).bind fun a=>(aK n (8:Int) z A B).bind fun b=>bif decide (b.1=(0:Int))then(aK n (11:Int) b.2.1 b.2.2.1 b.2.2.2).bind fun j=>some (j.1,a.2.1,a.2.2.1,a.2.2.2.1,a.2.2.2.2,j.2.1,j.2.2.1,j.2.2.2)else bif decide (b.1=(1:Int))then(bN n ([((-1):Int),(1000000000001:Int),(3:Int)]:List Int) b.2.1 b.2.2.1 b.2.2.2).bind fun l=>some (a.1,l.1,a.2.2.1,a.2.2.2.1,a.2.2.2.2,l.2.1,l.2.2.1,l.2.2.2)else bif decide (b.1=(2:Int))then(aU n ([([]:List UInt8),([65]:List UInt8),([120]:List UInt8),([99,97,115,101]:List UInt8),([95]:List UInt8),([61,61]:List UInt8)]:List (List UInt8)) b.2.1 b.2.2.1 b.2.2.2).bind fun m=>some (a.1,a.2.1,m.1,a.2.2.2.1,a.2.2.2.2,m.2.1,m.2.2.1,m.2.2.2)else bif decide (b.1=(3:Int))then(bM n (4:Int)).bind fun c=>(fS 80 a.2.2.2.1 ([aA.mk c.1 c.2.1 c.2.2.1 c.2.2.2.1 c.2.2.2.2]:List aA)).bind fun o=>some (a.1,a.2.1,a.2.2.1,o,a.2.2.2.2,b.2.1,b.2.2.1,b.2.2.2)else bif decide (b.1=(4:Int))then(cC n a.1 a.2.1 a.2.2.1 a.2.2.2.1 a.2.2.2.2).bind fun d=>(bM n (1:Int)).bind fun f=>(fS 160 a.2.2.2.2 ([aC.mk f.1 f.2.1 f.2.2.1 f.2.2.2.1 f.2.2.2.2 d.1 d.2.1 d.2.2.1 d.2.2.2.1 d.2.2.2.2]:List aC)).bind fun p=>some (a.1,a.2.1,a.2.2.1,a.2.2.2.1,p,b.2.1,b.2.2.1,b.2.2.2)else bif decide (b.1=(5:Int))then(loopN (nG n) n ((0:Int),a.1,a.2.1,a.2.2.1,a.2.2.2.1,a.2.2.2.2)).bind fun(J,I,t,u,v,w,y)=>some (t,u,v,w,y,b.2.1,b.2.2.1,b.2.2.2)else bif decide (b.1=(6:Int))then bif decide ((0:Int)<(a.2.2.2.2.length:Int))then(ix a.2.2.2.2 (0:Int)).bind fun g=>(some (a.2.2.2.2.set (Int.toNat (0:Int)) (aC.mk (4:Int) (0:Int) ([]:List UInt8) ([aA.mk (3:Int) (0:Int) ([65]:List UInt8) ([]:List aA) ([]:List aC),aA.mk (3:Int) (0:Int) ([65]:List UInt8) ([]:List aA) ([]:List aC)]:List aA) ([]:List aC) g.f5 g.f6 g.f7 g.f8 g.f9))).bind fun s=>some (a.1,a.2.1,a.2.2.1,a.2.2.2.1,s,b.2.1,b.2.2.1,b.2.2.2)else some (a.1,a.2.1,a.2.2.1,a.2.2.2.1,a.2.2.2.2,b.2.1,b.2.2.1,b.2.2.2)else some (a.1,a.2.1,a.2.2.1,a.2.2.2.1,a.2.2.2.2,b.2.1,b.2.2.1,b.2.2.2)
theorem sU{n:Nat}:Ez (iY n):=by
 intro a0 a1 a2 a3 a4 T U V r h; unfold iY at h; refine bF Try.func133 rfl rfl<|gco 3 rfl<|xAz [.int .i64 0, .int .i64 0, .str [], .sl ([].map aE), .sl ([].map aD)] rfl<|goo 4 rfl<|xC0 h (oK ·) rfl (fun R h=> ?_)
 refine goo 6 rfl<|xC1 h (aL ·) rfl (fun J h=> ?_)
 refine goc 7 rfl<|cIf h rfl (fun W h=> ?_) (fun W h=> ?_)
 refine gco 2 rfl<|xC1 h (aL ·) rfl (fun K h=> ?_)
 exact geo; refine gcc 5 rfl<|cIf h rfl (fun X h=> ?_) (fun X h=> ?_)
 refine gco 2 rfl<|cS (L:=([((-1):Int),(1000000000001:Int),(3:Int)]:List Int)) (f:=pK) rfl rfl rfl rfl rfl rfl rfl<|xC1 h (cK ·) rfl (fun M h=> ?_)
 exact geo; refine gcc 5 rfl<|cIf h rfl (fun Y h=> ?_) (fun Y h=> ?_)
 refine gco 2 rfl<|cS (L:=([([]:List UInt8),([65]:List UInt8),([120]:List UInt8),([99,97,115,101]:List UInt8),([95]:List UInt8),([61,61]:List UInt8)]:List (List UInt8))) (f:=eA) rfl rfl rfl rfl rfl rfl rfl<|xC1 h (bD ·) rfl (fun N h=> ?_)
 exact geo; refine gcc 5 rfl<|cIf h rfl (fun Z h=> ?_) (fun Z h=> ?_)
 refine gco 3 rfl<|xC0 h (cA ·) rfl (fun d h=> ?_)
 refine cS (L:=([aA.mk d.1 d.2.1 d.2.2.1 d.2.2.2.1 d.2.2.2.2]:List aA)) (f:=aE) rfl rfl rfl rfl (by simp only[List.map,aO]<;>rfl) rfl rfl<|wAp (f:=aE) h rfl rfl rfl rfl rfl rfl rfl rfl rfl (fun a=>by rw[aM]; rfl) rfl (fun H h=> ?_)
 exact geo; refine gcc 5 rfl<|cIf h rfl (fun B h=> ?_) (fun B h=> ?_)
 refine gco 3 rfl<|xC0 h (oK ·) rfl (fun b h=> ?_)
 refine xAz [.int .i64 0, .int .i64 0, .str [], .sl ([].map aE), .sl ([].map aD)] rfl<|goo 5 rfl<|xC0 h (cA ·) rfl (fun c h=> ?_)
 refine xLd rfl<|wBd [.int .i64 c.1, .int .i64 c.2.1, .str c.2.2.1, .sl (c.2.2.2.1.map aE), .sl (c.2.2.2.2.map aD), .int .i64 b.1, .int .i64 b.2.1, .str b.2.2.1, .sl (b.2.2.2.1.map aE), .sl (b.2.2.2.2.map aD)] rfl rfl rfl rfl rfl rfl<|cS (L:=([aC.mk c.1 c.2.1 c.2.2.1 c.2.2.2.1 c.2.2.2.2 b.1 b.2.1 b.2.2.1 b.2.2.2.1 b.2.2.2.2]:List aC)) (f:=aD) rfl rfl rfl rfl (by simp only[List.map,dE]<;>rfl) rfl rfl<|wAp (f:=aD) h rfl rfl rfl rfl rfl rfl rfl rfl rfl (fun a=>by rw[aV]; rfl) rfl (fun I h=> ?_)
 exact geo; refine gcc 5 rfl<|cIf h rfl (fun C h=> ?_) (fun C h=> ?_)
 refine gcc 4 rfl<|cLp h [(6,7),(51,58)] [(3,3),(7,7)] (fun(t,j,l,m,o,p)=>([(6,I64 t)],[(3,[.int .i64 j, .int .i64 l, .str m, .sl (o.map aE), .sl (p.map aD)])])) (fun(u,s,v,w,y,z,A)=>(.e 1,[(6,I64 u),(52,Bo s)],[(3,[.int .i64 v, .int .i64 w, .str y, .sl (z.map aE), .sl (A.map aD)])])) rfl (fun st _ h=> ?_) (fun q h=> ?_)
 obtain⟨t,j,l,m,o,p⟩:=st; unfold nG at h; refine gcc 6 rfl<|cIf h rfl (fun D h=> ?_) (fun D h=> ?_)
 exact gco 6 rfl<|xAz [.int .i64 0, .int .i64 0, .str [], .sl ([].map aE), .sl ([].map aD)] rfl<|goo 4 rfl<|cS (L:=([aA.mk j l m o p]:List aA)) (f:=aE) rfl rfl rfl rfl (by simp only[List.map,aO]<;>rfl) rfl rfl<|wBd [.int .i64 4, .int .i64 0, .str [], .sl ([aA.mk j l m o p].map aE), .sl ([].map aD)] rfl rfl rfl rfl rfl rfl<|geo
 exact gec; obtain⟨u,s,v,w,y,z,A⟩:=q; exact gec; refine gcc 5 rfl<|cIf h rfl (fun E h=> ?_) (fun E h=> ?_)
 refine gco 4 rfl<|xLn rfl<|goc 2 rfl<|cIf h rfl (fun G h=> ?_) (fun G h=> ?_)
 refine gco 2 rfl<|wLa rfl rfl rfl rfl rfl rfl rfl<|wBd [.int .i64 3, .int .i64 0, .str [65], .sl ([].map aE), .sl ([].map aD)] rfl rfl rfl rfl rfl rfl<|wBd [.int .i64 3, .int .i64 0, .str [65], .sl ([].map aE), .sl ([].map aD)] rfl rfl rfl rfl rfl rfl<|cS (L:=([aA.mk (3:Int) (0:Int) ([65]:List UInt8) ([]:List aA) ([]:List aC),aA.mk (3:Int) (0:Int) ([65]:List UInt8) ([]:List aA) ([]:List aC)]:List aA)) (f:=aE) rfl rfl rfl rfl (by simp only[List.map,aO]<;>rfl) rfl rfl<|wBd [.int .i64 4, .int .i64 0, .str [], .sl ([aA.mk (3:Int) (0:Int) ([65]:List UInt8) ([]:List aA) ([]:List aC),aA.mk (3:Int) (0:Int) ([65]:List UInt8) ([]:List aA) ([]:List aC)].map aE), .sl ([].map aD)] rfl rfl rfl rfl rfl rfl<|wIp (f:=aD) h rfl rfl rfl rfl rfl rfl (fun a=>by rw[aV]; rfl) rfl (fun g ke71_33 h=> ?_)
 refine xFd rfl<|wSpN (f:=aD) (v':=aC.mk (4:Int) (0:Int) ([]:List UInt8) ([aA.mk (3:Int) (0:Int) ([65]:List UInt8) ([]:List aA) ([]:List aC),aA.mk (3:Int) (0:Int) ([65]:List UInt8) ([]:List aA) ([]:List aC)]:List aA) ([]:List aC) g.f5 g.f6 g.f7 g.f8 g.f9) h ke71_33 rfl rfl rfl rfl rfl rfl rfl (by rw[aV]; rfl) (by rw[aV,dE]; rfl) (fun Q h=> ?_)
 exact geo; exact gec; exact gec
abbrev FG(p:Int→Int→(List UInt8)→(List aA)→(List aC)→Option (Bool)):Prop:= ∀ {a b:Int} {d:List UInt8} {f:List aA} {g:List aC} {r:Bool},p a b d f g=some r→Big Try.prog τ An (.fn 159 [.one (.ag [.int .i64 a, .int .i64 b, .str d, .sl (f.map aE), .sl (g.map aD)])] [] (.one (.c (.bool r))) none [] none)
def nO(n:Nat)(b:Int)(c:Int)(d:List UInt8)(f:List aA)(g:List aC):Option (Bool):=
  (bO n b c d f g false (10:Int) (300:Int)).bind fun a=>some (decide ((0:Int)≤a))
theorem CB{n:Nat}:FG (nO n):=by
 intro b c d f g r h; unfold nO at h; refine bF Try.func159 rfl rfl<|gco 8 rfl<|xC0 h (sT ·) rfl (fun a h=> ?_)
 exact geo
abbrev cD:Type:=Int→(List (List UInt8))→(List Int)→Int→Int→Option (Int×Int×(List UInt8)×(List aA)×(List aC)×(List Int)×Int×Int)
abbrev nS(p:cD):Prop:= ∀ {f:Int} {g:List (List UInt8)} {a:List Int} {b d:Int} {r:Int×Int×(List UInt8)×(List aA)×(List aC)×(List Int)×Int×Int},p f g a b d=some r→Big Try.prog τ An (.fn 166 [.one (.ptr 1000000 0), .one (.c (.int .i64 f)), .one (.c (.sl (g.map eA)))] [[.sl (a.map rI_u8), .int .i64 b, .int .i64 d]] (.one (.ag [.int .i64 r.1, .int .i64 r.2.1, .str r.2.2.1, .sl (r.2.2.2.1.map aE), .sl (r.2.2.2.2.1.map aD)])) none [[.sl (r.2.2.2.2.2.1.map rI_u8), .int .i64 r.2.2.2.2.2.2.1, .int .i64 r.2.2.2.2.2.2.2]] none)
end Go.Own
