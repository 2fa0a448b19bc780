/- A part of the proof. No conditions. -/
import Derived.Test.YtgeomhdbckjkcaaW24A
set_option linter.unusedVariables false
set_option linter.unusedSimpArgs false
set_option linter.unnecessarySimpa false
namespace Go.Own
open Go Go.Proofs
def rI_u8(a:Int):List T:=[.int .u8 a]
theorem AZ(a:Int):rI_u8 a=[.int .u8 a]:=rfl
def aW(a:Int):List T:=[.int .i64 a]
theorem nB(a:Int):aW a=[.int .i64 a]:=rfl
def eG(a:List UInt8):List T:=[.str a]
theorem oA(a:List UInt8):eG a=[.str a]:=rfl
inductive aB where
  | mk (f0:Int) (f1:Int) (f2:List UInt8) (f3:List aB)
def aB.f0:aB→Int
  | .mk a _ _ _=>a
def aB.f1:aB→Int
  | .mk _ a _ _=>a
def aB.f2:aB→List UInt8
  | .mk _ _ a _=>a
def aB.f3:aB→List aB
  | .mk _ _ _ a=>a
mutual
def aH:aB→List T
  | .mk a0 a1 a2 a3=> [.int .i64 a0, .int .i64 a1, .str a2, .sl (nL a3)]
def nL:List aB→List (List T)
  | []=> []
  | x::r=>aH x::nL r
end
theorem nW: ∀l:List aB,nL l=l.map aH
  | []=>by simp [nL]
  | x::r=>by simp [nL,nW r]
theorem aP(a:aB):aH a=[.int .i64 a.f0, .int .i64 a.f1, .str a.f2, .sl (a.f3.map aH)]:=by
  cases a
  simp [aH,nW,aB.f0,aB.f1,aB.f2,aB.f3]
theorem eU(a0:Int)(a1:Int)(a2:List UInt8)(a3:List aB):aH (.mk a0 a1 a2 a3)=[.int .i64 a0, .int .i64 a1, .str a2, .sl (a3.map aH)]:=by simp [aH,nW]
structure aF where
  f0:Int
  f1:Int
  f2:List UInt8
  f3:Int
  deriving DecidableEq
def aL(a:aF):List T:=[.int .i64 a.f0, .int .i64 a.f1, .str a.f2, .int .i64 a.f3]
theorem gD(a:aF):aL a=[.int .i64 a.f0, .int .i64 a.f1, .str a.f2, .int .i64 a.f3]:=rfl
structure aG where
  f0:List UInt8
  f1:Int
  f2:Int
  f3:List aF
  deriving DecidableEq
def aK(a:aG):List T:=[.str a.f0, .int .i64 a.f1, .int .i64 a.f2, .sl (a.f3.map aL)]
theorem dX(a:aG):aK a=[.str a.f0, .int .i64 a.f1, .int .i64 a.f2, .sl (a.f3.map aL)]:=rfl
mutual
inductive aA where
  | mk (f0:Int) (f1:Int) (f2:List UInt8) (f3:List aA) (f4:List aC)
inductive aC where
  | two (p x:aA)
end
def aC.p:aC→aA
  | .two a _=>a
def aC.x:aC→aA
  | .two _ a=>a
def aA.f0:aA→Int
  | .mk a _ _ _ _=>a
def aA.f1:aA→Int
  | .mk _ a _ _ _=>a
def aA.f2:aA→List UInt8
  | .mk _ _ a _ _=>a
def aA.f3:aA→List aA
  | .mk _ _ _ a _=>a
def aA.f4:aA→List aC
  | .mk _ _ _ _ a=>a
def aC.f0(c:aC):Int:=aA.f0 (aC.p c)
def aC.f1(c:aC):Int:=aA.f1 (aC.p c)
def aC.f2(c:aC):List UInt8:=aA.f2 (aC.p c)
def aC.f3(c:aC):List aA:=aA.f3 (aC.p c)
def aC.f4(c:aC):List aC:=aA.f4 (aC.p c)
def aC.f5(c:aC):Int:=aA.f0 (aC.x c)
def aC.f6(c:aC):Int:=aA.f1 (aC.x c)
def aC.f7(c:aC):List UInt8:=aA.f2 (aC.x c)
def aC.f8(c:aC):List aA:=aA.f3 (aC.x c)
def aC.f9(c:aC):List aC:=aA.f4 (aC.x c)
def aC.mk(a0:Int)(a1:Int)(a2:List UInt8)(a3:List aA)(a4:List aC)(a5:Int)(a6:Int)(a7:List UInt8)(a8:List aA)(a9:List aC):aC:= .two (.mk a0 a1 a2 a3 a4) (.mk a5 a6 a7 a8 a9)
mutual
def aE:aA→List T
  | .mk a0 a1 a2 a3 a4=> [.int .i64 a0, .int .i64 a1, .str a2, .sl (lV a3), .sl (jF a4)]
def lV:List aA→List (List T)
  | []=> []
  | x::r=>aE x::lV r
def aD:aC→List T
  | .two p x=>aE p++aE x
def jF:List aC→List (List T)
  | []=> []
  | x::r=>aD x::jF r
end
theorem rH: ∀l:List aA,lV l=l.map aE
  | []=>by simp [lV]
  | x::r=>by simp [lV,rH r]
theorem pG: ∀l:List aC,jF l=l.map aD
  | []=>by simp [jF]
  | x::r=>by simp [jF,pG r]
theorem aU(a0:Int)(a1:Int)(a2:List UInt8)(a3:List aA)(a4:List aC):aE (.mk a0 a1 a2 a3 a4)=[.int .i64 a0, .int .i64 a1, .str a2, .sl (a3.map aE), .sl (a4.map aD)]:=by simp only[aE,rH,pG]
theorem aX(a:aA):aE a=[.int .i64 a.f0, .int .i64 a.f1, .str a.f2, .sl (a.f3.map aE), .sl (a.f4.map aD)]:=by
  cases a
  exact aU _ _ _ _ _
theorem cB(a:aC):aD a=[.int .i64 a.f0, .int .i64 a.f1, .str a.f2, .sl (a.f3.map aE), .sl (a.f4.map aD), .int .i64 a.f5, .int .i64 a.f6, .str a.f7, .sl (a.f8.map aE), .sl (a.f9.map aD)]:=by
  cases a with
  | two p x=>
    simp only[aD]
    rw[aX p,aX x]; rfl
theorem jS(a0:Int)(a1:Int)(a2:List UInt8)(a3:List aA)(a4:List aC)(a5:Int)(a6:Int)(a7:List UInt8)(a8:List aA)(a9:List aC):aD (.mk a0 a1 a2 a3 a4 a5 a6 a7 a8 a9)=[.int .i64 a0, .int .i64 a1, .str a2, .sl (a3.map aE), .sl (a4.map aD), .int .i64 a5, .int .i64 a6, .str a7, .sl (a8.map aE), .sl (a9.map aD)]:=cB _
structure aY where
  f0:List UInt8
  f1:List (List UInt8)
  f2:Int
  f3:Int
  f4:List UInt8
  f5:List aA
  f6:List aC
def dN(a:aY):List T:=[.str a.f0, .sl (a.f1.map eG), .int .i64 a.f2, .int .i64 a.f3, .str a.f4, .sl (a.f5.map aE), .sl (a.f6.map aD)]
theorem Dh(a:aY):dN a=[.str a.f0, .sl (a.f1.map eG), .int .i64 a.f2, .int .i64 a.f3, .str a.f4, .sl (a.f5.map aE), .sl (a.f6.map aD)]:=rfl

abbrev Kq(p:(List Int)→Option (Bool)):Prop:= ∀ {a:List Int} {r:Bool},p a=some r→Big Try.prog τ An (.fn 45 [.one (.c (.sl (a.map rI_u8)))] [] (.one (.c (.bool r))) none [] none)
def uB(n:Nat)(a:List Int):Option (Bool):=
  some (decide ((1048576:Int)<(a.length:Int)))
theorem He{n:Nat}:Kq (uB n):=by
 intro a r h
 unfold uB at h
 exact bF Try.func45 rfl rfl<|gco 7 rfl<|xLn rfl<|geo
abbrev fV:Type:=Int→Int→(List UInt8)→(List aB)→Option (Int×Int×(List UInt8)×(List aB))
abbrev lC(p:fV):Prop:= ∀ {a b:Int} {c:List UInt8} {d:List aB} {r:Int×Int×(List UInt8)×(List aB)},p a b c d=some r→Big Try.prog τ An (.fn 161 [.one (.ag [.int .i64 a, .int .i64 b, .str c, .sl (d.map aH)])] [] (.one (.ag [.int .i64 r.1, .int .i64 r.2.1, .str r.2.2.1, .sl (r.2.2.2.map aH)])) none [] none)
def dU(n:Nat)(a:fV)(f:List aB):(Int×Int×Int×(List UInt8)×(List aB))→Option ((Int×Int×Int×(List UInt8)×(List aB))⊕((Int×Bool×Int×Int×(List UInt8)×(List aB))))
  | (d,j,l,m,o)=>bif decide (d<(f.length:Int))then(ix f d).bind fun c=>(a c.f0 c.f1 c.f2 c.f3).bind fun b=>(fQ 56 o ([aB.mk b.1 b.2.1 b.2.2.1 b.2.2.2]:List aB)).bind fun g=>some (.inl ((IntKind.wrap .i64 (d+(1:Int))),j,l,m,g))else some (.inr (d,false,j,l,m,o))
def iE(n:Nat)(a:fV)(d:Int)(f:Int)(g:List UInt8)(j:List aB):Option (Int×Int×(List UInt8)×(List aB)):=
  (loopN (dU n a j) n ((0:Int),d,f,g,([]:List aB))).bind fun(p,o,l,m,b,c)=>some (l,m,b,c)
theorem wI{n:Nat}{b:fV}(c:lC b):lC (iE n b):=by
 intro B C D E r h
 unfold iE at h
 refine bF Try.func161 rfl rfl<|gco 3 rfl<|xAz [.int .i64 0, .int .i64 0, .str [], .sl ([].map aH)] rfl<|goo 4 rfl<|xAz [.int .i64 0, .int .i64 0, .str [], .sl ([].map aH)] rfl<|goo 4 rfl<|dM (L:=([]:List aB)) (f:=aH) rfl rfl rfl rfl rfl rfl rfl<|goc 8 rfl<|cLp h [(4,4),(8,25)] [(3,3)] (fun(m,p,s,t,u)=>([(4,I64 m)],[(3,[.int .i64 p, .int .i64 s, .str t, .sl (u.map aH)])])) (fun(o,g,v,w,j,l)=>(.e 0,[(4,I64 o),(12,Bo g)],[(3,[.int .i64 v, .int .i64 w, .str j, .sl (l.map aH)])])) rfl (fun st _ h=> ?_) (fun q h=> ?_)
 obtain⟨m,p,s,t,u⟩:=st
 unfold dU at h
 refine gco 6 rfl<|xLn rfl<|goc 2 rfl<|cIf h rfl (fun z h=> ?_) (fun z h=> ?_)
 refine gco 9 rfl<|xIx h aP rfl (fun y h=> ?_)
 refine xLd rfl<|xC0 h (c ·) rfl (fun d h=> ?_)
 refine dM (L:=([aB.mk d.1 d.2.1 d.2.2.1 d.2.2.2]:List aB)) (f:=aH) rfl rfl rfl rfl (by simp only[List.map,eU]<;>rfl) rfl rfl<|wAp (f:=aH) h rfl rfl rfl rfl rfl rfl rfl rfl rfl (fun a=>by rw[aP]; rfl) rfl (fun A h=> ?_)
 exact geo
 exact gec
 obtain⟨o,g,v,w,j,l⟩:=q
 exact gec
def sC:Nat→(fV)
  | 0=>(fun _ _ _ _=>none)
  | n+1=>iE n (sC n)
def dL(n:Nat):fV:=sC n
theorem wK(n:Nat):lC (dL n):=by
  induction n with
  | zero=>exact(fun h=>nomatch h)
  | succ n ih=>exact wI (n:=n) ih
theorem yM{n:Nat}:lC (dL n):=(wK n)
theorem uK(n:Nat):dL (n+1)=iE n (dL n):=rfl
abbrev Fm(p:(List aG)→(List aB)→Option ((List aG)×(List aB))):Prop:= ∀ {a:List aG} {b:List aB} {r:(List aG)×(List aB)},p a b=some r→Big Try.prog τ An (.fn 81 [.one (.ag [.sl (a.map aK), .sl (b.map aH)])] [] (.one (.ag [.sl (r.1.map aK), .sl (r.2.map aH)])) none [] none)
def fT(n:Nat)(c:List aG):(Int×(List aG)×(List aB))→Option ((Int×(List aG)×(List aB))⊕((Int×Bool×(List aG)×(List aB))))
  | (b,g,j)=>bif decide (b<(c.length:Int))then(ix c b).bind fun a=>(fQ 40 ([]:List aF) a.f3).bind fun d=>(fQ 56 g ([aG.mk a.f0 a.f1 a.f2 d]:List aG)).bind fun f=>some (.inl ((IntKind.wrap .i64 (b+(1:Int))),f,j))else some (.inr (b,false,g,j))
def fS(n:Nat)(g:List aB):(Int×(List aG)×(List aB))→Option ((Int×(List aG)×(List aB))⊕((Int×Bool×(List aG)×(List aB))))
  | (c,d,f)=>bif decide (c<(g.length:Int))then(ix g c).bind fun b=>(dL n b.f0 b.f1 b.f2 b.f3).bind fun a=>(fQ 56 f ([aB.mk a.1 a.2.1 a.2.2.1 a.2.2.2]:List aB)).bind fun j=>some (.inl ((IntKind.wrap .i64 (c+(1:Int))),d,j))else some (.inr (c,false,d,f))
def jK(n:Nat)(c:List aG)(d:List aB):Option ((List aG)×(List aB)):=
  (loopN (fT n c) n ((0:Int),([]:List aG),([]:List aB))).bind fun(o,l,f,g)=>(loopN (fS n d) n ((0:Int),f,g)).bind fun(m,j,a,b)=>some (a,b)
theorem tV{n:Nat}:Fm (jK n):=by
 intro H I r h
 unfold jK at h
 refine bF Try.func81 rfl rfl<|gco 3 rfl<|xAz [.sl ([].map aK), .sl ([].map aH)] rfl<|oRs<|wBd [.sl ([].map aK), .sl ([].map aH)] rfl rfl rfl rfl rfl rfl<|xAz [.sl ([].map aK), .sl ([].map aH)] rfl<|goc 7 rfl<|cLp h [(4,5),(8,30)] [(3,3),(5,5)] (fun(u,w,y)=>([(4,I64 u)],[(3,[.sl (w.map aK), .sl (y.map aH)])])) (fun(v,g,z,A)=>(.e 0,[(4,I64 v),(12,Bo g)],[(3,[.sl (z.map aK), .sl (A.map aH)])])) rfl (fun st _ h=> ?_) (fun q h=> ?_)
 obtain⟨u,w,y⟩:=st
 unfold fT at h
 refine gco 6 rfl<|xLn rfl<|goc 2 rfl<|cIf h rfl (fun G h=> ?_) (fun G h=> ?_)
 refine gco 8 rfl<|xIx h dX rfl (fun c h=> ?_)
 refine xLd rfl<|xAz [.str [], .int .i64 0, .int .i64 0, .sl ([].map aL)] rfl<|goo 4 rfl<|dM (L:=([]:List aF)) (f:=aL) rfl rfl rfl rfl rfl rfl rfl<|goo 2 rfl<|wAp (f:=aL) h rfl rfl rfl rfl rfl rfl rfl rfl rfl (fun _=>rfl) rfl (fun t h=> ?_)
 refine goo 7 rfl<|dM (L:=([aG.mk c.f0 c.f1 c.f2 t]:List aG)) (f:=aK) rfl rfl rfl rfl rfl rfl rfl<|wAp (f:=aK) h rfl rfl rfl rfl rfl rfl rfl rfl rfl (fun _=>rfl) rfl (fun D h=> ?_)
 exact geo
 exact gec
 obtain⟨v,g,z,A⟩:=q
 refine gcc 5 rfl<|cLp h [(6,6),(31,48)] [(3,3)] (fun(j,m,o)=>([(6,I64 j)],[(3,[.sl (m.map aK), .sl (o.map aH)])])) (fun(l,d,p,s)=>(.e 2,[(6,I64 l),(35,Bo d)],[(3,[.sl (p.map aK), .sl (s.map aH)])])) rfl (fun st _ h=> ?_) (fun q h=> ?_)
 obtain⟨j,m,o⟩:=st
 unfold fS at h
 refine gco 6 rfl<|xLn rfl<|goc 2 rfl<|cIf h rfl (fun C h=> ?_) (fun C h=> ?_)
 refine gco 9 rfl<|xIx h aP rfl (fun B h=> ?_)
 refine xLd rfl<|xC0 h (yM ·) rfl (fun b h=> ?_)
 refine dM (L:=([aB.mk b.1 b.2.1 b.2.2.1 b.2.2.2]:List aB)) (f:=aH) rfl rfl rfl rfl (by simp only[List.map,eU]<;>rfl) rfl rfl<|wAp (f:=aH) h rfl rfl rfl rfl rfl rfl rfl rfl rfl (fun a=>by rw[aP]; rfl) rfl (fun E h=> ?_)
 exact geo
 exact gec
 obtain⟨l,d,p,s⟩:=q
 exact gec
abbrev Hk(p:(List Int)→Option ((List Int)×Int×Int)):Prop:= ∀ {a:List Int} {r:(List Int)×Int×Int},p a=some r→Big Try.prog τ An (.fn 118 [.one (.c (.sl (a.map rI_u8)))] [] (.one (.ptr 0 0)) none [] (some [.sl (r.1.map rI_u8), .int .i64 r.2.1, .int .i64 r.2.2]))
def pF(n:Nat)(b:List Int):(Int×Int)→Option ((Int×Int)⊕((Int×Int×Bool)))
  | (c,a)=>(bif decide (a<(b.length:Int))then some (decide (a<(4000:Int)))else some false).bind fun f=>bif f then(ix b a).bind fun d=>some (.inl ((bits .and .i64 (IntKind.wrap .i64 ((IntKind.wrap .i64 ((IntKind.wrap .i64 (c*(137:Int)))+(IntKind.wrap .i64 d)))+(11:Int))) (1073741823:Int)),(IntKind.wrap .i64 (a+(1:Int)))))else some (.inr (c,a,false))
def nO(n:Nat)(a:List Int):Option ((List Int)×Int×Int):=
  (loopN (pF n a) n ((IntKind.wrap .i64 ((375375:Int)+(a.length:Int))),(0:Int))).bind fun(b,d,c)=>some (a,(0:Int),b)
theorem Dn{n:Nat}:Hk (nO n):=by
 intro l r h
 unfold nO at h
 refine bF Try.func118 rfl rfl<|gco 7 rfl<|xLn rfl<|goc 8 rfl<|cLp h [(3,4),(8,27)] [] (fun(a,f)=>([(3,I64 a),(4,I64 f)],[])) (fun(b,g,c)=>(.e 0,[(3,I64 b),(4,I64 g),(15,Bo c)],[])) rfl (fun st _ h=> ?_) (fun q h=> ?_)
 obtain⟨a,f⟩:=st
 unfold pF at h
 refine gco 3 rfl<|oJn h [(8,15)] [] (fun d=>(.n,[(15,Bo d)],[])) (fun _ h=> ?_) (fun d h=> ?_)
 refine goo 2 rfl<|xLn rfl<|goo 2 rfl<|oIf 12 h rfl (fun m h=> ?_) (fun m h=> ?_)
 exact geo
 exact geo
 refine cIf h rfl (fun o h=> ?_) (fun o h=> ?_)
 refine gco 8 rfl<|xIx h AZ rfl (fun j h=> ?_)
 exact goo 4 rfl<|wBi (.int .i64 (bits .and .i64 (IntKind.wrap .i64 ((IntKind.wrap .i64 ((IntKind.wrap .i64 (a*(137:Int)))+(IntKind.wrap .i64 j)))+(11:Int))) (1073741823:Int))) rfl rfl rfl rfl rfl<|geo
 exact gec
 obtain⟨b,g,c⟩:=q
 exact gco 4 rfl<|wBd [.sl (l.map rI_u8), .int .i64 0, .int .i64 b] rfl rfl rfl rfl rfl rfl<|geo
abbrev Ft(p:(List Int)→Int→Int→Option (Int×(List Int)×Int×Int)):Prop:= ∀ {a:List Int} {b d:Int} {r:Int×(List Int)×Int×Int},p a b d=some r→Big Try.prog τ An (.fn 189 [.one (.ptr 1000000 0)] [[.sl (a.map rI_u8), .int .i64 b, .int .i64 d]] (.one (.c (.int .i64 r.1))) none [[.sl (r.2.1.map rI_u8), .int .i64 r.2.2.1, .int .i64 r.2.2.2]] none)
def fX(n:Nat)(b:List Int)(c:Int)(a:Int):Option (Int×(List Int)×Int×Int):=
  bif decide (c<(b.length:Int))then(ix b c).bind fun d=>some ((bits .and .i64 (IntKind.wrap .i64 ((bits .and .i64 (bits .xor .i64 (Int.fdiv (IntKind.wrap .i64 ((IntKind.wrap .i64 (a*(6364136223846793005:Int)))+(1442695040888963407:Int))) (2 ^ 33)) (Int.fdiv (IntKind.wrap .i64 ((IntKind.wrap .i64 (a*(6364136223846793005:Int)))+(1442695040888963407:Int))) (2 ^ 47))) (255:Int))+(IntKind.wrap .i64 d))) (255:Int)),b,(IntKind.wrap .i64 (c+(1:Int))),(IntKind.wrap .i64 ((IntKind.wrap .i64 (a*(6364136223846793005:Int)))+(1442695040888963407:Int))))else some ((bits .and .i64 (bits .xor .i64 (Int.fdiv (IntKind.wrap .i64 ((IntKind.wrap .i64 (a*(6364136223846793005:Int)))+(1442695040888963407:Int))) (2 ^ 33)) (Int.fdiv (IntKind.wrap .i64 ((IntKind.wrap .i64 (a*(6364136223846793005:Int)))+(1442695040888963407:Int))) (2 ^ 47))) (255:Int)),b,c,(IntKind.wrap .i64 ((IntKind.wrap .i64 (a*(6364136223846793005:Int)))+(1442695040888963407:Int))))
theorem mK{n:Nat}:Ft (fX n):=by
 intro c d a r h
 unfold fX at h
 refine bF Try.func189 rfl rfl<|gco 23 rfl<|wBi (.int .i64 (Int.fdiv (IntKind.wrap .i64 ((IntKind.wrap .i64 (a*(6364136223846793005:Int)))+(1442695040888963407:Int))) (2 ^ 33))) rfl rfl rfl rfl rfl<|goo 4 rfl<|wBi (.int .i64 (Int.fdiv (IntKind.wrap .i64 ((IntKind.wrap .i64 (a*(6364136223846793005:Int)))+(1442695040888963407:Int))) (2 ^ 47))) rfl rfl rfl rfl rfl<|wBi (.int .i64 (bits .xor .i64 (Int.fdiv (IntKind.wrap .i64 ((IntKind.wrap .i64 (a*(6364136223846793005:Int)))+(1442695040888963407:Int))) (2 ^ 33)) (Int.fdiv (IntKind.wrap .i64 ((IntKind.wrap .i64 (a*(6364136223846793005:Int)))+(1442695040888963407:Int))) (2 ^ 47)))) rfl rfl rfl rfl rfl<|wBi (.int .i64 (bits .and .i64 (bits .xor .i64 (Int.fdiv (IntKind.wrap .i64 ((IntKind.wrap .i64 (a*(6364136223846793005:Int)))+(1442695040888963407:Int))) (2 ^ 33)) (Int.fdiv (IntKind.wrap .i64 ((IntKind.wrap .i64 (a*(6364136223846793005:Int)))+(1442695040888963407:Int))) (2 ^ 47))) (255:Int))) rfl rfl rfl rfl rfl<|goo 13 rfl<|xLn rfl<|goc 2 rfl<|cIf h rfl (fun f h=> ?_) (fun f h=> ?_)
 refine gco 11 rfl<|xIx h AZ rfl (fun b h=> ?_)
 exact goo 3 rfl<|wBi (.int .i64 (bits .and .i64 (IntKind.wrap .i64 ((bits .and .i64 (bits .xor .i64 (Int.fdiv (IntKind.wrap .i64 ((IntKind.wrap .i64 (a*(6364136223846793005:Int)))+(1442695040888963407:Int))) (2 ^ 33)) (Int.fdiv (IntKind.wrap .i64 ((IntKind.wrap .i64 (a*(6364136223846793005:Int)))+(1442695040888963407:Int))) (2 ^ 47))) (255:Int))+(IntKind.wrap .i64 b))) (255:Int))) rfl rfl rfl rfl rfl<|geo
 exact gec
abbrev Dx(p:Int→(List Int)→Int→Int→Option (Int×(List Int)×Int×Int)):Prop:= ∀ {f:Int} {a:List Int} {b d:Int} {r:Int×(List Int)×Int×Int},p f a b d=some r→Big Try.prog τ An (.fn 119 [.one (.ptr 1000000 0), .one (.c (.int .i64 f))] [[.sl (a.map rI_u8), .int .i64 b, .int .i64 d]] (.one (.c (.int .i64 r.1))) none [[.sl (r.2.1.map rI_u8), .int .i64 r.2.2.1, .int .i64 r.2.2.2]] none)
def aM(n:Nat)(a:Int)(g:List Int)(j:Int)(l:Int):Option (Int×(List Int)×Int×Int):=
  bif decide (a≤(0:Int))then some ((0:Int),g,j,l)else bif decide (a≤(256:Int))then(fX n g j l).bind fun b=>(ck (!decide (a=0))).bind fun _=>some ((Int.tmod b.1 a),b.2.1,b.2.2.1,b.2.2.2)else(fX n g j l).bind fun c=>(fX n c.2.1 c.2.2.1 c.2.2.2).bind fun d=>(fX n d.2.1 d.2.2.1 d.2.2.2).bind fun f=>(ck (!decide (a=0))).bind fun _=>some ((Int.tmod (IntKind.wrap .i64 ((IntKind.wrap .i64 ((IntKind.wrap .i64 (c.1*(65536:Int)))+(IntKind.wrap .i64 (d.1*(256:Int)))))+f.1)) a),f.2.1,f.2.2.1,f.2.2.2)
theorem aN{n:Nat}:Dx (aM n):=by
 intro s j l m r h
 unfold aM at h
 refine bF Try.func119 rfl rfl<|gcc 10 rfl<|cIf h rfl (fun o h=> ?_) (fun o h=> ?_)
 exact gec
 refine gcc 7 rfl<|cIf h rfl (fun p h=> ?_) (fun p h=> ?_)
 refine gco 3 rfl<|xC1 h (mK ·) rfl (fun c h=> ?_)
 refine xMv rfl<|oCk h (fun a h=> ?_)
 exact wRem a rfl rfl rfl rfl<|geo
 refine gco 4 rfl<|xC1 h (mK ·) rfl (fun d h=> ?_)
 refine goo 5 rfl<|xC1 h (mK ·) rfl (fun f h=> ?_)
 refine goo 5 rfl<|xC1 h (mK ·) rfl (fun g h=> ?_)
 refine goo 12 rfl<|oCk h (fun b h=> ?_)
 exact wRem b rfl rfl rfl rfl<|geo
abbrev Fs(p:Int→(List Int)→Int→Int→Option (Bool×(List Int)×Int×Int)):Prop:= ∀ {f:Int} {a:List Int} {b d:Int} {r:Bool×(List Int)×Int×Int},p f a b d=some r→Big Try.prog τ An (.fn 121 [.one (.ptr 1000000 0), .one (.c (.int .i64 f))] [[.sl (a.map rI_u8), .int .i64 b, .int .i64 d]] (.one (.c (.bool r.1))) none [[.sl (r.2.1.map rI_u8), .int .i64 r.2.2.1, .int .i64 r.2.2.2]] none)
def fW(n:Nat)(f:Int)(b:List Int)(c:Int)(d:Int):Option (Bool×(List Int)×Int×Int):=
  (aM n f b c d).bind fun a=>some ((decide (a.1=(0:Int))),a.2.1,a.2.2.1,a.2.2.2)
theorem mJ{n:Nat}:Fs (fW n):=by
 intro f b c d r h
 unfold fW at h
 refine bF Try.func121 rfl rfl<|gco 8 rfl<|xC1 h (aN ·) rfl (fun a h=> ?_)
 exact geo
abbrev Hl(p:(List Int)→(List Int)→Int→Int→Option (Int×(List Int)×Int×Int)):Prop:= ∀ {f a:List Int} {b d:Int} {r:Int×(List Int)×Int×Int},p f a b d=some r→Big Try.prog τ An (.fn 190 [.one (.ptr 1000000 0), .one (.c (.sl (f.map aW)))] [[.sl (a.map rI_u8), .int .i64 b, .int .i64 d]] (.one (.c (.int .i64 r.1))) none [[.sl (r.2.1.map rI_u8), .int .i64 r.2.2.1, .int .i64 r.2.2.2]] none)
def cK(n:Nat)(b:List Int)(d:List Int)(f:Int)(g:Int):Option (Int×(List Int)×Int×Int):=
  (aM n (b.length:Int) d f g).bind fun a=>(ix b a.1).bind fun c=>some (c,a.2.1,a.2.2.1,a.2.2.2)
theorem dD{n:Nat}:Hl (cK n):=by
 intro g c d f r h
 unfold cK at h
 refine bF Try.func190 rfl rfl<|gco 9 rfl<|xLn rfl<|xC1 h (aN ·) rfl (fun b h=> ?_)
 refine xIx h nB rfl (fun a h=> ?_)
 exact geo
abbrev Hj(p:(List (List UInt8))→(List Int)→Int→Int→Option ((List UInt8)×(List Int)×Int×Int)):Prop:= ∀ {f:List (List UInt8)} {a:List Int} {b d:Int} {r:(List UInt8)×(List Int)×Int×Int},p f a b d=some r→Big Try.prog τ An (.fn 191 [.one (.ptr 1000000 0), .one (.c (.sl (f.map eG)))] [[.sl (a.map rI_u8), .int .i64 b, .int .i64 d]] (.one (.c (.str r.1))) none [[.sl (r.2.1.map rI_u8), .int .i64 r.2.2.1, .int .i64 r.2.2.2]] none)
def bE(n:Nat)(b:List (List UInt8))(d:List Int)(f:Int)(g:Int):Option ((List UInt8)×(List Int)×Int×Int):=
  (aM n (b.length:Int) d f g).bind fun a=>(ix b a.1).bind fun c=>some (c,a.2.1,a.2.2.1,a.2.2.2)
theorem bZ{n:Nat}:Hj (bE n):=by
 intro g c d f r h
 unfold bE at h
 refine bF Try.func191 rfl rfl<|gco 9 rfl<|xLn rfl<|xC1 h (aN ·) rfl (fun b h=> ?_)
 refine xIx h oA rfl (fun a h=> ?_)
 exact geo
abbrev Fn(p:(List aG)→(List aB)→(List Int)→Int→Int→Option ((List aG)×(List aB)×(List Int)×Int×Int)):Prop:= ∀ {d:List aG} {f:List aB} {a:List Int} {b c:Int} {r:(List aG)×(List aB)×(List Int)×Int×Int},p d f a b c=some r→Big Try.prog τ An (.fn 136 [.one (.ptr 1000000 0), .one (.ag [.sl (d.map aK), .sl (f.map aH)])] [[.sl (a.map rI_u8), .int .i64 b, .int .i64 c]] (.one (.ag [.sl (r.1.map aK), .sl (r.2.1.map aH)])) none [[.sl (r.2.2.1.map rI_u8), .int .i64 r.2.2.2.1, .int .i64 r.2.2.2.2]] none)
def jM(n:Nat)(L:List aG)(M:List aB)(y:List Int)(z:Int)(A:Int):Option ((List aG)×(List aB)×(List Int)×Int×Int):=
  (jK n L M).bind fun c=>bif decide ((c.1.length:Int)=(0:Int))then some (c.1,c.2,y,z,A)else(aM n (c.1.length:Int) y z A).bind fun d=>(ix c.1 d.1).bind fun b=>bif decide ((b.f3.length:Int)=(0:Int))then some (c.1,c.2,d.2.1,d.2.2.1,d.2.2.2)else(aM n (b.f3.length:Int) d.2.1 d.2.2.1 d.2.2.2).bind fun f=>(aM n (9:Int) f.2.1 f.2.2.1 f.2.2.2).bind fun a=>bif decide (a.1=(0:Int))then(aM n (14:Int) a.2.1 a.2.2.1 a.2.2.2).bind fun t=>(ix b.f3 f.1).bind fun u=>(some (c.1.set (Int.toNat d.1) (aG.mk b.f0 b.f1 b.f2 (b.f3.set (Int.toNat f.1) (aF.mk t.1 u.f1 u.f2 u.f3))))).bind fun C=>some (C,c.2,t.2.1,t.2.2.1,t.2.2.2)else bif decide (a.1=(1:Int))then(cK n ([((-1):Int),(0:Int),(1:Int),(7:Int),(500:Int)]:List Int) a.2.1 a.2.2.1 a.2.2.2).bind fun o=>(ix b.f3 f.1).bind fun v=>(some (c.1.set (Int.toNat d.1) (aG.mk b.f0 b.f1 b.f2 (b.f3.set (Int.toNat f.1) (aF.mk v.f0 o.1 v.f2 v.f3))))).bind fun D=>some (D,c.2,o.2.1,o.2.2.1,o.2.2.2)else bif decide (a.1=(2:Int))then(cK n ([(0:Int),f.1,(IntKind.wrap .i64 (f.1+(1:Int))),(b.f3.length:Int)]:List Int) a.2.1 a.2.2.1 a.2.2.2).bind fun p=>(ix b.f3 f.1).bind fun w=>(some (c.1.set (Int.toNat d.1) (aG.mk b.f0 b.f1 b.f2 (b.f3.set (Int.toNat f.1) (aF.mk w.f0 w.f1 w.f2 p.1))))).bind fun E=>some (E,c.2,p.2.1,p.2.2.1,p.2.2.2)else bif decide (a.1=(3:Int))then(sub b.f3 none (some f.1)).bind fun B=>(some (c.1.set (Int.toNat d.1) (aG.mk b.f0 b.f1 b.f2 B))).bind fun G=>some (G,c.2,a.2.1,a.2.2.1,a.2.2.2)else bif decide (a.1=(4:Int))then(bE n ([([102]:List UInt8),([99,97,115,101]:List UInt8),([65]:List UInt8),([122]:List UInt8)]:List (List UInt8)) a.2.1 a.2.2.1 a.2.2.2).bind fun s=>(some (c.1.set (Int.toNat d.1) (aG.mk s.1 b.f1 b.f2 b.f3))).bind fun H=>some (H,c.2,s.2.1,s.2.2.1,s.2.2.2)else bif decide (a.1=(5:Int))then(cK n ([(0:Int),(400:Int),(401:Int)]:List Int) a.2.1 a.2.2.1 a.2.2.2).bind fun g=>(some (c.1.set (Int.toNat d.1) (aG.mk b.f0 b.f1 g.1 b.f3))).bind fun I=>some (I,c.2,g.2.1,g.2.2.1,g.2.2.2)else bif decide (a.1=(6:Int))then(cK n ([((-1):Int),(0:Int),(2:Int),(5:Int)]:List Int) a.2.1 a.2.2.1 a.2.2.2).bind fun j=>(some (c.1.set (Int.toNat d.1) (aG.mk b.f0 j.1 b.f2 b.f3))).bind fun J=>some (J,c.2,j.2.1,j.2.2.1,j.2.2.2)else bif decide (a.1=(7:Int))then bif decide ((0:Int)<(c.2.length:Int))then(aM n (8:Int) a.2.1 a.2.2.1 a.2.2.2).bind fun l=>(cK n ([((-1):Int),(0:Int),(50:Int)]:List Int) l.2.1 l.2.2.1 l.2.2.2).bind fun m=>(ix c.2 (0:Int)).bind fun N=>(some (c.2.set (Int.toNat (0:Int)) (aB.mk l.1 m.1 ([]:List UInt8) ([]:List aB)))).bind fun K=>some (c.1,K,m.2.1,m.2.2.1,m.2.2.2)else some (c.1,c.2,a.2.1,a.2.2.1,a.2.2.2)else some (c.1,c.2,a.2.1,a.2.2.1,a.2.2.2)
theorem tW{n:Nat}:Fn (jM n):=by
 intro a3 a4 X Y Z r h
 unfold jM at h
 refine bF Try.func136 rfl rfl<|gco 3 rfl<|xAz [.sl ([].map aK), .sl ([].map aH)] rfl<|goo 4 rfl<|xC0 h (tV ·) rfl (fun W h=> ?_)
 refine goo 7 rfl<|xLn rfl<|goc 2 rfl<|cIf h rfl (fun q2 h=> ?_) (fun q2 h=> ?_)
 exact gec
 refine gco 4 rfl<|wLa rfl rfl rfl rfl rfl rfl rfl<|goo 3 rfl<|xLn rfl<|xC1 h (aN ·) rfl (fun I h=> ?_)
 refine wIp (f:=aK) h rfl rfl rfl rfl rfl rfl (fun _=>rfl) rfl (fun b ke21_4 h=> ?_)
 refine goo 8 rfl<|wLp (f:=aK) ke21_4 rfl rfl rfl rfl rfl rfl rfl rfl rfl rfl<|xLn rfl<|goc 2 rfl<|cIf h rfl (fun q5 h=> ?_) (fun q5 h=> ?_)
 exact gec
 refine gco 7 rfl<|wLp (f:=aK) ke21_4 rfl rfl rfl rfl rfl rfl rfl rfl rfl rfl<|xLn rfl<|xC1 h (aN ·) rfl (fun j h=> ?_)
 refine goo 6 rfl<|xC1 h (aN ·) rfl (fun J h=> ?_)
 refine goc 7 rfl<|cIf h rfl (fun q8 h=> ?_) (fun q8 h=> ?_)
 refine gco 4 rfl<|wLq (f:=aK) ke21_4 rfl rfl rfl rfl rfl rfl rfl rfl rfl rfl<|goo 2 rfl<|xC1 h (aN ·) rfl (fun s h=> ?_)
 refine wIpP (f:=aL) h (QX (f:=aK) ke21_4 rfl) rfl rfl rfl rfl rfl rfl (fun _=>rfl) rfl (fun c ke47_10 h=> ?_)
 refine xFd rfl<|wSpP (f:=aL) (rf:=aK) (v':=aF.mk s.1 c.f1 c.f2 c.f3) h ke47_10 (QX (f:=aK) ke21_4 rfl) (LX (f:=aK) (a':=aG.mk b.f0 b.f1 b.f2 (b.f3.set (Int.toNat j.1) (aF.mk s.1 c.f1 c.f2 c.f3))) ke21_4 rfl rfl) rfl rfl rfl rfl rfl rfl rfl rfl rfl (fun K h=> ?_)
 exact geo
 refine gcc 5 rfl<|cIf h rfl (fun z h=> ?_) (fun z h=> ?_)
 refine gco 4 rfl<|wLq (f:=aK) ke21_4 rfl rfl rfl rfl rfl rfl rfl rfl rfl rfl<|goo 2 rfl<|dM (L:=([((-1):Int),(0:Int),(1:Int),(7:Int),(500:Int)]:List Int)) (f:=aW) rfl rfl rfl rfl rfl rfl rfl<|xC1 h (dD ·) rfl (fun o h=> ?_)
 refine wIpP (f:=aL) h (QX (f:=aK) ke21_4 rfl) rfl rfl rfl rfl rfl rfl (fun _=>rfl) rfl (fun d ke59_14 h=> ?_)
 refine xFd rfl<|wSpP (f:=aL) (rf:=aK) (v':=aF.mk d.f0 o.1 d.f2 d.f3) h ke59_14 (QX (f:=aK) ke21_4 rfl) (LX (f:=aK) (a':=aG.mk b.f0 b.f1 b.f2 (b.f3.set (Int.toNat j.1) (aF.mk d.f0 o.1 d.f2 d.f3))) ke21_4 rfl rfl) rfl rfl rfl rfl rfl rfl rfl rfl rfl (fun M h=> ?_)
 exact geo
 refine gcc 5 rfl<|cIf h rfl (fun A h=> ?_) (fun A h=> ?_)
 refine gco 4 rfl<|wLq (f:=aK) ke21_4 rfl rfl rfl rfl rfl rfl rfl rfl rfl rfl<|goo 8 rfl<|wLp (f:=aK) ke21_4 rfl rfl rfl rfl rfl rfl rfl rfl rfl rfl<|xLn rfl<|dM (L:=([(0:Int),j.1,(IntKind.wrap .i64 (j.1+(1:Int))),(b.f3.length:Int)]:List Int)) (f:=aW) rfl rfl rfl rfl rfl rfl rfl<|xC1 h (dD ·) rfl (fun p h=> ?_)
 refine wIpP (f:=aL) h (QX (f:=aK) ke21_4 rfl) rfl rfl rfl rfl rfl rfl (fun _=>rfl) rfl (fun g ke79_18 h=> ?_)
 refine xFd rfl<|wSpP (f:=aL) (rf:=aK) (v':=aF.mk g.f0 g.f1 g.f2 p.1) h ke79_18 (QX (f:=aK) ke21_4 rfl) (LX (f:=aK) (a':=aG.mk b.f0 b.f1 b.f2 (b.f3.set (Int.toNat j.1) (aF.mk g.f0 g.f1 g.f2 p.1))) ke21_4 rfl rfl) rfl rfl rfl rfl rfl rfl rfl rfl rfl (fun N h=> ?_)
 exact geo
 refine gcc 5 rfl<|cIf h rfl (fun B h=> ?_) (fun B h=> ?_)
 refine gco 5 rfl<|wLtk (f:=aK) ke21_4 rfl rfl rfl rfl rfl rfl rfl rfl rfl rfl rfl rfl<|xMv rfl<|wSl (rf:=aL) h rfl rfl rfl rfl .no (.so rfl) (fun _=>rfl) rfl (fun w h=> ?_)
 refine goo 2 rfl<|wStH (f:=aK) (v':=aG.mk b.f0 b.f1 b.f2 w) h ke21_4 rfl rfl rfl rfl rfl rfl rfl rfl rfl (fun Q h=> ?_)
 exact geo
 refine gcc 5 rfl<|cIf h rfl (fun C h=> ?_) (fun C h=> ?_)
 refine gco 3 rfl<|dM (L:=([([102]:List UInt8),([99,97,115,101]:List UInt8),([65]:List UInt8),([122]:List UInt8)]:List (List UInt8))) (f:=eG) rfl rfl rfl rfl rfl rfl rfl<|xC1 h (bZ ·) rfl (fun v h=> ?_)
 refine goo 2 rfl<|LJ (f:=aK) (v':=aG.mk v.1 b.f1 b.f2 b.f3) h ke21_4 rfl rfl rfl rfl rfl rfl rfl rfl rfl (fun R h=> ?_)
 exact geo
 refine gcc 5 rfl<|cIf h rfl (fun D h=> ?_) (fun D h=> ?_)
 refine gco 3 rfl<|dM (L:=([(0:Int),(400:Int),(401:Int)]:List Int)) (f:=aW) rfl rfl rfl rfl rfl rfl rfl<|xC1 h (dD ·) rfl (fun t h=> ?_)
 refine goo 2 rfl<|LJ (f:=aK) (v':=aG.mk b.f0 b.f1 t.1 b.f3) h ke21_4 rfl rfl rfl rfl rfl rfl rfl rfl rfl (fun T h=> ?_)
 exact geo
 refine gcc 5 rfl<|cIf h rfl (fun E h=> ?_) (fun E h=> ?_)
 refine gco 3 rfl<|dM (L:=([((-1):Int),(0:Int),(2:Int),(5:Int)]:List Int)) (f:=aW) rfl rfl rfl rfl rfl rfl rfl<|xC1 h (dD ·) rfl (fun u h=> ?_)
 refine goo 2 rfl<|LJ (f:=aK) (v':=aG.mk b.f0 u.1 b.f2 b.f3) h ke21_4 rfl rfl rfl rfl rfl rfl rfl rfl rfl (fun U h=> ?_)
 exact geo
 refine gcc 5 rfl<|cIf h rfl (fun G h=> ?_) (fun G h=> ?_)
 refine gco 4 rfl<|xLn rfl<|goc 2 rfl<|cIf h rfl (fun H h=> ?_) (fun H h=> ?_)
 refine gco 2 rfl<|wLa rfl rfl rfl rfl rfl rfl rfl<|xMv rfl<|xC1 h (aN ·) rfl (fun l h=> ?_)
 refine xMv rfl<|dM (L:=([((-1):Int),(0:Int),(50:Int)]:List Int)) (f:=aW) rfl rfl rfl rfl rfl rfl rfl<|xC1 h (dD ·) rfl (fun m h=> ?_)
 refine wBd [.int .i64 l.1, .int .i64 m.1, .str [], .sl ([].map aH)] rfl rfl rfl rfl rfl rfl<|wIp (f:=aH) h rfl rfl rfl rfl rfl rfl (fun a=>by rw[aP]; rfl) rfl (fun y ke130_36 h=> ?_)
 refine LJ (f:=aH) (v':=aB.mk l.1 m.1 ([]:List UInt8) ([]:List aB)) h ke130_36 rfl rfl rfl rfl rfl rfl rfl (by rw[aP]; rfl) (by rw[aP,eU]; rfl) (fun V h=> ?_)
 exact geo
 exact gec
 exact gec
abbrev Fk(p:Int→Int→(List UInt8)→Int→(List aF)→(List aB)→Int→Option ((List aF)×(List aB)×Int)):Prop:= ∀ {d f:Int} {g:List UInt8} {j:Int} {a:List aF} {b:List aB} {c:Int} {r:(List aF)×(List aB)×Int},p d f g j a b c=some r→Big Try.prog τ An (.fn 268 [.one (.ptr 1000000 0), .one (.ag [.int .i64 d, .int .i64 f, .str g, .int .i64 j])] [[.sl (a.map aL), .sl (b.map aH), .int .i64 c]] (.tup []) none [[.sl (r.1.map aL), .sl (r.2.1.map aH), .int .i64 r.2.2]] none)
def bJ(n:Nat)(f:Int)(g:Int)(j:List UInt8)(l:Int)(b:List aF)(c:List aB)(d:Int):Option ((List aF)×(List aB)×Int):=
  (fQ 40 b ([aF.mk f g j l]:List aF)).bind fun a=>some (a,c,d)
theorem bV{n:Nat}:Fk (bJ n):=by
 intro a b c d j l m r h
 unfold bJ at h
 refine bF Try.func268 rfl rfl<|gco 11 rfl<|dM (L:=([aF.mk a b c d]:List aF)) (f:=aL) rfl rfl rfl rfl rfl rfl rfl<|wAp (f:=aL) h rfl rfl rfl rfl rfl rfl rfl rfl rfl (fun _=>rfl) rfl (fun g h=> ?_)
 exact geo
abbrev DG(p:(List (List UInt8))→(List Int)→(List UInt8)→Option (Int)):Prop:= ∀ {a:List (List UInt8)} {b:List Int} {d:List UInt8} {r:Int},p a b d=some r→Big Try.prog τ An (.fn 277 [.one (.c (.sl (a.map eG))), .one (.c (.sl (b.map aW))), .one (.c (.str d))] [] (.one (.c (.int .i64 r))) none [] none)
def mP(n:Nat)(d:List (List UInt8))(f:List Int)(g:List UInt8):(Int)→Option ((Int)⊕((Int)⊕(Int×Bool)))
  | a=>bif decide ((0:Int)≤a)then(ix d a).bind fun b=>bif decide (b=g)then(ix f a).bind fun c=>some (.inr (.inl c))else some (.inl (IntKind.wrap .i64 (a - (1:Int))))else some (.inr (.inr (a,false)))
def jG(n:Nat)(a:List (List UInt8))(b:List Int)(c:List UInt8):Option (Int):=
  (loopN (mP n a b c) n (IntKind.wrap .i64 ((a.length:Int) - (1:Int)))).bind fun q=>(match q with | .inl d=>some d | .inr (g,f)=>some (0:Int))
theorem zT{n:Nat}:DG (jG n):=by
 intro m o p r h
 unfold jG at h
 refine bF Try.func277 rfl rfl<|gco 8 rfl<|xLn rfl<|goc 3 rfl<|cLp h [(6,7),(11,24)] [] (fun c=>([(7,I64 c)],[])) (fun q=>match q with | .inl b=>(.r,[(6,I64 b)],[]) | .inr (d,a)=>(.e 0,[(7,I64 d),(12,Bo a)],[])) rfl (fun c _ h=> ?_) (fun q h=> ?_)
 unfold mP at h
 refine gcc 6 rfl<|cIf h rfl (fun j h=> ?_) (fun j h=> ?_)
 refine gco 7 rfl<|xIx h oA rfl (fun f h=> ?_)
 refine goc 4 rfl<|cIf h rfl (fun l h=> ?_) (fun l h=> ?_)
 refine gco 4 rfl<|xIx h nB rfl (fun g h=> ?_)
 exact geo
 exact gec
 exact gec
 rcases q with b | ⟨d,a⟩
 exact en
 exact gec
abbrev gT:Type:=Int→Int→(List UInt8)→(List aA)→(List aC)→(List aF)→(List aB)→Int→(List (List UInt8))→(List Int)→Option (Int×Int×(List UInt8)×(List aB)×(List aF)×(List aB)×Int×(List (List UInt8))×(List Int))
abbrev pZ(p:gT):Prop:= ∀ {g j:Int} {l:List UInt8} {m:List aA} {o:List aC} {a:List aF} {b:List aB} {c:Int} {d:List (List UInt8)} {f:List Int} {r:Int×Int×(List UInt8)×(List aB)×(List aF)×(List aB)×Int×(List (List UInt8))×(List Int)},p g j l m o a b c d f=some r→Big Try.prog τ An (.fn 285 [.one (.ptr 1000000 0), .one (.ag [.int .i64 g, .int .i64 j, .str l, .sl (m.map aE), .sl (o.map aD)]), .one (.ptr 1000001 0), .one (.ptr 1000002 0)] [[.sl (a.map aL), .sl (b.map aH), .int .i64 c],[.sl (d.map eG)],[.sl (f.map aW)]] (.one (.ag [.int .i64 r.1, .int .i64 r.2.1, .str r.2.2.1, .sl (r.2.2.2.1.map aH)])) none [[.sl (r.2.2.2.2.1.map aL), .sl (r.2.2.2.2.2.1.map aH), .int .i64 r.2.2.2.2.2.2.1],[.sl (r.2.2.2.2.2.2.2.1.map eG)],[.sl (r.2.2.2.2.2.2.2.2.map aW)]] none)
def eC(n:Nat)(m:gT)(o:List aA):(Int×Int×Int×(List UInt8)×(List aB)×(List aF)×(List aB)×Int×(List (List UInt8))×(List Int))→Option ((Int×Int×Int×(List UInt8)×(List aB)×(List aF)×(List aB)×Int×(List (List UInt8))×(List Int))⊕((Int×Bool×Int×Int×(List UInt8)×(List aB)×(List aF)×(List aB)×Int×(List (List UInt8))×(List Int))))
  | (l,s,t,u,v,c,d,f,g,j)=>bif decide (l<(o.length:Int))then(ix o l).bind fun b=>(m b.f0 b.f1 b.f2 b.f3 b.f4 c d f g j).bind fun a=>(fQ 56 v ([aB.mk a.1 a.2.1 a.2.2.1 a.2.2.2.1]:List aB)).bind fun p=>some (.inl ((IntKind.wrap .i64 (l+(1:Int))),s,t,u,p,a.2.2.2.2.1,a.2.2.2.2.2.1,a.2.2.2.2.2.2.1,a.2.2.2.2.2.2.2.1,a.2.2.2.2.2.2.2.2))else some (.inr (l,false,s,t,u,v,c,d,f,g,j))
def pE(n:Nat)(m:gT)(u:List aA):(Int×Int×Int×(List UInt8)×(List aB)×(List aF)×(List aB)×Int×(List (List UInt8))×(List Int))→Option ((Int×Int×Int×(List UInt8)×(List aB)×(List aF)×(List aB)×Int×(List (List UInt8))×(List Int))⊕((Int×Bool×Int×Int×(List UInt8)×(List aB)×(List aF)×(List aB)×Int×(List (List UInt8))×(List Int))))
  | (l,o,p,s,t,c,d,f,g,j)=>bif decide (l<(u.length:Int))then(ix u l).bind fun b=>(m b.f0 b.f1 b.f2 b.f3 b.f4 c d f g j).bind fun a=>(fQ 56 t ([aB.mk a.1 a.2.1 a.2.2.1 a.2.2.2.1]:List aB)).bind fun v=>some (.inl ((IntKind.wrap .i64 (l+(1:Int))),o,p,s,v,a.2.2.2.2.1,a.2.2.2.2.2.1,a.2.2.2.2.2.2.1,a.2.2.2.2.2.2.2.1,a.2.2.2.2.2.2.2.2))else some (.inr (l,false,o,p,s,t,c,d,f,g,j))
def pD(n:Nat)(m:gT)(u:List aA):(Int×Int×Int×(List UInt8)×(List aB)×(List aF)×(List aB)×Int×(List (List UInt8))×(List Int))→Option ((Int×Int×Int×(List UInt8)×(List aB)×(List aF)×(List aB)×Int×(List (List UInt8))×(List Int))⊕((Int×Bool×Int×Int×(List UInt8)×(List aB)×(List aF)×(List aB)×Int×(List (List UInt8))×(List Int))))
  | (l,o,p,s,t,c,d,f,g,j)=>bif decide (l<(u.length:Int))then(ix u l).bind fun b=>(m b.f0 b.f1 b.f2 b.f3 b.f4 c d f g j).bind fun a=>(fQ 56 t ([aB.mk a.1 a.2.1 a.2.2.1 a.2.2.2.1]:List aB)).bind fun v=>some (.inl ((IntKind.wrap .i64 (l+(1:Int))),o,p,s,v,a.2.2.2.2.1,a.2.2.2.2.2.1,a.2.2.2.2.2.2.1,a.2.2.2.2.2.2.2.1,a.2.2.2.2.2.2.2.2))else some (.inr (l,false,o,p,s,t,c,d,f,g,j))
def nJ(n:Nat)(a:gT)(z:Int)(Y:Int)(E:List UInt8)(G:List aA)(a5:List aC)(A:List aF)(B:List aB)(b:Int)(C:List (List UInt8))(D:List Int):Option (Int×Int×(List UInt8)×(List aB)×(List aF)×(List aB)×Int×(List (List UInt8))×(List Int)):=
  bif decide (z=(3:Int))then bif !decide (E=([95]:List UInt8))then(fQ 16 C ([E]:List (List UInt8))).bind fun H=>(fQ 8 D ([b]:List Int)).bind fun I=>(loopN (eC n a G) n ((0:Int),z,b,([]:List UInt8),([]:List aB),A,B,(IntKind.wrap .i64 (b+(1:Int))),H,I)).bind fun(Z,a2,J,K,L,M,c,d,f,s,v)=>some (J,K,L,M,c,d,f,s,v)else(loopN (pE n a G) n ((0:Int),z,((-1):Int),([]:List UInt8),([]:List aB),A,B,b,C,D)).bind fun(a0,a3,N,Q,R,T,g,j,l,t,w)=>some (N,Q,R,T,g,j,l,t,w)else(loopN (pD n a G) n ((0:Int),z,Y,E,([]:List aB),A,B,b,C,D)).bind fun(a1,a4,U,V,W,X,m,o,p,u,y)=>some (U,V,W,X,m,o,p,u,y)
theorem Ch{n:Nat}{c:gT}(b:pZ c):pZ (nJ n c):=by
 intro d3 d4 c7 f2 f3 e6 e7 d2 e8 e9 r h
 unfold nJ at h
 refine bF Try.func285 rfl rfl<|gco 3 rfl<|xAz [.int .i64 0, .int .i64 0, .str [], .sl ([].map aH)] rfl<|goo 9 rfl<|wBd [.int .i64 d3, .int .i64 d4, .str c7, .sl ([].map aH)] rfl rfl rfl rfl rfl rfl<|xAz [.int .i64 0, .int .i64 0, .str [], .sl ([].map aH)] rfl<|goc 9 rfl<|cIf h rfl (fun q1 h=> ?_) (fun q1 h=> ?_)
 refine gcc 16 rfl<|cIf h rfl (fun q2 h=> ?_) (fun q2 h=> ?_)
 refine gco 28 rfl<|dM (L:=([c7]:List (List UInt8))) (f:=eG) rfl rfl rfl rfl rfl rfl rfl<|wAp (f:=eG) h rfl rfl rfl rfl rfl rfl rfl rfl rfl (fun _=>rfl) rfl (fun e4 h=> ?_)
 refine goo 10 rfl<|dM (L:=([d2]:List Int)) (f:=aW) rfl rfl rfl rfl rfl rfl rfl<|wAp (f:=aW) h rfl rfl rfl rfl rfl rfl rfl rfl rfl (fun _=>rfl) rfl (fun e5 h=> ?_)
 refine goc 8 rfl<|cLp h [(10,10),(56,76)] [(9,9),(1000000,1000002)] (fun(a6,c8,c9,d0,d1,d,g,j,E,M)=>([(10,I64 a6)],[(9,[.int .i64 c8, .int .i64 c9, .str d0, .sl (d1.map aH)]),(1000000,[.sl (d.map aL), .sl (g.map aH), .int .i64 j]),(1000001,[.sl (E.map eG)]),(1000002,[.sl (M.map aW)])])) (fun(Y,a3,a7,a8,a9,b0,l,m,o,G,N)=>(.e 0,[(10,I64 Y),(60,Bo a3)],[(9,[.int .i64 a7, .int .i64 a8, .str a9, .sl (b0.map aH)]),(1000000,[.sl (l.map aL), .sl (m.map aH), .int .i64 o]),(1000001,[.sl (G.map eG)]),(1000002,[.sl (N.map aW)])])) rfl (fun st _ h=> ?_) (fun q h=> ?_)
 obtain⟨a6,c8,c9,d0,d1,d,g,j,E,M⟩:=st
 unfold eC at h
 refine gco 6 rfl<|xLn rfl<|goc 2 rfl<|cIf h rfl (fun d8 h=> ?_) (fun d8 h=> ?_)
 refine gco 10 rfl<|xIx h aX rfl (fun d5 h=> ?_)
 refine goo 3 rfl<|xCk h (b ·) rfl (fun V h=> ?_)
 refine dM (L:=([aB.mk V.1 V.2.1 V.2.2.1 V.2.2.2.1]:List aB)) (f:=aH) rfl rfl rfl rfl (by simp only[List.map,eU]<;>rfl) rfl rfl<|wAp (f:=aH) h rfl rfl rfl rfl rfl rfl rfl rfl rfl (fun a=>by rw[aP]; rfl) rfl (fun e1 h=> ?_)
 exact geo
 exact gec
 obtain⟨Y,a3,a7,a8,a9,b0,l,m,o,G,N⟩:=q
 exact gec
 refine gcc 6 rfl<|cLp h [(10,10),(56,76)] [(9,9),(1000000,1000002)] (fun(Z,b1,b2,b3,b4,p,s,t,H,Q)=>([(10,I64 Z)],[(9,[.int .i64 b1, .int .i64 b2, .str b3, .sl (b4.map aH)]),(1000000,[.sl (p.map aL), .sl (s.map aH), .int .i64 t]),(1000001,[.sl (H.map eG)]),(1000002,[.sl (Q.map aW)])])) (fun(a0,a4,b5,b6,b7,b8,u,v,w,I,R)=>(.e 0,[(10,I64 a0),(60,Bo a4)],[(9,[.int .i64 b5, .int .i64 b6, .str b7, .sl (b8.map aH)]),(1000000,[.sl (u.map aL), .sl (v.map aH), .int .i64 w]),(1000001,[.sl (I.map eG)]),(1000002,[.sl (R.map aW)])])) rfl (fun st _ h=> ?_) (fun q h=> ?_)
 obtain⟨Z,b1,b2,b3,b4,p,s,t,H,Q⟩:=st
 unfold pE at h
 refine gco 6 rfl<|xLn rfl<|goc 2 rfl<|cIf h rfl (fun d9 h=> ?_) (fun d9 h=> ?_)
 refine gco 10 rfl<|xIx h aX rfl (fun d6 h=> ?_)
 refine goo 3 rfl<|xCk h (b ·) rfl (fun W h=> ?_)
 refine dM (L:=([aB.mk W.1 W.2.1 W.2.2.1 W.2.2.2.1]:List aB)) (f:=aH) rfl rfl rfl rfl (by simp only[List.map,eU]<;>rfl) rfl rfl<|wAp (f:=aH) h rfl rfl rfl rfl rfl rfl rfl rfl rfl (fun a=>by rw[aP]; rfl) rfl (fun e2 h=> ?_)
 exact geo
 exact gec
 obtain⟨a0,a4,b5,b6,b7,b8,u,v,w,I,R⟩:=q
 exact gec
 refine gcc 6 rfl<|cLp h [(10,10),(56,76)] [(9,9),(1000000,1000002)] (fun(a1,b9,c0,c1,c2,y,z,A,J,T)=>([(10,I64 a1)],[(9,[.int .i64 b9, .int .i64 c0, .str c1, .sl (c2.map aH)]),(1000000,[.sl (y.map aL), .sl (z.map aH), .int .i64 A]),(1000001,[.sl (J.map eG)]),(1000002,[.sl (T.map aW)])])) (fun(a2,a5,c3,c4,c5,c6,B,C,D,K,U)=>(.e 0,[(10,I64 a2),(60,Bo a5)],[(9,[.int .i64 c3, .int .i64 c4, .str c5, .sl (c6.map aH)]),(1000000,[.sl (B.map aL), .sl (C.map aH), .int .i64 D]),(1000001,[.sl (K.map eG)]),(1000002,[.sl (U.map aW)])])) rfl (fun st _ h=> ?_) (fun q h=> ?_)
 obtain⟨a1,b9,c0,c1,c2,y,z,A,J,T⟩:=st
 unfold pD at h
 refine gco 6 rfl<|xLn rfl<|goc 2 rfl<|cIf h rfl (fun e0 h=> ?_) (fun e0 h=> ?_)
 refine gco 10 rfl<|xIx h aX rfl (fun d7 h=> ?_)
 refine goo 3 rfl<|xCk h (b ·) rfl (fun X h=> ?_)
 refine dM (L:=([aB.mk X.1 X.2.1 X.2.2.1 X.2.2.2.1]:List aB)) (f:=aH) rfl rfl rfl rfl (by simp only[List.map,eU]<;>rfl) rfl rfl<|wAp (f:=aH) h rfl rfl rfl rfl rfl rfl rfl rfl rfl (fun a=>by rw[aP]; rfl) rfl (fun e3 h=> ?_)
 exact geo
 exact gec
 obtain⟨a2,a5,c3,c4,c5,c6,B,C,D,K,U⟩:=q
 exact gec
def AH:Nat→(gT)
  | 0=>(fun _ _ _ _ _ _ _ _ _ _=>none)
  | n+1=>nJ n (AH n)
def eT(n:Nat):gT:=AH n
theorem Ck(n:Nat):pZ (eT n):=by
  induction n with
  | zero=>exact(fun h=>nomatch h)
  | succ n ih=>exact Ch (n:=n) ih
theorem Dl{n:Nat}:pZ (eT n):=(Ck n)
theorem zP(n:Nat):eT (n+1)=nJ n (eT n):=rfl
abbrev gW:Type:=Int→Int→(List UInt8)→(List aA)→(List aC)→(List (List UInt8))→(List Int)→(List aF)→(List aB)→Int→Option ((List aF)×(List aB)×Int)
abbrev mE(p:gW):Prop:= ∀ {f g:Int} {j:List UInt8} {l:List aA} {m:List aC} {o:List (List UInt8)} {s:List Int} {a:List aF} {b:List aB} {d:Int} {r:(List aF)×(List aB)×Int},p f g j l m o s a b d=some r→Big Try.prog τ An (.fn 278 [.one (.ptr 1000000 0), .one (.ag [.int .i64 f, .int .i64 g, .str j, .sl (l.map aE), .sl (m.map aD)]), .one (.c (.sl (o.map eG))), .one (.c (.sl (s.map aW)))] [[.sl (a.map aL), .sl (b.map aH), .int .i64 d]] (.tup []) none [[.sl (r.1.map aL), .sl (r.2.1.map aH), .int .i64 r.2.2]] none)
abbrev eS:Type:=Int→Int→(List UInt8)→(List aA)→(List aC)→(List (List UInt8))→(List Int)→(List aF)→(List aB)→Int→Option ((List aF)×(List aB)×Int)
abbrev mD(p:eS):Prop:= ∀ {f g:Int} {j:List UInt8} {l:List aA} {m:List aC} {o:List (List UInt8)} {s:List Int} {a:List aF} {b:List aB} {d:Int} {r:(List aF)×(List aB)×Int},p f g j l m o s a b d=some r→Big Try.prog τ An (.fn 267 [.one (.ptr 1000000 0), .one (.ag [.int .i64 f, .int .i64 g, .str j, .sl (l.map aE), .sl (m.map aD)]), .one (.c (.sl (o.map eG))), .one (.c (.sl (s.map aW)))] [[.sl (a.map aL), .sl (b.map aH), .int .i64 d]] (.tup []) none [[.sl (r.1.map aL), .sl (r.2.1.map aH), .int .i64 r.2.2]] none)
def iI(n:Nat)(o:eS)(C:List (List UInt8))(D:List Int)(v:List aC):((List Int)×Int×(List aF)×(List aB)×Int)→Option (((List Int)×Int×(List aF)×(List aB)×Int)⊕(((List Int)×Int×Bool×(List aF)×(List aB)×Int)))
  | (B,s,j,l,m)=>bif decide (s<(v.length:Int))then(fQ 16 ([]:List (List UInt8)) C).bind fun y=>(fQ 8 ([]:List Int) D).bind fun z=>(ix v s).bind fun d=>(eT n d.f0 d.f1 d.f2 d.f3 d.f4 j l m y z).bind fun a=>(bJ n (9:Int) (a.2.2.2.2.2.1.length:Int) ([]:List UInt8) (0:Int) a.2.2.2.2.1 a.2.2.2.2.2.1 a.2.2.2.2.2.2.1).bind fun b=>(fQ 56 b.2.1 ([aB.mk (0:Int) (0:Int) ([]:List UInt8) ([]:List aB)]:List aB)).bind fun u=>(ix u (b.2.1.length:Int)).bind fun E=>(some (u.set (Int.toNat (b.2.1.length:Int)) (aB.mk a.1 a.2.1 a.2.2.1 a.2.2.2.1))).bind fun w=>(ix v s).bind fun f=>(o f.f5 f.f6 f.f7 f.f8 f.f9 a.2.2.2.2.2.2.2.1 a.2.2.2.2.2.2.2.2 b.1 w b.2.2).bind fun g=>(fQ 8 B ([(g.1.length:Int)]:List Int)).bind fun A=>(bJ n (10:Int) (0:Int) ([]:List UInt8) (0:Int) g.1 g.2.1 g.2.2).bind fun c=>(ix c.1 (a.2.2.2.2.1.length:Int)).bind fun p=>(some (c.1.set (Int.toNat (a.2.2.2.2.1.length:Int)) (aF.mk p.f0 p.f1 p.f2 (c.1.length:Int)))).bind fun t=>some (.inl (A,(IntKind.wrap .i64 (s+(1:Int))),t,c.2.1,c.2.2))else some (.inr (B,s,false,j,l,m))
def iH(n:Nat)(l:List Int):(Int×(List aF)×(List aB)×Int)→Option ((Int×(List aF)×(List aB)×Int)⊕((Int×Bool×(List aF)×(List aB)×Int)))
  | (d,a,b,c)=>bif decide (d<(l.length:Int))then(ix l d).bind fun j=>(ix a j).bind fun f=>(some (a.set (Int.toNat j) (aF.mk f.f0 f.f1 f.f2 (a.length:Int)))).bind fun g=>some (.inl ((IntKind.wrap .i64 (d+(1:Int))),g,b,c))else some (.inr (d,false,a,b,c))
def lQ(n:Nat)(a:eS)(m:gW)(B:Int)(C:Int)(D:List UInt8)(E:List aA)(t:List aC)(u:List (List UInt8))(v:List Int)(o:List aF)(p:List aB)(s:Int):Option ((List aF)×(List aB)×Int):=
  (loopN (iI n a u v t) n (([]:List Int),(0:Int),o,p,s)).bind fun(w,G,A,l,c,d)=>(bJ n (11:Int) (0:Int) ([]:List UInt8) (0:Int) l c d).bind fun b=>(loopN (iH n w) n ((0:Int),b.1,b.2.1,b.2.2)).bind fun(z,y,f,g,j)=>some (f,g,j)
theorem Ak{n:Nat}{d:eS}(A:mD d){c:gW}(H:mE c):mE (lQ n d c):=by
 intro b0 b1 b2 b3 b4 b5 b6 a7 a8 a9 r h
 unfold lQ at h
 refine bF Try.func278 rfl rfl<|gco 6 rfl<|dM (L:=([]:List Int)) (f:=aW) rfl rfl rfl rfl rfl rfl rfl<|goc 7 rfl<|cLp h [(8,13),(16,93)] [(10,12),(1000000,1000000)] (fun(K,N,u,v,w)=>([(8,Li aW K),(9,I64 N)],[(1000000,[.sl (u.map aL), .sl (v.map aH), .int .i64 w])])) (fun(M,Q,G,y,j,l)=>(.e 0,[(8,Li aW M),(9,I64 Q),(20,Bo G)],[(1000000,[.sl (y.map aL), .sl (j.map aH), .int .i64 l])])) rfl (fun st _ h=> ?_) (fun q h=> ?_)
 obtain⟨K,N,u,v,w⟩:=st
 unfold iI at h
 refine gco 6 rfl<|xLn rfl<|goc 2 rfl<|cIf h rfl (fun a0 h=> ?_) (fun a0 h=> ?_)
 refine gco 5 rfl<|dM (L:=([]:List (List UInt8))) (f:=eG) rfl rfl rfl rfl rfl rfl rfl<|xMv rfl<|wAp (f:=eG) h rfl rfl rfl rfl rfl rfl rfl rfl rfl (fun _=>rfl) rfl (fun a3 h=> ?_)
 refine xAz [.sl ([].map eG)] rfl<|goo 4 rfl<|dM (L:=([]:List Int)) (f:=aW) rfl rfl rfl rfl rfl rfl rfl<|xMv rfl<|wAp (f:=aW) h rfl rfl rfl rfl rfl rfl rfl rfl rfl (fun _=>rfl) rfl (fun a4 h=> ?_)
 refine xAz [.sl ([].map aW)] rfl<|goo 8 rfl<|xIx h cB rfl (fun X h=> ?_)
 refine goo 2 rfl<|xCk h (Dl ·) rfl (fun g h=> ?_)
 refine xAz [.int .i64 0, .int .i64 0, .str [], .sl ([].map aH)] rfl<|goo 8 rfl<|xLn rfl<|goo 9 rfl<|xLn rfl<|wBd [.int .i64 9, .int .i64 (g.2.2.2.2.2.1.length:Int), .str [], .int .i64 0] rfl rfl rfl rfl rfl rfl<|xC1 h (bV ·) rfl (fun V h=> ?_)
 refine goo 8 rfl<|xLn rfl<|dM (L:=([aB.mk (0:Int) (0:Int) ([]:List UInt8) ([]:List aB)]:List aB)) (f:=aH) rfl rfl rfl rfl (by simp only[List.map,eU]<;>rfl) rfl rfl<|wAp (f:=aH) h rfl rfl rfl rfl rfl rfl rfl rfl rfl (fun a=>by rw[aP]; rfl) rfl (fun a5 h=> ?_)
 refine wIs (f:=aH) h rfl rfl rfl rfl (fun a=>by rw[aP]; rfl) rfl (fun Y ke58_19 h=> ?_)
 refine LJ (f:=aH) (v':=aB.mk g.1 g.2.1 g.2.2.1 g.2.2.2.1) h ke58_19 rfl rfl rfl rfl rfl rfl rfl (by rw[aP]; rfl) (by rw[aP,eU]; rfl) (fun a2 h=> ?_)
 refine goo 10 rfl<|xIx h cB rfl (fun Z h=> ?_)
 refine goo 4 rfl<|xC1 h (A ·) rfl (fun I h=> ?_)
 refine goo 8 rfl<|xLn rfl<|dM (L:=([(I.1.length:Int)]:List Int)) (f:=aW) rfl rfl rfl rfl rfl rfl rfl<|wAp (f:=aW) h rfl rfl rfl rfl rfl rfl rfl rfl rfl (fun _=>rfl) rfl (fun a6 h=> ?_)
 refine goo 5 rfl<|wBd [.int .i64 10, .int .i64 0, .str [], .int .i64 0] rfl rfl rfl rfl rfl rfl<|xC1 h (bV ·) rfl (fun J h=> ?_)
 refine goo 5 rfl<|wLa rfl rfl rfl rfl rfl rfl rfl<|goo 5 rfl<|xLn rfl<|wIp (f:=aL) h rfl rfl rfl rfl rfl rfl (fun _=>rfl) rfl (fun B ke92_25 h=> ?_)
 refine xFd rfl<|LJ (f:=aL) (v':=aF.mk B.f0 B.f1 B.f2 (J.1.length:Int)) h ke92_25 rfl rfl rfl rfl rfl rfl rfl rfl rfl (fun R h=> ?_)
 exact geo
 exact gec
 obtain⟨M,Q,G,y,j,l⟩:=q
 refine gco 3 rfl<|wBd [.int .i64 11, .int .i64 0, .str [], .int .i64 0] rfl rfl rfl rfl rfl rfl<|xC1 h (bV ·) rfl (fun W h=> ?_)
 refine goc 5 rfl<|cLp h [(14,14),(97,117)] [(1000000,1000000)] (fun(D,b,m,o)=>([(14,I64 D)],[(1000000,[.sl (b.map aL), .sl (m.map aH), .int .i64 o])])) (fun(E,C,p,s,t)=>(.e 2,[(14,I64 E),(100,Bo C)],[(1000000,[.sl (p.map aL), .sl (s.map aH), .int .i64 t])])) rfl (fun st _ h=> ?_) (fun q h=> ?_)
 obtain⟨D,b,m,o⟩:=st
 unfold iH at h
 refine gco 5 rfl<|xLn rfl<|goc 2 rfl<|cIf h rfl (fun a1 h=> ?_) (fun a1 h=> ?_)
 refine gco 7 rfl<|wLa rfl rfl rfl rfl rfl rfl rfl<|goo 2 rfl<|xIx h nB rfl (fun U h=> ?_)
 refine goo 5 rfl<|xLn rfl<|wIp (f:=aL) h rfl rfl rfl rfl rfl rfl (fun _=>rfl) rfl (fun z ke116_39 h=> ?_)
 refine xFd rfl<|LJ (f:=aL) (v':=aF.mk z.f0 z.f1 z.f2 (b.length:Int)) h ke116_39 rfl rfl rfl rfl rfl rfl rfl rfl rfl (fun T h=> ?_)
 exact geo
 exact gec
 obtain⟨E,C,p,s,t⟩:=q
 exact en
def iF(n:Nat)(f:eS)(m:List (List UInt8))(o:List Int)(l:List aA):(Int×(List aF)×(List aB)×Int)→Option ((Int×(List aF)×(List aB)×Int)⊕((Int×Bool×(List aF)×(List aB)×Int)))
  | (j,b,c,d)=>bif decide (j<(l.length:Int))then(ix l j).bind fun a=>(f a.f0 a.f1 a.f2 a.f3 a.f4 m o b c d).bind fun g=>some (.inl ((IntKind.wrap .i64 (j+(1:Int))),g.1,g.2.1,g.2.2))else some (.inr (j,false,b,c,d))
def lP(n:Nat)(j:eS)(g:gW)(d:Int)(C:Int)(y:List UInt8)(f:List aA)(H:List aC)(z:List (List UInt8))(A:List Int)(D:List aF)(E:List aB)(G:Int):Option ((List aF)×(List aB)×Int):=
  (loopN (iF n j z A f) n ((0:Int),D,E,G)).bind fun(J,I,a,b,c)=>bif decide (d=(1:Int))then(bJ n (1:Int) C ([]:List UInt8) (0:Int) a b c).bind fun l=>some (l.1,l.2.1,l.2.2)else bif decide (d=(2:Int))then(bJ n (2:Int) (0:Int) y (0:Int) a b c).bind fun m=>some (m.1,m.2.1,m.2.2)else bif decide (d=(3:Int))then(jG n z A y).bind fun B=>(bJ n (3:Int) B ([]:List UInt8) (0:Int) a b c).bind fun o=>some (o.1,o.2.1,o.2.2)else bif decide (d=(4:Int))then(bJ n (4:Int) (f.length:Int) ([]:List UInt8) (0:Int) a b c).bind fun p=>some (p.1,p.2.1,p.2.2)else bif decide (d=(5:Int))then(bJ n (5:Int) (f.length:Int) ([]:List UInt8) (0:Int) a b c).bind fun s=>some (s.1,s.2.1,s.2.2)else bif decide (d=(6:Int))then(bJ n (6:Int) (f.length:Int) ([]:List UInt8) (0:Int) a b c).bind fun t=>some (t.1,t.2.1,t.2.2)else bif decide (d=(7:Int))then(bJ n (7:Int) (0:Int) y (0:Int) a b c).bind fun u=>some (u.1,u.2.1,u.2.2)else bif decide (d=(8:Int))then(bJ n (8:Int) (f.length:Int) y (0:Int) a b c).bind fun v=>some (v.1,v.2.1,v.2.2)else bif decide (d=(9:Int))then(g d C y f H z A a b c).bind fun w=>some (w.1,w.2.1,w.2.2)else some (a,b,c)
theorem Aj{n:Nat}{b:eS}(o:mD b){a:gW}(m:mE a):mD (lP n b a):=by
 intro a1 y s p a2 a3 a4 Y Z a0 r h
 unfold lP at h
 refine bF Try.func267 rfl rfl<|gcc 9 rfl<|cLp h [(8,8),(10,25)] [(1000000,1000000)] (fun(v,c,d,f)=>([(8,I64 v)],[(1000000,[.sl (c.map aL), .sl (d.map aH), .int .i64 f])])) (fun(w,t,g,j,l)=>(.e 0,[(8,I64 w),(14,Bo t)],[(1000000,[.sl (g.map aL), .sl (j.map aH), .int .i64 l])])) rfl (fun st _ h=> ?_) (fun q h=> ?_)
 obtain⟨v,c,d,f⟩:=st
 unfold iF at h
 refine gco 6 rfl<|xLn rfl<|goc 2 rfl<|cIf h rfl (fun L h=> ?_) (fun L h=> ?_)
 refine gco 8 rfl<|xIx h aX rfl (fun K h=> ?_)
 refine goo 3 rfl<|xC1 h (o ·) rfl (fun z h=> ?_)
 exact geo
 exact gec
 obtain⟨w,t,g,j,l⟩:=q
 refine gco 4 rfl<|xLn rfl<|goc 13 rfl<|cIf h rfl (fun M h=> ?_) (fun M h=> ?_)
 refine gco 4 rfl<|wBd [.int .i64 1, .int .i64 y, .str [], .int .i64 0] rfl rfl rfl rfl rfl rfl<|xC1 h (bV ·) rfl (fun A h=> ?_)
 exact geo
 refine gcc 5 rfl<|cIf h rfl (fun N h=> ?_) (fun N h=> ?_)
 refine gco 4 rfl<|wBd [.int .i64 2, .int .i64 0, .str s, .int .i64 0] rfl rfl rfl rfl rfl rfl<|xC1 h (bV ·) rfl (fun B h=> ?_)
 exact geo
 refine gcc 5 rfl<|cIf h rfl (fun Q h=> ?_) (fun Q h=> ?_)
 refine gco 6 rfl<|xC0 h (zT ·) rfl (fun u h=> ?_)
 refine wBd [.int .i64 3, .int .i64 u, .str [], .int .i64 0] rfl rfl rfl rfl rfl rfl<|xC1 h (bV ·) rfl (fun C h=> ?_)
 exact geo
 refine gcc 5 rfl<|cIf h rfl (fun R h=> ?_) (fun R h=> ?_)
 refine gco 3 rfl<|wBd [.int .i64 4, .int .i64 (p.length:Int), .str [], .int .i64 0] rfl rfl rfl rfl rfl rfl<|xC1 h (bV ·) rfl (fun D h=> ?_)
 exact geo
 refine gcc 5 rfl<|cIf h rfl (fun T h=> ?_) (fun T h=> ?_)
 refine gco 3 rfl<|wBd [.int .i64 5, .int .i64 (p.length:Int), .str [], .int .i64 0] rfl rfl rfl rfl rfl rfl<|xC1 h (bV ·) rfl (fun E h=> ?_)
 exact geo
 refine gcc 5 rfl<|cIf h rfl (fun U h=> ?_) (fun U h=> ?_)
 refine gco 3 rfl<|wBd [.int .i64 6, .int .i64 (p.length:Int), .str [], .int .i64 0] rfl rfl rfl rfl rfl rfl<|xC1 h (bV ·) rfl (fun G h=> ?_)
 exact geo
 refine gcc 5 rfl<|cIf h rfl (fun V h=> ?_) (fun V h=> ?_)
 refine gco 4 rfl<|wBd [.int .i64 7, .int .i64 0, .str s, .int .i64 0] rfl rfl rfl rfl rfl rfl<|xC1 h (bV ·) rfl (fun H h=> ?_)
 exact geo
 refine gcc 5 rfl<|cIf h rfl (fun W h=> ?_) (fun W h=> ?_)
 refine gco 5 rfl<|wBd [.int .i64 8, .int .i64 (p.length:Int), .str s, .int .i64 0] rfl rfl rfl rfl rfl rfl<|xC1 h (bV ·) rfl (fun I h=> ?_)
 exact geo
 refine gcc 5 rfl<|cIf h rfl (fun X h=> ?_) (fun X h=> ?_)
 refine gco 5 rfl<|xC1 h (m ·) rfl (fun J h=> ?_)
 exact geo
 exact gec
def jJ:Nat→(eS)×(gW)
  | 0=>((fun _ _ _ _ _ _ _ _ _ _=>none),(fun _ _ _ _ _ _ _ _ _ _=>none))
  | n+1=>(lP n ((jJ n).1) ((jJ n).2),lQ n ((jJ n).1) ((jJ n).2))
def eQ(n:Nat):eS:=(jJ n).1
def jL(n:Nat):gW:=(jJ n).2
theorem sI(n:Nat):mD (eQ n)∧mE (jL n):=by
  induction n with
  | zero=>exact⟨(fun h=>nomatch h),(fun h=>nomatch h)⟩
  | succ n ih=>exact⟨Aj (n:=n) (ih.1) (ih.2),Ak (n:=n) (ih.1) (ih.2)⟩
theorem Cm{n:Nat}:mD (eQ n):=(sI n).1
theorem Nt{n:Nat}:mE (jL n):=(sI n).2
theorem yG(n:Nat):eQ (n+1)=lP n (eQ n) (jL n):=rfl
theorem yH(n:Nat):jL (n+1)=lQ n (eQ n) (jL n):=rfl
abbrev BC(p:(List aY)→Option ((List aG)×(List aB))):Prop:= ∀ {a:List aY} {r:(List aG)×(List aB)},p a=some r→Big Try.prog τ An (.fn 240 [.one (.ag [.sl (a.map dN)])] [] (.one (.ag [.sl (r.1.map aK), .sl (r.2.map aH)])) none [] none)
def fE(n:Nat)(d:aY):((List Int)×Int)→Option (((List Int)×Int)⊕(((List Int)×Int×Bool)))
  | (b,a)=>bif decide (a<(d.f1.length:Int))then(fQ 8 b ([a]:List Int)).bind fun c=>some (.inl (c,(IntKind.wrap .i64 (a+(1:Int)))))else some (.inr (b,a,false))
def gY(n:Nat)(f:List aY):(Int×(List aG)×(List aB))→Option ((Int×(List aG)×(List aB))⊕((Int×Bool×(List aG)×(List aB))))
  | (d,j,l)=>bif decide (d<(f.length:Int))then(ix f d).bind fun a=>(loopN (fE n a) n (([]:List Int),(0:Int))).bind fun(m,p,o)=>(eQ n a.f2 a.f3 a.f4 a.f5 a.f6 a.f1 m ([]:List aF) l (a.f1.length:Int)).bind fun b=>(bJ n (12:Int) (0:Int) ([]:List UInt8) (0:Int) b.1 b.2.1 b.2.2).bind fun c=>(fQ 56 j ([aG.mk a.f0 (a.f1.length:Int) c.2.2 c.1]:List aG)).bind fun g=>some (.inl ((IntKind.wrap .i64 (d+(1:Int))),g,c.2.1))else some (.inr (d,false,j,l))
def iG(n:Nat)(a:List aY):Option ((List aG)×(List aB)):=
  (loopN (gY n a) n ((0:Int),([]:List aG),([]:List aB))).bind fun(f,d,b,c)=>some (b,c)
theorem yN{n:Nat}:BC (iG n):=by
 intro C r h
 unfold iG at h
 refine bF Try.func240 rfl rfl<|gco 3 rfl<|xAz [.sl ([].map aK), .sl ([].map aH)] rfl<|oRs<|wBd [.sl ([].map aK), .sl ([].map aH)] rfl rfl rfl rfl rfl rfl<|xAz [.sl ([].map aK), .sl ([].map aH)] rfl<|goc 7 rfl<|cLp h [(4,8),(10,74)] [(3,3),(5,5),(28,28)] (fun(p,t,g)=>([(4,I64 p)],[(3,[.sl (t.map aK), .sl (g.map aH)])])) (fun(s,j,u,v)=>(.e 0,[(4,I64 s),(14,Bo j)],[(3,[.sl (u.map aK), .sl (v.map aH)])])) rfl (fun st _ h=> ?_) (fun q h=> ?_)
 obtain⟨p,t,g⟩:=st
 unfold gY at h
 refine gco 6 rfl<|xLn rfl<|goc 2 rfl<|cIf h rfl (fun B h=> ?_) (fun B h=> ?_)
 refine gco 8 rfl<|xIx h Dh rfl (fun b h=> ?_)
 refine xLd rfl<|xAz [.str [], .sl ([].map eG), .int .i64 0, .int .i64 0, .str [], .sl ([].map aE), .sl ([].map aD)] rfl<|goo 8 rfl<|xLn rfl<|wBd [.sl ([].map aL), .sl (g.map aH), .int .i64 (b.f1.length:Int)] rfl rfl rfl rfl rfl rfl<|goo 5 rfl<|dM (L:=([]:List Int)) (f:=aW) rfl rfl rfl rfl rfl rfl rfl<|goc 7 rfl<|cLp h [(7,8),(30,40)] [] (fun(l,c)=>([(7,Li aW l),(8,I64 c)],[])) (fun(m,o,d)=>(.e 2,[(7,Li aW m),(8,I64 o),(34,Bo d)],[])) rfl (fun st _ h=> ?_) (fun q h=> ?_)
 obtain⟨l,c⟩:=st
 unfold fE at h
 refine gco 6 rfl<|xLn rfl<|goc 2 rfl<|cIf h rfl (fun y h=> ?_) (fun y h=> ?_)
 refine gco 6 rfl<|dM (L:=([c]:List Int)) (f:=aW) rfl rfl rfl rfl rfl rfl rfl<|wAp (f:=aW) h rfl rfl rfl rfl rfl rfl rfl rfl rfl (fun _=>rfl) rfl (fun z h=> ?_)
 exact geo
 exact gec
 obtain⟨m,o,d⟩:=q
 refine gco 8 rfl<|xC1 h (Cm ·) rfl (fun w h=> ?_)
 refine goo 4 rfl<|wBd [.int .i64 12, .int .i64 0, .str [], .int .i64 0] rfl rfl rfl rfl rfl rfl<|xC1 h (bV ·) rfl (fun a h=> ?_)
 refine goo 17 rfl<|xLn rfl<|goo 8 rfl<|wBd [.str b.f0, .int .i64 (b.f1.length:Int), .int .i64 a.2.2, .sl (a.1.map aL)] rfl rfl rfl rfl rfl rfl<|dM (L:=([aG.mk b.f0 (b.f1.length:Int) a.2.2 a.1]:List aG)) (f:=aK) rfl rfl rfl rfl rfl rfl rfl<|wAp (f:=aK) h rfl rfl rfl rfl rfl rfl rfl rfl rfl (fun _=>rfl) rfl (fun A h=> ?_)
 exact geo
 exact gec
 obtain⟨s,j,u,v⟩:=q
 exact gec
abbrev Hh(p:Int→Option (Int×Int×(List UInt8)×(List aA)×(List aC))):Prop:= ∀ {a:Int} {r:Int×Int×(List UInt8)×(List aA)×(List aC)},p a=some r→Big Try.prog τ An (.fn 197 [.one (.c (.int .i64 a))] [] (.one (.ag [.int .i64 r.1, .int .i64 r.2.1, .str r.2.2.1, .sl (r.2.2.2.1.map aE), .sl (r.2.2.2.2.map aD)])) none [] none)
def cJ(n:Nat)(a:Int):Option (Int×Int×(List UInt8)×(List aA)×(List aC)):=
  some ((1:Int),a,([]:List UInt8),([]:List aA),([]:List aC))
theorem dC{n:Nat}:Hh (cJ n):=by
 intro a r h
 unfold cJ at h
 exact bF Try.func197 rfl rfl<|cRs<|xAz [.int .i64 0, .int .i64 0, .str [], .sl ([].map aE), .sl ([].map aD)] rfl<|goo 4 rfl<|wBd [.int .i64 1, .int .i64 a, .str [], .sl ([].map aE), .sl ([].map aD)] rfl rfl rfl rfl rfl rfl<|geo
abbrev Hi(p:(List (List UInt8))→(List UInt8)→Option (Bool)):Prop:= ∀ {a:List (List UInt8)} {b:List UInt8} {r:Bool},p a b=some r→Big Try.prog τ An (.fn 96 [.one (.c (.sl (a.map eG))), .one (.c (.str b))] [] (.one (.c (.bool r))) none [] none)
def jH(n:Nat)(b:List (List UInt8))(d:List UInt8):(Int)→Option ((Int)⊕((Bool)⊕(Int×Bool)))
  | a=>bif decide (a<(b.length:Int))then(ix b a).bind fun c=>bif decide (c=d)then some (.inr (.inl true))else some (.inl (IntKind.wrap .i64 (a+(1:Int))))else some (.inr (.inr (a,false)))
def fR(n:Nat)(a:List (List UInt8))(b:List UInt8):Option (Bool):=
  (loopN (jH n a b) n (0:Int)).bind fun q=>(match q with | .inl c=>some c | .inr (d,f)=>some false)
theorem nI{n:Nat}:Hi (fR n):=by
 intro l m r h
 unfold fR at h
 refine bF Try.func96 rfl rfl<|gcc 9 rfl<|cLp h [(4,17)] [] (fun b=>([(5,I64 b)],[])) (fun q=>match q with | .inl a=>(.r,[(4,Bo a)],[]) | .inr (c,d)=>(.e 0,[(5,I64 c),(9,Bo d)],[])) rfl (fun b _ h=> ?_) (fun q h=> ?_)
 unfold jH at h
 refine gco 5 rfl<|xLn rfl<|goc 2 rfl<|cIf h rfl (fun g h=> ?_) (fun g h=> ?_)
 refine gco 7 rfl<|xIx h oA rfl (fun f h=> ?_)
 refine goc 4 rfl<|cIf h rfl (fun j h=> ?_) (fun j h=> ?_)
 exact gec
 exact gec
 exact gec
 rcases q with a | ⟨c,d⟩
 exact en
 exact gec
abbrev Fq(p:(List (List UInt8))→Option (Bool)):Prop:= ∀ {a:List (List UInt8)} {r:Bool},p a=some r→Big Try.prog τ An (.fn 72 [.one (.c (.sl (a.map eG)))] [] (.one (.c (.bool r))) none [] none)
def kQ(n:Nat)(b:List (List UInt8)):(Int)→Option ((Int)⊕((Bool)⊕(Int×Bool)))
  | a=>bif decide (a<(b.length:Int))then(sub b none (some a)).bind fun f=>(ix b a).bind fun d=>(fR n f d).bind fun c=>bif c then some (.inr (.inl false))else some (.inl (IntKind.wrap .i64 (a+(1:Int))))else some (.inr (.inr (a,false)))
def lY(n:Nat)(a:List (List UInt8)):Option (Bool):=
  (loopN (kQ n a) n (0:Int)).bind fun q=>(match q with | .inl b=>some b | .inr (c,d)=>some true)
theorem Cp{n:Nat}:Fq (lY n):=by
 intro o r h
 unfold lY at h
 refine bF Try.func72 rfl rfl<|gcc 9 rfl<|cLp h [(2,17)] [] (fun b=>([(3,I64 b)],[])) (fun q=>match q with | .inl a=>(.r,[(2,Bo a)],[]) | .inr (c,d)=>(.e 0,[(3,I64 c),(7,Bo d)],[])) rfl (fun b _ h=> ?_) (fun q h=> ?_)
 unfold kQ at h
 refine gco 5 rfl<|xLn rfl<|goc 2 rfl<|cIf h rfl (fun l h=> ?_) (fun l h=> ?_)
 refine gco 7 rfl<|wSl (rf:=eG) h rfl rfl rfl rfl .no (.so rfl) (fun _=>rfl) rfl (fun j h=> ?_)
 refine goo 2 rfl<|xIx h oA rfl (fun g h=> ?_)
 refine xLd rfl<|xC0 h (nI ·) rfl (fun f h=> ?_)
 refine oNl<|cIf h rfl (fun m h=> ?_) (fun m h=> ?_)
 exact gec
 exact gec
 exact gec
 rcases q with a | ⟨c,d⟩
 exact en
 exact gec
abbrev jP:Type:=Int→Int→(List UInt8)→(List aA)→(List aC)→Option ((List (List UInt8)))
abbrev oL(p:jP):Prop:= ∀ {a b:Int} {d:List UInt8} {f:List aA} {g:List aC} {r:(List (List UInt8))},p a b d f g=some r→Big Try.prog τ An (.fn 184 [.one (.ag [.int .i64 a, .int .i64 b, .str d, .sl (f.map aE), .sl (g.map aD)])] [] (.one (.c (.sl (r.map eG)))) none [] none)
def iK(n:Nat)(b:jP)(f:List aA):((List (List UInt8))×Int)→Option (((List (List UInt8))×Int)⊕(((List (List UInt8))×Int×Bool)))
  | (j,c)=>bif decide (c<(f.length:Int))then(ix f c).bind fun a=>(b a.f0 a.f1 a.f2 a.f3 a.f4).bind fun d=>(fQ 16 j d).bind fun g=>some (.inl (g,(IntKind.wrap .i64 (c+(1:Int)))))else some (.inr (j,c,false))
def lT(n:Nat)(a:jP)(d:Int)(l:Int)(b:List UInt8)(f:List aA)(m:List aC):Option ((List (List UInt8))):=
  bif decide (d=(3:Int))then bif !decide (b=([95]:List UInt8))then(fQ 16 ([]:List (List UInt8)) ([b]:List (List UInt8))).bind fun c=>some c else some ([]:List (List UInt8))else(loopN (iK n a f) n (([]:List (List UInt8)),(0:Int))).bind fun(g,o,j)=>some g
theorem Ao{n:Nat}{a:jP}(b:oL a):oL (lT n a):=by
 intro y z m A B r h
 unfold lT at h
 refine bF Try.func184 rfl rfl<|gco 3 rfl<|wAe (Li eG []) rfl rfl rfl rfl<|oRs<|dM (L:=([]:List (List UInt8))) (f:=eG) rfl rfl rfl rfl rfl rfl rfl<|goc 9 rfl<|cIf h rfl (fun u h=> ?_) (fun u h=> ?_)
 refine gcc 7 rfl<|cIf h rfl (fun v h=> ?_) (fun v h=> ?_)
 refine gco 4 rfl<|dM (L:=([m]:List (List UInt8))) (f:=eG) rfl rfl rfl rfl rfl rfl rfl<|wAp (f:=eG) h rfl rfl rfl rfl rfl rfl rfl rfl rfl (fun _=>rfl) rfl (fun t h=> ?_)
 exact geo
 exact gec
 refine gcc 6 rfl<|cLp h [(3,4),(18,32)] [] (fun(d,j)=>([(3,Li eG d),(4,I64 j)],[])) (fun(g,l,c)=>(.e 0,[(3,Li eG g),(4,I64 l),(22,Bo c)],[])) rfl (fun st _ h=> ?_) (fun q h=> ?_)
 obtain⟨d,j⟩:=st
 unfold iK at h
 refine gco 6 rfl<|xLn rfl<|goc 2 rfl<|cIf h rfl (fun w h=> ?_) (fun w h=> ?_)
 refine gco 8 rfl<|xIx h aX rfl (fun p h=> ?_)
 refine xLd rfl<|xC0 h (b ·) rfl (fun o h=> ?_)
 refine wAp (f:=eG) h rfl rfl rfl rfl rfl rfl rfl rfl rfl (fun _=>rfl) rfl (fun s h=> ?_)
 exact geo
 exact gec
 obtain⟨g,l,c⟩:=q
 exact gec
def xT:Nat→(jP)
  | 0=>(fun _ _ _ _ _=>none)
  | n+1=>lT n (xT n)
def fY(n:Nat):jP:=xT n
theorem At(n:Nat):oL (fY n):=by
  induction n with
  | zero=>exact(fun h=>nomatch h)
  | succ n ih=>exact Ao (n:=n) ih
theorem Cs{n:Nat}:oL (fY n):=(At n)
theorem yK(n:Nat):fY (n+1)=lT n (fY n):=rfl
abbrev JK(p:Int→Int→Int→Option (Bool)):Prop:= ∀ {a b d:Int} {r:Bool},p a b d=some r→Big Try.prog τ An (.fn 69 [.one (.c (.int .i64 a)), .one (.c (.int .i64 b)), .one (.c (.int .i64 d))] [] (.one (.c (.bool r))) none [] none)
def dB(n:Nat)(a:Int)(b:Int)(c:Int):Option (Bool):=
  (bif decide (b≤a)then some (decide (a≤c))else some false).bind fun d=>some d
theorem dY{n:Nat}:JK (dB n):=by
 intro c d f r h
 unfold dB at h
 refine bF Try.func69 rfl rfl<|gco 6 rfl<|oJn h [(6,14)] [] (fun a=>(.n,[(6,Bo a)],[])) (fun _ h=> ?_) (fun a h=> ?_)
 refine goo 4 rfl<|oIf 10 h rfl (fun b h=> ?_) (fun b h=> ?_)
 exact geo
 exact geo
 exact gec
abbrev Dv(p:Int→Option (Bool)):Prop:= ∀ {a:Int} {r:Bool},p a=some r→Big Try.prog τ An (.fn 253 [.one (.c (.int .u8 a))] [] (.one (.c (.bool r))) none [] none)
def kJ(n:Nat)(a:Int):Option (Bool):=
  ((dB n (IntKind.wrap .i64 a) (65:Int) (90:Int)).bind fun b=>bif b then some true else some (decide (a=(95:Int)))).bind fun c=>some c
theorem Ay{n:Nat}:Dv (kJ n):=by
 intro d r h
 unfold kJ at h
 refine bF Try.func253 rfl rfl<|gco 6 rfl<|oJn h [(2,9)] [] (fun a=>(.n,[(2,Bo a)],[])) (fun _ h=> ?_) (fun a h=> ?_)
 refine goo 2 rfl<|xC0 h (dY ·) rfl (fun b h=> ?_)
 refine xMv rfl<|oIf 6 h rfl (fun c h=> ?_) (fun c h=> ?_)
 exact geo
 exact geo
 exact gec
abbrev Du(p:Int→Option (Bool)):Prop:= ∀ {a:Int} {r:Bool},p a=some r→Big Try.prog τ An (.fn 254 [.one (.c (.int .u8 a))] [] (.one (.c (.bool r))) none [] none)
def kI(n:Nat)(b:Int):Option (Bool):=
  (dB n (IntKind.wrap .i64 b) (97:Int) (122:Int)).bind fun a=>some a
theorem Ax{n:Nat}:Du (kI n):=by
 intro b r h
 unfold kI at h
 refine bF Try.func254 rfl rfl<|gco 8 rfl<|xC0 h (dY ·) rfl (fun a h=> ?_)
 exact geo
abbrev Dw(p:Int→Option (Bool)):Prop:= ∀ {a:Int} {r:Bool},p a=some r→Big Try.prog τ An (.fn 255 [.one (.c (.int .u8 a))] [] (.one (.c (.bool r))) none [] none)
def kK(n:Nat)(b:Int):Option (Bool):=
  (dB n (IntKind.wrap .i64 b) (48:Int) (57:Int)).bind fun a=>some a
theorem Az{n:Nat}:Dw (kK n):=by
 intro b r h
 unfold kK at h
 refine bF Try.func255 rfl rfl<|gco 8 rfl<|xC0 h (dY ·) rfl (fun a h=> ?_)
 exact geo
abbrev Dt(p:(List UInt8)→Option (Bool)):Prop:= ∀ {a:List UInt8} {r:Bool},p a=some r→Big Try.prog τ An (.fn 223 [.one (.c (.str a))] [] (.one (.c (.bool r))) none [] none)
def jU(n:Nat)(b:List UInt8):(Int)→Option ((Int)⊕((Bool)⊕(Int×Bool)))
  | a=>bif decide (a<(b.length:Int))then((ixs b a).bind fun l=>(kJ n l).bind fun j=>bif !j then bif decide (a=(0:Int))then some true else(ixs b a).bind fun f=>(kI n f).bind fun c=>bif !c then(ixs b a).bind fun g=>(kK n g).bind fun d=>some (!d)else some false else some false).bind fun m=>bif m then some (.inr (.inl false))else some (.inl (IntKind.wrap .i64 (a+(1:Int))))else some (.inr (.inr (a,false)))
def kH(n:Nat)(b:List UInt8):Option (Bool):=
  (loopN (jU n b) n (0:Int)).bind fun q=>(match q with | .inl c=>some c | .inr (d,f)=>(dB n (b.length:Int) (1:Int) (20:Int)).bind fun a=>some a)
theorem Aw{n:Nat}:Dt (kH n):=by
 intro z r h
 unfold kH at h
 refine bF Try.func223 rfl rfl<|gcc 9 rfl<|cLp h [(2,32)] [] (fun c=>([(3,I64 c)],[])) (fun q=>match q with | .inl b=>(.r,[(2,Bo b)],[]) | .inr (d,f)=>(.e 0,[(3,I64 d),(7,Bo f)],[])) rfl (fun c _ h=> ?_) (fun q h=> ?_)
 unfold jU at h
 refine gco 5 rfl<|xLs rfl<|goc 2 rfl<|cIf h rfl (fun w h=> ?_) (fun w h=> ?_)
 refine gco 5 rfl<|oJn h [(10,32)] [] (fun a=>(.n,[(32,Bo a)],[])) (fun _ h=> ?_) (fun a h=> ?_)
 refine goo 2 rfl<|LK h rfl rfl rfl rfl rfl (fun v h=> ?_)
 refine xC0 h (Ay ·) rfl (fun u h=> ?_)
 refine goo 2 rfl<|oIf 15 h rfl (fun y h=> ?_) (fun y h=> ?_)
 refine goo 3 rfl<|oIf 18 h rfl (fun p h=> ?_) (fun p h=> ?_)
 exact geo
 refine goo 2 rfl<|LK h rfl rfl rfl rfl rfl (fun m h=> ?_)
 refine xC0 h (Ax ·) rfl (fun g h=> ?_)
 refine goo 2 rfl<|oIf 24 h rfl (fun s h=> ?_) (fun s h=> ?_)
 refine goo 2 rfl<|LK h rfl rfl rfl rfl rfl (fun o h=> ?_)
 refine xC0 h (Az ·) rfl (fun j h=> ?_)
 exact geo
 exact geo
 exact geo
 refine cIf h rfl (fun t h=> ?_) (fun t h=> ?_)
 exact gec
 exact gec
 exact gec
 rcases q with b | ⟨d,f⟩
 exact en
 refine gco 3 rfl<|xLs rfl<|xC0 h (dY ·) rfl (fun l h=> ?_)
 exact geo
abbrev Fv(p:(List UInt8)→Option (Bool)):Prop:= ∀ {a:List UInt8} {r:Bool},p a=some r→Big Try.prog τ An (.fn 194 [.one (.c (.str a))] [] (.one (.c (.bool r))) none [] none)
def kW(n:Nat)(d:List UInt8):(Int)→Option ((Int)⊕((Bool)⊕(Int×Bool)))
  | a=>bif decide (a<(d.length:Int))then(ixs d a).bind fun b=>(dB n (IntKind.wrap .i64 b) (97:Int) (122:Int)).bind fun f=>(bif !f then bif decide (a=(0:Int))then some true else(dB n (IntKind.wrap .i64 b) (48:Int) (57:Int)).bind fun c=>bif !c then some (!decide ((IntKind.wrap .i64 b)=(95:Int)))else some false else some false).bind fun g=>bif g then some (.inr (.inl false))else some (.inl (IntKind.wrap .i64 (a+(1:Int))))else some (.inr (.inr (a,false)))
def lZ(n:Nat)(b:List UInt8):Option (Bool):=
  (loopN (kW n b) n (0:Int)).bind fun q=>(match q with | .inl c=>some c | .inr (d,f)=>(dB n (b.length:Int) (1:Int) (20:Int)).bind fun a=>some a)
theorem Cu{n:Nat}:Fv (lZ n):=by
 intro v r h
 unfold lZ at h
 refine bF Try.func194 rfl rfl<|gcc 9 rfl<|cLp h [(2,32)] [] (fun c=>([(3,I64 c)],[])) (fun q=>match q with | .inl b=>(.r,[(2,Bo b)],[]) | .inr (d,f)=>(.e 0,[(3,I64 d),(9,Bo f)],[])) rfl (fun c _ h=> ?_) (fun q h=> ?_)
 unfold kW at h
 refine gco 5 rfl<|xLs rfl<|goc 2 rfl<|cIf h rfl (fun t h=> ?_) (fun t h=> ?_)
 refine gco 7 rfl<|LK h rfl rfl rfl rfl rfl (fun s h=> ?_)
 refine goo 6 rfl<|xC0 h (dY ·) rfl (fun p h=> ?_)
 refine goo 4 rfl<|oJn h [(18,32)] [] (fun a=>(.n,[(32,Bo a)],[])) (fun _ h=> ?_) (fun a h=> ?_)
 refine goo 3 rfl<|oIf 20 h rfl (fun u h=> ?_) (fun u h=> ?_)
 refine goo 3 rfl<|oIf 23 h rfl (fun l h=> ?_) (fun l h=> ?_)
 exact geo
 refine xMv rfl<|xC0 h (dY ·) rfl (fun g h=> ?_)
 refine goo 2 rfl<|oIf 27 h rfl (fun m h=> ?_) (fun m h=> ?_)
 exact geo
 exact geo
 exact geo
 refine cIf h rfl (fun o h=> ?_) (fun o h=> ?_)
 exact gec
 exact gec
 exact gec
 rcases q with b | ⟨d,f⟩
 exact en
 refine gco 3 rfl<|xLs rfl<|xC0 h (dY ·) rfl (fun j h=> ?_)
 exact geo
abbrev zV(p:(List UInt8)→Option (Bool)):Prop:= ∀ {a:List UInt8} {r:Bool},p a=some r→Big Try.prog τ An (.fn 256 [.one (.c (.str a))] [] (.one (.c (.bool r))) none [] none)
def jT(n:Nat)(a:List UInt8):Option (Bool):=
  (bif decide (a=([99,97,115,101]:List UInt8))then some true else bif decide (a=([111,102]:List UInt8))then some true else some (decide (a=([101,110,100]:List UInt8)))).bind fun b=>some b
theorem wL{n:Nat}:zV (jT n):=by
 intro d r h
 unfold jT at h
 refine bF Try.func256 rfl rfl<|gco 6 rfl<|oJn h [(2,12)] [] (fun a=>(.n,[(2,Bo a)],[])) (fun _ h=> ?_) (fun a h=> ?_)
 refine goo 3 rfl<|oIf 5 h rfl (fun b h=> ?_) (fun b h=> ?_)
 exact geo
 refine goo 4 rfl<|oIf 9 h rfl (fun c h=> ?_) (fun c h=> ?_)
 exact geo
 exact geo
 exact gec
abbrev Fr(p:(List UInt8)→Option (Bool)):Prop:= ∀ {a:List UInt8} {r:Bool},p a=some r→Big Try.prog τ An (.fn 224 [.one (.c (.str a))] [] (.one (.c (.bool r))) none [] none)
def jN(n:Nat)(a:List UInt8):Option (Bool):=
  ((lZ n a).bind fun b=>bif b then(jT n a).bind fun c=>some (!c)else some false).bind fun d=>some d
theorem tX{n:Nat}:Fr (jN n):=by
 intro f r h
 unfold jN at h
 refine bF Try.func224 rfl rfl<|gco 6 rfl<|oJn h [(2,9)] [] (fun a=>(.n,[(2,Bo a)],[])) (fun _ h=> ?_) (fun a h=> ?_)
 refine xMv rfl<|xC0 h (Cu ·) rfl (fun b h=> ?_)
 refine xMv rfl<|oIf 5 h rfl (fun d h=> ?_) (fun d h=> ?_)
 refine xMv rfl<|xC0 h (wL ·) rfl (fun c h=> ?_)
 exact geo
 exact geo
 exact gec
abbrev JI(p:(List UInt8)→Option (Bool)):Prop:= ∀ {a:List UInt8} {r:Bool},p a=some r→Big Try.prog τ An (.fn 260 [.one (.c (.str a))] [] (.one (.c (.bool r))) none [] none)
def oY(n:Nat)(a:List UInt8):Option (Bool):=
  (bif decide (a=([43]:List UInt8))then some true else bif decide (a=([45]:List UInt8))then some true else bif decide (a=([42]:List UInt8))then some true else bif decide (a=([61,61]:List UInt8))then some true else some (decide (a=([60]:List UInt8)))).bind fun b=>some b
theorem Fi{n:Nat}:JI (oY n):=by
 intro g r h
 unfold oY at h
 refine bF Try.func260 rfl rfl<|gco 6 rfl<|oJn h [(2,20)] [] (fun a=>(.n,[(2,Bo a)],[])) (fun _ h=> ?_) (fun a h=> ?_)
 refine goo 3 rfl<|oIf 5 h rfl (fun b h=> ?_) (fun b h=> ?_)
 exact geo
 refine goo 4 rfl<|oIf 9 h rfl (fun c h=> ?_) (fun c h=> ?_)
 exact geo
 refine goo 4 rfl<|oIf 13 h rfl (fun d h=> ?_) (fun d h=> ?_)
 exact geo
 refine goo 4 rfl<|oIf 17 h rfl (fun f h=> ?_) (fun f h=> ?_)
 exact geo
 exact geo
 exact gec
abbrev Dr(p:Int→Int→(List UInt8)→(List aA)→(List aC)→Bool→Option (Bool)):Prop:= ∀ {a b:Int} {d:List UInt8} {f:List aA} {g:List aC} {j:Bool} {r:Bool},p a b d f g j=some r→Big Try.prog τ An (.fn 232 [.one (.ag [.int .i64 a, .int .i64 b, .str d, .sl (f.map aE), .sl (g.map aD)]), .one (.c (.bool j))] [] (.one (.c (.bool r))) none [] none)
def kG(n:Nat)(a:Int)(f:Int)(b:List UInt8)(c:List aA)(s:List aC)(d:Bool):Option (Bool):=
  (bif !decide (a=(9:Int))then bif decide ((0:Int)<(s.length:Int))then some true else bif !decide (a=(1:Int))then some (!decide (f=(0:Int)))else some false else bif !decide (a=(1:Int))then some (!decide (f=(0:Int)))else some false).bind fun u=>bif u then some false else bif decide (a=(1:Int))then((dB n f (0:Int) (1000000000000:Int)).bind fun t=>bif t then bif decide (b=([]:List UInt8))then some (decide ((c.length:Int)=(0:Int)))else some false else some false).bind fun E=>some E else bif decide (a=(2:Int))then((jN n b).bind fun l=>bif l then some (decide ((c.length:Int)=(0:Int)))else some false).bind fun v=>some v else bif decide (a=(3:Int))then((kH n b).bind fun m=>bif m then bif decide ((c.length:Int)=(0:Int))then bif d then some true else some (!decide (b=([95]:List UInt8)))else some false else some false).bind fun w=>some w else bif decide (a=(4:Int))then(bif decide (b=([]:List UInt8))then some (decide ((c.length:Int)≤(20:Int)))else some false).bind fun y=>some y else bif decide (a=(5:Int))then(bif decide (b=([]:List UInt8))then some (decide ((c.length:Int)≤(20:Int)))else some false).bind fun z=>some z else bif decide (a=(6:Int))then(bif decide (b=([]:List UInt8))then(dB n (c.length:Int) (2:Int) (6:Int)).bind fun o=>some o else some false).bind fun A=>some A else bif decide (a=(7:Int))then(bif !d then(oY n b).bind fun p=>bif p then some (decide ((c.length:Int)=(2:Int)))else some false else some false).bind fun B=>some B else bif decide (a=(8:Int))then(bif !d then(jN n b).bind fun g=>bif g then some (decide ((c.length:Int)≤(4:Int)))else some false else some false).bind fun C=>some C else bif decide (a=(9:Int))then(bif !d then bif decide (b=([]:List UInt8))then bif decide ((c.length:Int)=(1:Int))then(dB n (s.length:Int) (1:Int) (6:Int)).bind fun j=>some j else some false else some false else some false).bind fun D=>some D else some false
theorem Av{n:Nat}:Dr (kG n):=by
 intro a7 a8 a9 b0 b1 b2 r h
 unfold kG at h
 refine bF Try.func232 rfl rfl<|gco 9 rfl<|xLn rfl<|goo 5 rfl<|oJn h [(9,27)] [] (fun a=>(.n,[(27,Bo a)],[])) (fun _ h=> ?_) (fun a h=> ?_)
 refine goo 4 rfl<|oIf 12 h rfl (fun q2 h=> ?_) (fun q2 h=> ?_)
 refine goo 2 rfl<|xLn rfl<|goo 3 rfl<|oIf 18 h rfl (fun q3 h=> ?_) (fun q3 h=> ?_)
 exact geo
 refine goo 4 rfl<|oIf 22 h rfl (fun q4 h=> ?_) (fun q4 h=> ?_)
 exact geo
 exact geo
 refine goo 10 rfl<|oIf 22 h rfl (fun q5 h=> ?_) (fun q5 h=> ?_)
 exact geo
 exact geo
 refine cIf h rfl (fun q6 h=> ?_) (fun q6 h=> ?_)
 exact gec
 refine gcc 13 rfl<|cIf h rfl (fun q7 h=> ?_) (fun q7 h=> ?_)
 refine cRs<|oJn h [(4,4),(32,43)] [] (fun o=>(.n,[(4,Bo o)],[])) (fun _ h=> ?_) (fun o h=> ?_)
 refine goo 2 rfl<|xC0 h (dY ·) rfl (fun a0 h=> ?_)
 refine xMv rfl<|oIf 35 h rfl (fun y h=> ?_) (fun y h=> ?_)
 refine goo 5 rfl<|oIf 40 h rfl (fun z h=> ?_) (fun z h=> ?_)
 exact geo
 exact geo
 exact geo
 exact gec
 refine gcc 5 rfl<|cIf h rfl (fun A h=> ?_) (fun A h=> ?_)
 refine cRs<|oJn h [(4,4),(46,52)] [] (fun b=>(.n,[(4,Bo b)],[])) (fun _ h=> ?_) (fun b h=> ?_)
 refine goo 2 rfl<|xC0 h (tX ·) rfl (fun t h=> ?_)
 refine xMv rfl<|oIf 49 h rfl (fun B h=> ?_) (fun B h=> ?_)
 exact geo
 exact geo
 exact gec
 refine gcc 5 rfl<|cIf h rfl (fun C h=> ?_) (fun C h=> ?_)
 refine cRs<|oJn h [(4,4),(55,69)] [] (fun c=>(.n,[(4,Bo c)],[])) (fun _ h=> ?_) (fun c h=> ?_)
 refine goo 2 rfl<|xC0 h (Aw ·) rfl (fun u h=> ?_)
 refine xMv rfl<|oIf 58 h rfl (fun D h=> ?_) (fun D h=> ?_)
 refine goo 4 rfl<|oIf 62 h rfl (fun E h=> ?_) (fun E h=> ?_)
 refine goo 2 rfl<|oIf 64 h rfl (fun G h=> ?_) (fun G h=> ?_)
 exact geo
 exact geo
 exact geo
 exact geo
 exact gec
 refine gcc 6 rfl<|cIf h rfl (fun H h=> ?_) (fun H h=> ?_)
 refine gco 4 rfl<|oJn h [(4,4),(73,79)] [] (fun d=>(.n,[(4,Bo d)],[])) (fun _ h=> ?_) (fun d h=> ?_)
 refine goo 4 rfl<|oIf 76 h rfl (fun I h=> ?_) (fun I h=> ?_)
 exact geo
 exact geo
 exact gec
 refine gcc 4 rfl<|cIf h rfl (fun J h=> ?_) (fun J h=> ?_)
 refine cRs<|oJn h [(4,4),(73,79)] [] (fun f=>(.n,[(4,Bo f)],[])) (fun _ h=> ?_) (fun f h=> ?_)
 refine goo 4 rfl<|oIf 76 h rfl (fun K h=> ?_) (fun K h=> ?_)
 exact geo
 exact geo
 exact gec
 refine gcc 5 rfl<|cIf h rfl (fun L h=> ?_) (fun L h=> ?_)
 refine cRs<|oJn h [(4,4),(82,88)] [] (fun g=>(.n,[(4,Bo g)],[])) (fun _ h=> ?_) (fun g h=> ?_)
 refine goo 4 rfl<|oIf 85 h rfl (fun M h=> ?_) (fun M h=> ?_)
 refine xMv rfl<|xC0 h (dY ·) rfl (fun v h=> ?_)
 exact geo
 exact geo
 exact gec
 refine gcc 5 rfl<|cIf h rfl (fun N h=> ?_) (fun N h=> ?_)
 refine cRs<|oJn h [(4,4),(91,101)] [] (fun j=>(.n,[(4,Bo j)],[])) (fun _ h=> ?_) (fun j h=> ?_)
 refine goo 3 rfl<|oIf 93 h rfl (fun Q h=> ?_) (fun Q h=> ?_)
 refine goo 2 rfl<|xC0 h (Fi ·) rfl (fun w h=> ?_)
 refine goo 2 rfl<|oIf 98 h rfl (fun R h=> ?_) (fun R h=> ?_)
 exact geo
 exact geo
 exact geo
 exact gec
 refine gcc 5 rfl<|cIf h rfl (fun T h=> ?_) (fun T h=> ?_)
 refine cRs<|oJn h [(4,4),(104,114)] [] (fun l=>(.n,[(4,Bo l)],[])) (fun _ h=> ?_) (fun l h=> ?_)
 refine goo 3 rfl<|oIf 106 h rfl (fun U h=> ?_) (fun U h=> ?_)
 refine goo 2 rfl<|xC0 h (tX ·) rfl (fun p h=> ?_)
 refine goo 2 rfl<|oIf 111 h rfl (fun V h=> ?_) (fun V h=> ?_)
 exact geo
 exact geo
 exact geo
 exact gec
 refine gcc 5 rfl<|cIf h rfl (fun W h=> ?_) (fun W h=> ?_)
 refine cRs<|oJn h [(4,4),(117,133)] [] (fun m=>(.n,[(4,Bo m)],[])) (fun _ h=> ?_) (fun m h=> ?_)
 refine goo 3 rfl<|oIf 119 h rfl (fun X h=> ?_) (fun X h=> ?_)
 refine goo 5 rfl<|oIf 124 h rfl (fun Y h=> ?_) (fun Y h=> ?_)
 refine goo 4 rfl<|oIf 128 h rfl (fun Z h=> ?_) (fun Z h=> ?_)
 refine goo 2 rfl<|xLn rfl<|xC0 h (dY ·) rfl (fun s h=> ?_)
 exact geo
 exact geo
 exact geo
 exact geo
 exact gec
 exact gec
abbrev gX:Type:=Int→Int→(List UInt8)→(List aA)→(List aC)→Bool→Int→Int→Option (Int)
abbrev oJ(p:gX):Prop:= ∀ {a b:Int} {d:List UInt8} {f:List aA} {g:List aC} {j:Bool} {l m:Int} {r:Int},p a b d f g j l m=some r→Big Try.prog τ An (.fn 183 [.one (.ag [.int .i64 a, .int .i64 b, .str d, .sl (f.map aE), .sl (g.map aD)]), .one (.c (.bool j)), .one (.c (.int .i64 l)), .one (.c (.int .i64 m))] [] (.one (.c (.int .i64 r))) none [] none)
def eM(n:Nat)(b:gX)(l:Bool)(m:Int)(g:List aA):(Int×Int)→Option ((Int×Int)⊕((Int×Int×Bool)))
  | (d,c)=>(bif decide (c<(g.length:Int))then some (decide ((0:Int)≤d))else some false).bind fun j=>bif j then(ix g c).bind fun a=>(b a.f0 a.f1 a.f2 a.f3 a.f4 l (IntKind.wrap .i64 (m - (1:Int))) d).bind fun f=>some (.inl (f,(IntKind.wrap .i64 (c+(1:Int)))))else some (.inr (d,c,false))
def eK(n:Nat)(b:gX)(s:Int)(j:List aC):(Int×Int)→Option ((Int×Int)⊕((Int)⊕(Int×Int×Bool)))
  | (l,a)=>(bif decide (a<(j.length:Int))then some (decide ((0:Int)≤l))else some false).bind fun t=>bif t then(((ix j a).bind fun c=>(fY n c.f0 c.f1 c.f2 c.f3 c.f4).bind fun m=>(lY n m).bind fun o=>bif !o then some (.inl ((-1):Int))else(ix j a).bind fun d=>(b d.f0 d.f1 d.f2 d.f3 d.f4 true (IntKind.wrap .i64 (s - (1:Int))) l).bind fun g=>bif decide ((0:Int)≤g)then(ix j a).bind fun f=>(b f.f5 f.f6 f.f7 f.f8 f.f9 false (IntKind.wrap .i64 (s - (1:Int))) g).bind fun p=>some (.inr p)else some (.inr g):Option ((Int)⊕(Int)))).bind fun q=>(match q with | .inl v=>some (.inr (.inl v)) | .inr u=>some (.inl (u,(IntKind.wrap .i64 (a+(1:Int))))))else some (.inr (.inr (l,a,false)))
def lR(n:Nat)(a:gX)(p:Int)(s:Int)(t:List UInt8)(c:List aA)(d:List aC)(f:Bool)(b:Int)(g:Int):Option (Int):=
  (bif decide (b<(1:Int))then some true else bif decide (g<(1:Int))then some true else(kG n p s t c d f).bind fun j=>some (!j)).bind fun l=>bif l then some ((-1):Int)else(loopN (eM n a f b c) n ((IntKind.wrap .i64 (g - (1:Int))),(0:Int))).bind fun(u,z,w)=>(loopN (eK n a b d) n (u,(0:Int))).bind fun q=>(match q with | .inl o=>some o | .inr (m,v,y)=>some m)
theorem Al{n:Nat}{b:gX}(a:oJ b):oJ (lR n b):=by
 intro X Y Z a0 a1 a2 a3 a4 r h
 unfold lR at h
 refine bF Try.func183 rfl rfl<|gco 8 rfl<|oJn h [(11,22)] [] (fun m=>(.n,[(22,Bo m)],[])) (fun _ h=> ?_) (fun m h=> ?_)
 refine goo 3 rfl<|oIf 13 h rfl (fun U h=> ?_) (fun U h=> ?_)
 exact geo
 refine goo 4 rfl<|oIf 17 h rfl (fun V h=> ?_) (fun V h=> ?_)
 exact geo
 refine goo 2 rfl<|xC0 h (Av ·) rfl (fun T h=> ?_)
 exact geo
 refine cIf h rfl (fun W h=> ?_) (fun W h=> ?_)
 exact gec
 refine gcc 12 rfl<|cLp h [(3,3),(9,9),(25,45)] [] (fun(v,y)=>([(3,I64 v),(9,I64 y)],[])) (fun(w,z,f)=>(.e 0,[(3,I64 w),(9,I64 z),(33,Bo f)],[])) rfl (fun st _ h=> ?_) (fun q h=> ?_)
 obtain⟨v,y⟩:=st
 unfold eM at h
 refine gco 3 rfl<|oJn h [(25,33)] [] (fun g=>(.n,[(33,Bo g)],[])) (fun _ h=> ?_) (fun g h=> ?_)
 refine goo 3 rfl<|xLn rfl<|goo 2 rfl<|oIf 30 h rfl (fun K h=> ?_) (fun K h=> ?_)
 exact geo
 exact geo
 refine cIf h rfl (fun L h=> ?_) (fun L h=> ?_)
 refine gco 7 rfl<|xIx h aX rfl (fun G h=> ?_)
 refine goo 5 rfl<|xC0 h (a ·) rfl (fun A h=> ?_)
 exact geo
 exact gec
 obtain⟨w,z,f⟩:=q
 refine gcc 5 rfl<|cLp h [(3,3),(8,8),(10,10),(46,87)] [] (fun(o,c)=>([(3,I64 o),(10,I64 c)],[])) (fun q=>match q with | .inl t=>(.r,[(8,I64 t)],[]) | .inr (p,d,j)=>(.e 2,[(3,I64 p),(10,I64 d),(54,Bo j)],[])) rfl (fun st _ h=> ?_) (fun q h=> ?_)
 obtain⟨o,c⟩:=st
 unfold eK at h
 refine gco 3 rfl<|oJn h [(46,54)] [] (fun l=>(.n,[(54,Bo l)],[])) (fun _ h=> ?_) (fun l h=> ?_)
 refine goo 3 rfl<|xLn rfl<|goo 2 rfl<|oIf 51 h rfl (fun M h=> ?_) (fun M h=> ?_)
 exact geo
 exact geo
 refine cIf h rfl (fun N h=> ?_) (fun N h=> ?_)
 refine gcc 2 rfl<|cJn h [(3,3),(8,8),(57,87)] [] (fun q=>match q with | .inl u=>(.r,[(8,I64 u)],[]) | .inr s=>(.n,[(3,I64 s)],[])) (fun _ h=> ?_) (fun q h=> ?_)
 refine gco 7 rfl<|xIx h cB rfl (fun H h=> ?_)
 refine goo 2 rfl<|xC0 h (Cs ·) rfl (fun B h=> ?_)
 refine xC0 h (Cp ·) rfl (fun C h=> ?_)
 refine goc 2 rfl<|cIf h rfl (fun Q h=> ?_) (fun Q h=> ?_)
 exact gec
 refine gco 6 rfl<|xIx h cB rfl (fun I h=> ?_)
 refine goo 5 rfl<|xC0 h (a ·) rfl (fun D h=> ?_)
 refine goc 7 rfl<|cIf h rfl (fun R h=> ?_) (fun R h=> ?_)
 refine gco 4 rfl<|xIx h cB rfl (fun J h=> ?_)
 refine goo 5 rfl<|xC0 h (a ·) rfl (fun E h=> ?_)
 exact geo
 exact gec
 rcases q with u | s
 exact en
 exact gec
 exact gec
 rcases q with t | ⟨p,d,j⟩
 exact en
 exact gec
def xR:Nat→(gX)
  | 0=>(fun _ _ _ _ _ _ _ _=>none)
  | n+1=>lR n (xR n)
def cN(n:Nat):gX:=xR n
theorem Ar(n:Nat):oJ (cN n):=by
  induction n with
  | zero=>exact(fun h=>nomatch h)
  | succ n ih=>exact Al (n:=n) ih
theorem Cq{n:Nat}:oJ (cN n):=(Ar n)
theorem yI(n:Nat):cN (n+1)=lR n (cN n):=rfl
abbrev Fu(p:Int→Int→(List UInt8)→(List aA)→(List aC)→Option (Bool)):Prop:= ∀ {a b:Int} {d:List UInt8} {f:List aA} {g:List aC} {r:Bool},p a b d f g=some r→Big Try.prog τ An (.fn 225 [.one (.ag [.int .i64 a, .int .i64 b, .str d, .sl (f.map aE), .sl (g.map aD)])] [] (.one (.c (.bool r))) none [] none)
def oF(n:Nat)(b:Int)(c:Int)(d:List UInt8)(f:List aA)(g:List aC):Option (Bool):=
  (cN n b c d f g false (10:Int) (300:Int)).bind fun a=>some (decide ((0:Int)≤a))
theorem Ct{n:Nat}:Fu (oF n):=by
 intro b c d f g r h
 unfold oF at h
 refine bF Try.func225 rfl rfl<|gco 8 rfl<|xC0 h (Cq ·) rfl (fun a h=> ?_)
 exact geo
abbrev JJ(p:(List UInt8)→Option (Int×Int×(List UInt8)×(List aA)×(List aC))):Prop:= ∀ {a:List UInt8} {r:Int×Int×(List UInt8)×(List aA)×(List aC)},p a=some r→Big Try.prog τ An (.fn 198 [.one (.c (.str a))] [] (.one (.ag [.int .i64 r.1, .int .i64 r.2.1, .str r.2.2.1, .sl (r.2.2.2.1.map aE), .sl (r.2.2.2.2.map aD)])) none [] none)
def kP(n:Nat)(a:List UInt8):Option (Int×Int×(List UInt8)×(List aA)×(List aC)):=
  some ((2:Int),(0:Int),a,([]:List aA),([]:List aC))
theorem rT{n:Nat}:JJ (kP n):=by
 intro a r h
 unfold kP at h
 exact bF Try.func198 rfl rfl<|cRs<|xAz [.int .i64 0, .int .i64 0, .str [], .sl ([].map aE), .sl ([].map aD)] rfl<|goo 4 rfl<|wBd [.int .i64 2, .int .i64 0, .str a, .sl ([].map aE), .sl ([].map aD)] rfl rfl rfl rfl rfl rfl<|geo
abbrev jE:Type:=Int→(List Int)→Int→Int→(List (List UInt8))→Option (Int×Int×(List UInt8)×(List aA)×(List aC)×(List Int)×Int×Int×(List (List UInt8)))
abbrev qA(p:jE):Prop:= ∀ {g:Int} {a:List Int} {b d:Int} {f:List (List UInt8)} {r:Int×Int×(List UInt8)×(List aA)×(List aC)×(List Int)×Int×Int×(List (List UInt8))},p g a b d f=some r→Big Try.prog τ An (.fn 128 [.one (.ptr 1000000 0), .one (.c (.int .i64 g)), .one (.ptr 1000001 0)] [[.sl (a.map rI_u8), .int .i64 b, .int .i64 d],[.sl (f.map eG)]] (.one (.ag [.int .i64 r.1, .int .i64 r.2.1, .str r.2.2.1, .sl (r.2.2.2.1.map aE), .sl (r.2.2.2.2.1.map aD)])) none [[.sl (r.2.2.2.2.2.1.map rI_u8), .int .i64 r.2.2.2.2.2.2.1, .int .i64 r.2.2.2.2.2.2.2.1],[.sl (r.2.2.2.2.2.2.2.2.map eG)]] none)
def mH(n:Nat)(g:jE)(y:Int):(Int×Int×Int×(List UInt8)×(List aA)×(List aC)×(List Int)×Int×Int×(List (List UInt8)))→Option ((Int×Int×Int×(List UInt8)×(List aA)×(List aC)×(List Int)×Int×Int×(List (List UInt8)))⊕((Int×Bool×Int×Int×(List UInt8)×(List aA)×(List aC)×(List Int)×Int×Int×(List (List UInt8)))))
  | (j,s,t,u,v,w,b,c,d,f)=>bif decide (j<(2:Int))then((bif decide ((0:Int)<y)then(g (IntKind.wrap .i64 (y - (1:Int))) b c d f).bind fun a=>(fQ 80 v ([aA.mk a.1 a.2.1 a.2.2.1 a.2.2.2.1 a.2.2.2.2.1]:List aA)).bind fun z=>some (s,t,u,z,w,a.2.2.2.2.2.1,a.2.2.2.2.2.2.1,a.2.2.2.2.2.2.2.1,a.2.2.2.2.2.2.2.2)else(fQ 80 v ([aA.mk (3:Int) (0:Int) ([95]:List UInt8) ([]:List aA) ([]:List aC)]:List aA)).bind fun A=>some (s,t,u,A,w,b,c,d,f):Option ((Int×Int×(List UInt8)×(List aA)×(List aC)×(List Int)×Int×Int×(List (List UInt8)))))).bind fun(B,C,D,E,G,l,m,o,p)=>some (.inl ((IntKind.wrap .i64 (j+(1:Int))),B,C,D,E,G,l,m,o,p))else some (.inr (j,false,s,t,u,v,w,b,c,d,f))
def mG(n:Nat)(g:jE)(z:Int)(y:Int×(List Int)×Int×Int):(Int×Int×Int×(List UInt8)×(List aA)×(List aC)×(List Int)×Int×Int×(List (List UInt8)))→Option ((Int×Int×Int×(List UInt8)×(List aA)×(List aC)×(List Int)×Int×Int×(List (List UInt8)))⊕((Int×Bool×Int×Int×(List UInt8)×(List aA)×(List aC)×(List Int)×Int×Int×(List (List UInt8)))))
  | (j,s,t,u,v,w,b,c,d,f)=>bif decide (j<y.1)then((bif decide ((0:Int)<z)then(g (IntKind.wrap .i64 (z - (1:Int))) b c d f).bind fun a=>(fQ 80 v ([aA.mk a.1 a.2.1 a.2.2.1 a.2.2.2.1 a.2.2.2.2.1]:List aA)).bind fun A=>some (s,t,u,A,w,a.2.2.2.2.2.1,a.2.2.2.2.2.2.1,a.2.2.2.2.2.2.2.1,a.2.2.2.2.2.2.2.2)else(fQ 80 v ([aA.mk (3:Int) (0:Int) ([95]:List UInt8) ([]:List aA) ([]:List aC)]:List aA)).bind fun B=>some (s,t,u,B,w,b,c,d,f):Option ((Int×Int×(List UInt8)×(List aA)×(List aC)×(List Int)×Int×Int×(List (List UInt8)))))).bind fun(C,D,E,G,H,l,m,o,p)=>some (.inl ((IntKind.wrap .i64 (j+(1:Int))),C,D,E,G,H,l,m,o,p))else some (.inr (j,false,s,t,u,v,w,b,c,d,f))
def nK(n:Nat)(l:jE)(G:Int)(X:List Int)(Y:Int)(Z:Int)(f:List (List UInt8)):Option (Int×Int×(List UInt8)×(List aA)×(List aC)×(List Int)×Int×Int×(List (List UInt8))):=
  (aM n (8:Int) X Y Z).bind fun a=>bif decide (a.1=(0:Int))then(aM n (3:Int) a.2.1 a.2.2.1 a.2.2.2).bind fun p=>(cJ n p.1).bind fun m=>some (m.1,m.2.1,m.2.2.1,m.2.2.2.1,m.2.2.2.2,p.2.1,p.2.2.1,p.2.2.2,f)else bif decide (a.1=(1:Int))then(bE n ([([111,107]:List UInt8),([97]:List UInt8),([115,116,111,112]:List UInt8)]:List (List UInt8)) a.2.1 a.2.2.1 a.2.2.2).bind fun s=>(kP n s.1).bind fun o=>some (o.1,o.2.1,o.2.2.1,o.2.2.2.1,o.2.2.2.2,s.2.1,s.2.2.1,s.2.2.2,f)else bif decide (a.1=(2:Int))then some ((3:Int),(0:Int),([95]:List UInt8),([]:List aA),([]:List aC),a.2.1,a.2.2.1,a.2.2.2,f)else bif decide (a.1=(3:Int))then(bE n ([([65]:List UInt8),([66]:List UInt8),([67]:List UInt8),([68]:List UInt8),([72]:List UInt8),([84]:List UInt8)]:List (List UInt8)) a.2.1 a.2.2.1 a.2.2.2).bind fun b=>(fR n f b.1).bind fun C=>bif C then some ((3:Int),(0:Int),([95]:List UInt8),([]:List aA),([]:List aC),b.2.1,b.2.2.1,b.2.2.2,f)else(fQ 16 f ([b.1]:List (List UInt8))).bind fun H=>some ((3:Int),(0:Int),b.1,([]:List aA),([]:List aC),b.2.1,b.2.2.1,b.2.2.2,H)else bif decide (a.1=(4:Int))then(bE n ([([65]:List UInt8),([66]:List UInt8),([67]:List UInt8),([68]:List UInt8),([72]:List UInt8),([84]:List UInt8)]:List (List UInt8)) a.2.1 a.2.2.1 a.2.2.2).bind fun c=>(fR n f c.1).bind fun D=>bif D then some ((3:Int),(0:Int),([95]:List UInt8),([]:List aA),([]:List aC),c.2.1,c.2.2.1,c.2.2.2,f)else(fQ 16 f ([c.1]:List (List UInt8))).bind fun I=>some ((3:Int),(0:Int),c.1,([]:List aA),([]:List aC),c.2.1,c.2.2.1,c.2.2.2,I)else bif decide (a.1=(5:Int))then(bE n ([([65]:List UInt8),([66]:List UInt8),([67]:List UInt8),([68]:List UInt8),([72]:List UInt8),([84]:List UInt8)]:List (List UInt8)) a.2.1 a.2.2.1 a.2.2.2).bind fun d=>(fR n f d.1).bind fun E=>bif E then some ((3:Int),(0:Int),([95]:List UInt8),([]:List aA),([]:List aC),d.2.1,d.2.2.1,d.2.2.2,f)else(fQ 16 f ([d.1]:List (List UInt8))).bind fun J=>some ((3:Int),(0:Int),d.1,([]:List aA),([]:List aC),d.2.1,d.2.2.1,d.2.2.2,J)else(cK n ([(4:Int),(5:Int),(6:Int)]:List Int) a.2.1 a.2.2.1 a.2.2.2).bind fun j=>(aM n (3:Int) j.2.1 j.2.2.1 j.2.2.2).bind fun g=>bif decide (j.1=(6:Int))then(loopN (mH n l G) n ((0:Int),j.1,(0:Int),([]:List UInt8),([]:List aA),([]:List aC),g.2.1,g.2.2.1,g.2.2.2,f)).bind fun(a0,a2,K,L,M,N,Q,t,u,v,A)=>some (K,L,M,N,Q,t,u,v,A)else(loopN (mG n l G g) n ((0:Int),j.1,(0:Int),([]:List UInt8),([]:List aA),([]:List aC),g.2.1,g.2.2.1,g.2.2.2,f)).bind fun(a1,a3,R,T,U,V,W,w,y,z,B)=>some (R,T,U,V,W,w,y,z,B)
theorem Ci{n:Nat}{g:jE}(b:qA g):qA (nK n g):=by
 intro g5 f7 f8 f9 g0 r h
 unfold nK at h
 refine bF Try.func128 rfl rfl<|cRs<|xAz [.int .i64 0, .int .i64 0, .str [], .sl ([].map aE), .sl ([].map aD)] rfl<|goo 5 rfl<|xC1 h (aN ·) rfl (fun f2 h=> ?_)
 refine goc 7 rfl<|cIf h rfl (fun q2 h=> ?_) (fun q2 h=> ?_)
 refine gco 3 rfl<|xC1 h (aN ·) rfl (fun f3 h=> ?_)
 refine xC0 h (dC ·) rfl (fun f4 h=> ?_)
 exact geo
 refine gcc 5 rfl<|cIf h rfl (fun q5 h=> ?_) (fun q5 h=> ?_)
 refine gco 3 rfl<|dM (L:=([([111,107]:List UInt8),([97]:List UInt8),([115,116,111,112]:List UInt8)]:List (List UInt8))) (f:=eG) rfl rfl rfl rfl rfl rfl rfl<|xC1 h (bZ ·) rfl (fun f5 h=> ?_)
 refine xC0 h (rT ·) rfl (fun f6 h=> ?_)
 exact geo
 refine gcc 5 rfl<|cIf h rfl (fun q8 h=> ?_) (fun q8 h=> ?_)
 exact cRs<|wBd [.int .i64 3, .int .i64 0, .str [95], .sl ([].map aE), .sl ([].map aD)] rfl rfl rfl rfl rfl rfl<|geo
 refine gcc 6 rfl<|cIf h rfl (fun q9 h=> ?_) (fun q9 h=> ?_)
 refine gco 5 rfl<|dM (L:=([([65]:List UInt8),([66]:List UInt8),([67]:List UInt8),([68]:List UInt8),([72]:List UInt8),([84]:List UInt8)]:List (List UInt8))) (f:=eG) rfl rfl rfl rfl rfl rfl rfl<|xC1 h (bZ ·) rfl (fun Q h=> ?_)
 refine goo 9 rfl<|xC0 h (nI ·) rfl (fun d1 h=> ?_)
 refine oNl<|cIf h rfl (fun d5 h=> ?_) (fun d5 h=> ?_)
 exact cRs<|wBd [.int .i64 3, .int .i64 0, .str [95], .sl ([].map aE), .sl ([].map aD)] rfl rfl rfl rfl rfl rfl<|geo
 refine gco 8 rfl<|dM (L:=([Q.1]:List (List UInt8))) (f:=eG) rfl rfl rfl rfl rfl rfl rfl<|wAp (f:=eG) h rfl rfl rfl rfl rfl rfl rfl rfl rfl (fun _=>rfl) rfl (fun e5 h=> ?_)
 exact goo 6 rfl<|wBd [.int .i64 3, .int .i64 0, .str Q.1, .sl ([].map aE), .sl ([].map aD)] rfl rfl rfl rfl rfl rfl<|geo
 refine gcc 5 rfl<|cIf h rfl (fun d6 h=> ?_) (fun d6 h=> ?_)
 refine gco 5 rfl<|dM (L:=([([65]:List UInt8),([66]:List UInt8),([67]:List UInt8),([68]:List UInt8),([72]:List UInt8),([84]:List UInt8)]:List (List UInt8))) (f:=eG) rfl rfl rfl rfl rfl rfl rfl<|xC1 h (bZ ·) rfl (fun R h=> ?_)
 refine goo 9 rfl<|xC0 h (nI ·) rfl (fun d2 h=> ?_)
 refine oNl<|cIf h rfl (fun d7 h=> ?_) (fun d7 h=> ?_)
 exact cRs<|wBd [.int .i64 3, .int .i64 0, .str [95], .sl ([].map aE), .sl ([].map aD)] rfl rfl rfl rfl rfl rfl<|geo
 refine gco 8 rfl<|dM (L:=([R.1]:List (List UInt8))) (f:=eG) rfl rfl rfl rfl rfl rfl rfl<|wAp (f:=eG) h rfl rfl rfl rfl rfl rfl rfl rfl rfl (fun _=>rfl) rfl (fun e6 h=> ?_)
 exact goo 6 rfl<|wBd [.int .i64 3, .int .i64 0, .str R.1, .sl ([].map aE), .sl ([].map aD)] rfl rfl rfl rfl rfl rfl<|geo
 refine gcc 4 rfl<|cIf h rfl (fun d8 h=> ?_) (fun d8 h=> ?_)
 refine gco 3 rfl<|dM (L:=([([65]:List UInt8),([66]:List UInt8),([67]:List UInt8),([68]:List UInt8),([72]:List UInt8),([84]:List UInt8)]:List (List UInt8))) (f:=eG) rfl rfl rfl rfl rfl rfl rfl<|xC1 h (bZ ·) rfl (fun T h=> ?_)
 refine goo 9 rfl<|xC0 h (nI ·) rfl (fun d3 h=> ?_)
 refine oNl<|cIf h rfl (fun d9 h=> ?_) (fun d9 h=> ?_)
 exact cRs<|wBd [.int .i64 3, .int .i64 0, .str [95], .sl ([].map aE), .sl ([].map aD)] rfl rfl rfl rfl rfl rfl<|geo
 refine gco 8 rfl<|dM (L:=([T.1]:List (List UInt8))) (f:=eG) rfl rfl rfl rfl rfl rfl rfl<|wAp (f:=eG) h rfl rfl rfl rfl rfl rfl rfl rfl rfl (fun _=>rfl) rfl (fun e7 h=> ?_)
 exact goo 6 rfl<|wBd [.int .i64 3, .int .i64 0, .str T.1, .sl ([].map aE), .sl ([].map aD)] rfl rfl rfl rfl rfl rfl<|geo
 refine gco 4 rfl<|dM (L:=([(4:Int),(5:Int),(6:Int)]:List Int)) (f:=aW) rfl rfl rfl rfl rfl rfl rfl<|xC1 h (dD ·) rfl (fun d0 h=> ?_)
 refine wBd [.int .i64 d0.1, .int .i64 0, .str [], .sl ([].map aE), .sl ([].map aD)] rfl rfl rfl rfl rfl rfl<|xAz [.int .i64 0, .int .i64 0, .str [], .sl ([].map aE), .sl ([].map aD)] rfl<|goo 5 rfl<|xC1 h (aN ·) rfl (fun d4 h=> ?_)
 refine goc 9 rfl<|cIf h rfl (fun e0 h=> ?_) (fun e0 h=> ?_)
 refine gcc 8 rfl<|cLp h [(10,10),(59,81)] [(8,8),(1000000,1000001)] (fun(U,a0,a1,a2,a3,a4,j,l,m,H)=>([(10,I64 U)],[(8,[.int .i64 a0, .int .i64 a1, .str a2, .sl (a3.map aE), .sl (a4.map aD)]),(1000000,[.sl (j.map rI_u8), .int .i64 l, .int .i64 m]),(1000001,[.sl (H.map eG)])])) (fun(V,Y,a5,a6,a7,a8,a9,o,p,s,I)=>(.e 1,[(10,I64 V),(61,Bo Y)],[(8,[.int .i64 a5, .int .i64 a6, .str a7, .sl (a8.map aE), .sl (a9.map aD)]),(1000000,[.sl (o.map rI_u8), .int .i64 p, .int .i64 s]),(1000001,[.sl (I.map eG)])])) rfl (fun st _ h=> ?_) (fun q h=> ?_)
 obtain⟨U,a0,a1,a2,a3,a4,j,l,m,H⟩:=st
 unfold mH at h
 refine gcc 7 rfl<|cIf h rfl (fun e1 h=> ?_) (fun e1 h=> ?_)
 refine gcc 2 rfl<|cJn h [(64,81)] [(8,8),(1000000,1000001)] (fun(b0,b1,b2,b3,b4,t,u,v,J)=>(.n,[],[(8,[.int .i64 b0, .int .i64 b1, .str b2, .sl (b3.map aE), .sl (b4.map aD)]),(1000000,[.sl (t.map rI_u8), .int .i64 u, .int .i64 v]),(1000001,[.sl (J.map eG)])])) (fun _ h=> ?_) (fun q h=> ?_)
 refine gcc 6 rfl<|cIf h rfl (fun e2 h=> ?_) (fun e2 h=> ?_)
 refine gco 7 rfl<|xCk h (b ·) rfl (fun c h=> ?_)
 refine dM (L:=([aA.mk c.1 c.2.1 c.2.2.1 c.2.2.2.1 c.2.2.2.2.1]:List aA)) (f:=aE) rfl rfl rfl rfl (by simp only[List.map,aU]<;>rfl) rfl rfl<|wAp (f:=aE) h rfl rfl rfl rfl rfl rfl rfl rfl rfl (fun a=>by rw[aX]; rfl) rfl (fun e8 h=> ?_)
 exact geo
 refine gco 3 rfl<|wBd [.int .i64 3, .int .i64 0, .str [95], .sl ([].map aE), .sl ([].map aD)] rfl rfl rfl rfl rfl rfl<|dM (L:=([aA.mk (3:Int) (0:Int) ([95]:List UInt8) ([]:List aA) ([]:List aC)]:List aA)) (f:=aE) rfl rfl rfl rfl (by simp only[List.map,aU]<;>rfl) rfl rfl<|wAp (f:=aE) h rfl rfl rfl rfl rfl rfl rfl rfl rfl (fun a=>by rw[aX]; rfl) rfl (fun f0 h=> ?_)
 exact geo
 obtain⟨b0,b1,b2,b3,b4,t,u,v,J⟩:=q
 exact gec
 exact gec
 obtain⟨V,Y,a5,a6,a7,a8,a9,o,p,s,I⟩:=q
 exact gec
 refine gcc 6 rfl<|cLp h [(10,10),(59,81)] [(8,8),(1000000,1000001)] (fun(W,b5,b6,b7,b8,b9,w,y,z,K)=>([(10,I64 W)],[(8,[.int .i64 b5, .int .i64 b6, .str b7, .sl (b8.map aE), .sl (b9.map aD)]),(1000000,[.sl (w.map rI_u8), .int .i64 y, .int .i64 z]),(1000001,[.sl (K.map eG)])])) (fun(X,Z,c0,c1,c2,c3,c4,A,B,C,M)=>(.e 1,[(10,I64 X),(61,Bo Z)],[(8,[.int .i64 c0, .int .i64 c1, .str c2, .sl (c3.map aE), .sl (c4.map aD)]),(1000000,[.sl (A.map rI_u8), .int .i64 B, .int .i64 C]),(1000001,[.sl (M.map eG)])])) rfl (fun st _ h=> ?_) (fun q h=> ?_)
 obtain⟨W,b5,b6,b7,b8,b9,w,y,z,K⟩:=st
 unfold mG at h
 refine gcc 7 rfl<|cIf h rfl (fun e3 h=> ?_) (fun e3 h=> ?_)
 refine gcc 2 rfl<|cJn h [(64,81)] [(8,8),(1000000,1000001)] (fun(c5,c6,c7,c8,c9,D,E,G,N)=>(.n,[],[(8,[.int .i64 c5, .int .i64 c6, .str c7, .sl (c8.map aE), .sl (c9.map aD)]),(1000000,[.sl (D.map rI_u8), .int .i64 E, .int .i64 G]),(1000001,[.sl (N.map eG)])])) (fun _ h=> ?_) (fun q h=> ?_)
 refine gcc 6 rfl<|cIf h rfl (fun e4 h=> ?_) (fun e4 h=> ?_)
 refine gco 7 rfl<|xCk h (b ·) rfl (fun d h=> ?_)
 refine dM (L:=([aA.mk d.1 d.2.1 d.2.2.1 d.2.2.2.1 d.2.2.2.2.1]:List aA)) (f:=aE) rfl rfl rfl rfl (by simp only[List.map,aU]<;>rfl) rfl rfl<|wAp (f:=aE) h rfl rfl rfl rfl rfl rfl rfl rfl rfl (fun a=>by rw[aX]; rfl) rfl (fun e9 h=> ?_)
 exact geo
 refine gco 3 rfl<|wBd [.int .i64 3, .int .i64 0, .str [95], .sl ([].map aE), .sl ([].map aD)] rfl rfl rfl rfl rfl rfl<|dM (L:=([aA.mk (3:Int) (0:Int) ([95]:List UInt8) ([]:List aA) ([]:List aC)]:List aA)) (f:=aE) rfl rfl rfl rfl (by simp only[List.map,aU]<;>rfl) rfl rfl<|wAp (f:=aE) h rfl rfl rfl rfl rfl rfl rfl rfl rfl (fun a=>by rw[aX]; rfl) rfl (fun f1 h=> ?_)
 exact geo
 obtain⟨c5,c6,c7,c8,c9,D,E,G,N⟩:=q
 exact gec
 exact gec
 obtain⟨X,Z,c0,c1,c2,c3,c4,A,B,C,M⟩:=q
 exact gec
def AI:Nat→(jE)
  | 0=>(fun _ _ _ _ _=>none)
  | n+1=>nK n (AI n)
def dJ(n:Nat):jE:=AI n
theorem Cl(n:Nat):qA (dJ n):=by
  induction n with
  | zero=>exact(fun h=>nomatch h)
  | succ n ih=>exact Ci (n:=n) ih
theorem vL{n:Nat}:qA (dJ n):=(Cl n)
theorem zQ(n:Nat):dJ (n+1)=nK n (dJ n):=rfl
abbrev cO:Type:=Int→(List (List UInt8))→(List Int)→Int→Int→Option (Int×Int×(List UInt8)×(List aA)×(List aC)×(List Int)×Int×Int)
abbrev oK(p:cO):Prop:= ∀ {f:Int} {g:List (List UInt8)} {a:List Int} {b d:Int} {r:Int×Int×(List UInt8)×(List aA)×(List aC)×(List Int)×Int×Int},p f g a b d=some r→Big Try.prog τ An (.fn 265 [.one (.ptr 1000000 0), .one (.c (.int .i64 f)), .one (.c (.sl (g.map eG)))] [[.sl (a.map rI_u8), .int .i64 b, .int .i64 d]] (.one (.ag [.int .i64 r.1, .int .i64 r.2.1, .str r.2.2.1, .sl (r.2.2.2.1.map aE), .sl (r.2.2.2.2.1.map aD)])) none [[.sl (r.2.2.2.2.2.1.map rI_u8), .int .i64 r.2.2.2.2.2.2.1, .int .i64 r.2.2.2.2.2.2.2]] none)
def sG(n:Nat)(f:cO)(t:Int)(u:List (List UInt8)):(Int×Int×Int×(List UInt8)×(List aA)×(List aC)×(List Int)×Int×Int)→Option ((Int×Int×Int×(List UInt8)×(List aA)×(List aC)×(List Int)×Int×Int)⊕((Int×Bool×Int×Int×(List UInt8)×(List aA)×(List aC)×(List Int)×Int×Int)))
  | (g,j,l,m,o,p,b,c,d)=>bif decide ((0:Int)<g)then(f (IntKind.wrap .i64 (t - (1:Int))) u b c d).bind fun a=>(fQ 80 o ([aA.mk a.1 a.2.1 a.2.2.1 a.2.2.2.1 a.2.2.2.2.1]:List aA)).bind fun s=>some (.inl ((IntKind.wrap .i64 (g - (1:Int))),j,l,m,s,p,a.2.2.2.2.2.1,a.2.2.2.2.2.2.1,a.2.2.2.2.2.2.2))else some (.inr (g,false,j,l,m,o,p,b,c,d))
def sF(n:Nat)(f:cO)(t:Int)(u:List (List UInt8)):(Int×Int×Int×(List UInt8)×(List aA)×(List aC)×(List Int)×Int×Int)→Option ((Int×Int×Int×(List UInt8)×(List aA)×(List aC)×(List Int)×Int×Int)⊕((Int×Bool×Int×Int×(List UInt8)×(List aA)×(List aC)×(List Int)×Int×Int)))
  | (g,j,l,m,o,p,b,c,d)=>bif decide (g<(2:Int))then(f (IntKind.wrap .i64 (t - (1:Int))) u b c d).bind fun a=>(fQ 80 o ([aA.mk a.1 a.2.1 a.2.2.1 a.2.2.2.1 a.2.2.2.2.1]:List aA)).bind fun s=>some (.inl ((IntKind.wrap .i64 (g+(1:Int))),j,l,m,s,p,a.2.2.2.2.2.1,a.2.2.2.2.2.2.1,a.2.2.2.2.2.2.2))else some (.inr (g,false,j,l,m,o,p,b,c,d))
def sE(n:Nat)(f:cO)(t:Int)(u:List (List UInt8)):(Int×Int×Int×(List UInt8)×(List aA)×(List aC)×(List Int)×Int×Int)→Option ((Int×Int×Int×(List UInt8)×(List aA)×(List aC)×(List Int)×Int×Int)⊕((Int×Bool×Int×Int×(List UInt8)×(List aA)×(List aC)×(List Int)×Int×Int)))
  | (g,j,l,m,o,p,b,c,d)=>bif decide (g<(1:Int))then(f (IntKind.wrap .i64 (t - (1:Int))) u b c d).bind fun a=>(fQ 80 o ([aA.mk a.1 a.2.1 a.2.2.1 a.2.2.2.1 a.2.2.2.2.1]:List aA)).bind fun s=>some (.inl ((IntKind.wrap .i64 (g+(1:Int))),j,l,m,s,p,a.2.2.2.2.2.1,a.2.2.2.2.2.2.1,a.2.2.2.2.2.2.2))else some (.inr (g,false,j,l,m,o,p,b,c,d))
def sD(n:Nat)(j:cO)(w:Int)(y:List (List UInt8)):(Int×Int×Int×(List UInt8)×(List aA)×(List aC)×(List Int)×Int×Int)→Option ((Int×Int×Int×(List UInt8)×(List aA)×(List aC)×(List Int)×Int×Int)⊕((Int×Bool×Int×Int×(List UInt8)×(List aA)×(List aC)×(List Int)×Int×Int)))
  | (g,l,m,o,p,s,c,d,f)=>bif decide ((0:Int)<g)then(dJ n (1:Int) c d f ([]:List (List UInt8))).bind fun a=>(fQ 16 ([]:List (List UInt8)) y).bind fun t=>(fQ 16 t a.2.2.2.2.2.2.2.2).bind fun u=>(j (IntKind.wrap .i64 (w - (1:Int))) u a.2.2.2.2.2.1 a.2.2.2.2.2.2.1 a.2.2.2.2.2.2.2.1).bind fun b=>(fQ 160 s ([aC.mk a.1 a.2.1 a.2.2.1 a.2.2.2.1 a.2.2.2.2.1 b.1 b.2.1 b.2.2.1 b.2.2.2.1 b.2.2.2.2.1]:List aC)).bind fun v=>some (.inl ((IntKind.wrap .i64 (g - (1:Int))),l,m,o,p,v,b.2.2.2.2.2.1,b.2.2.2.2.2.2.1,b.2.2.2.2.2.2.2))else some (.inr (g,false,l,m,o,p,s,c,d,f))
def kV(n:Nat)(f:cO)(t:Int)(u:List (List UInt8)):(Int×Int×Int×(List UInt8)×(List aA)×(List aC)×(List Int)×Int×Int)→Option ((Int×Int×Int×(List UInt8)×(List aA)×(List aC)×(List Int)×Int×Int)⊕((Int×Bool×Int×Int×(List UInt8)×(List aA)×(List aC)×(List Int)×Int×Int)))
  | (g,j,l,m,o,p,b,c,d)=>bif decide ((0:Int)<g)then(f (IntKind.wrap .i64 (t - (1:Int))) u b c d).bind fun a=>(fQ 80 o ([aA.mk a.1 a.2.1 a.2.2.1 a.2.2.2.1 a.2.2.2.2.1]:List aA)).bind fun s=>some (.inl ((IntKind.wrap .i64 (g - (1:Int))),j,l,m,s,p,a.2.2.2.2.2.1,a.2.2.2.2.2.2.1,a.2.2.2.2.2.2.2))else some (.inr (g,false,j,l,m,o,p,b,c,d))
def kU(n:Nat)(g:cO)(t:Int)(u:List (List UInt8)):(Int×Int×Int×(List UInt8)×(List aA)×(List aC)×(List Int)×Int×Int)→Option ((Int×Int×Int×(List UInt8)×(List aA)×(List aC)×(List Int)×Int×Int)⊕((Int×Bool×Int×Int×(List UInt8)×(List aA)×(List aC)×(List Int)×Int×Int)))
  | (f,j,l,m,o,p,b,c,d)=>bif decide (f<(2:Int))then(g (IntKind.wrap .i64 (t - (1:Int))) u b c d).bind fun a=>(fQ 80 o ([aA.mk a.1 a.2.1 a.2.2.1 a.2.2.2.1 a.2.2.2.2.1]:List aA)).bind fun s=>some (.inl ((IntKind.wrap .i64 (f+(1:Int))),j,l,m,s,p,a.2.2.2.2.2.1,a.2.2.2.2.2.2.1,a.2.2.2.2.2.2.2))else some (.inr (f,false,j,l,m,o,p,b,c,d))
def kT(n:Nat)(g:cO)(t:Int)(u:List (List UInt8)):(Int×Int×Int×(List UInt8)×(List aA)×(List aC)×(List Int)×Int×Int)→Option ((Int×Int×Int×(List UInt8)×(List aA)×(List aC)×(List Int)×Int×Int)⊕((Int×Bool×Int×Int×(List UInt8)×(List aA)×(List aC)×(List Int)×Int×Int)))
  | (f,j,l,m,o,p,b,c,d)=>bif decide (f<(1:Int))then(g (IntKind.wrap .i64 (t - (1:Int))) u b c d).bind fun a=>(fQ 80 o ([aA.mk a.1 a.2.1 a.2.2.1 a.2.2.2.1 a.2.2.2.2.1]:List aA)).bind fun s=>some (.inl ((IntKind.wrap .i64 (f+(1:Int))),j,l,m,s,p,a.2.2.2.2.2.1,a.2.2.2.2.2.2.1,a.2.2.2.2.2.2.2))else some (.inr (f,false,j,l,m,o,p,b,c,d))
def kR(n:Nat)(j:cO)(w:Int)(y:List (List UInt8)):(Int×Int×Int×(List UInt8)×(List aA)×(List aC)×(List Int)×Int×Int)→Option ((Int×Int×Int×(List UInt8)×(List aA)×(List aC)×(List Int)×Int×Int)⊕((Int×Bool×Int×Int×(List UInt8)×(List aA)×(List aC)×(List Int)×Int×Int)))
  | (g,l,m,o,p,s,c,d,f)=>bif decide ((0:Int)<g)then(dJ n (1:Int) c d f ([]:List (List UInt8))).bind fun a=>(fQ 16 ([]:List (List UInt8)) y).bind fun t=>(fQ 16 t a.2.2.2.2.2.2.2.2).bind fun u=>(j (IntKind.wrap .i64 (w - (1:Int))) u a.2.2.2.2.2.1 a.2.2.2.2.2.2.1 a.2.2.2.2.2.2.2.1).bind fun b=>(fQ 160 s ([aC.mk a.1 a.2.1 a.2.2.1 a.2.2.2.1 a.2.2.2.2.1 b.1 b.2.1 b.2.2.1 b.2.2.2.1 b.2.2.2.2.1]:List aC)).bind fun v=>some (.inl ((IntKind.wrap .i64 (g - (1:Int))),l,m,o,p,v,b.2.2.2.2.2.1,b.2.2.2.2.2.2.1,b.2.2.2.2.2.2.2))else some (.inr (g,false,l,m,o,p,s,c,d,f))
def lS(n:Nat)(a:cO)(f:Int)(d:List (List UInt8))(j3:List Int)(j4:Int)(j5:Int):Option (Int×Int×(List UInt8)×(List aA)×(List aC)×(List Int)×Int×Int):=
  (aM n (11:Int) j3 j4 j5).bind fun b=>bif decide (f<(1:Int))then(aM n (4:Int) b.2.1 b.2.2.1 b.2.2.2).bind fun c=>bif decide (c.1=(0:Int))then(cK n ([(0:Int),(1:Int),(2:Int),(5:Int),(40:Int)]:List Int) c.2.1 c.2.2.1 c.2.2.2).bind fun b9=>(cJ n b9.1).bind fun a7=>some (a7.1,a7.2.1,a7.2.2.1,a7.2.2.2.1,a7.2.2.2.2,b9.2.1,b9.2.2.1,b9.2.2.2)else bif decide (c.1=(1:Int))then(bE n ([([111,107]:List UInt8),([97]:List UInt8),([115,116,111,112]:List UInt8),([116,114,117,101]:List UInt8)]:List (List UInt8)) c.2.1 c.2.2.1 c.2.2.2).bind fun c0=>(kP n c0.1).bind fun a8=>some (a8.1,a8.2.1,a8.2.2.1,a8.2.2.2.1,a8.2.2.2.2,c0.2.1,c0.2.2.1,c0.2.2.2)else bif decide (c.1=(2:Int))then bif decide ((0:Int)<(d.length:Int))then(aM n (d.length:Int) c.2.1 c.2.2.1 c.2.2.2).bind fun a9=>(ix d a9.1).bind fun h5=>some ((3:Int),(0:Int),h5,([]:List aA),([]:List aC),a9.2.1,a9.2.2.1,a9.2.2.2)else(aM n (4:Int) c.2.1 c.2.2.1 c.2.2.2).bind fun b2=>(cJ n b2.1).bind fun R=>some (R.1,R.2.1,R.2.2.1,R.2.2.2.1,R.2.2.2.2,b2.2.1,b2.2.2.1,b2.2.2.2)else bif decide (c.1=(3:Int))then bif decide ((0:Int)<(d.length:Int))then(aM n (d.length:Int) c.2.1 c.2.2.1 c.2.2.2).bind fun b0=>(ix d b0.1).bind fun h6=>some ((3:Int),(0:Int),h6,([]:List aA),([]:List aC),b0.2.1,b0.2.2.1,b0.2.2.2)else(aM n (4:Int) c.2.1 c.2.2.1 c.2.2.2).bind fun b3=>(cJ n b3.1).bind fun T=>some (T.1,T.2.1,T.2.2.1,T.2.2.2.1,T.2.2.2.2,b3.2.1,b3.2.2.1,b3.2.2.2)else bif decide (c.1=(4:Int))then bif decide ((0:Int)<(d.length:Int))then(aM n (d.length:Int) c.2.1 c.2.2.1 c.2.2.2).bind fun b1=>(ix d b1.1).bind fun h7=>some ((3:Int),(0:Int),h7,([]:List aA),([]:List aC),b1.2.1,b1.2.2.1,b1.2.2.2)else(aM n (4:Int) c.2.1 c.2.2.1 c.2.2.2).bind fun b4=>(cJ n b4.1).bind fun U=>some (U.1,U.2.1,U.2.2.1,U.2.2.2.1,U.2.2.2.2,b4.2.1,b4.2.2.1,b4.2.2.2)else bif decide (c.1=(5:Int))then(bE n ([([43]:List UInt8),([45]:List UInt8),([42]:List UInt8),([61,61]:List UInt8),([60]:List UInt8),([43]:List UInt8)]:List (List UInt8)) c.2.1 c.2.2.1 c.2.2.2).bind fun b5=>(a (IntKind.wrap .i64 (f - (1:Int))) d b5.2.1 b5.2.2.1 b5.2.2.2).bind fun D=>(a (IntKind.wrap .i64 (f - (1:Int))) d D.2.2.2.2.2.1 D.2.2.2.2.2.2.1 D.2.2.2.2.2.2.2).bind fun G=>some ((7:Int),(0:Int),b5.1,([aA.mk D.1 D.2.1 D.2.2.1 D.2.2.2.1 D.2.2.2.2.1,aA.mk G.1 G.2.1 G.2.2.1 G.2.2.2.1 G.2.2.2.2.1]:List aA),([]:List aC),G.2.2.2.2.2.1,G.2.2.2.2.2.2.1,G.2.2.2.2.2.2.2)else bif decide (c.1=(6:Int))then(bE n ([([43]:List UInt8),([45]:List UInt8),([42]:List UInt8),([61,61]:List UInt8),([60]:List UInt8),([43]:List UInt8)]:List (List UInt8)) c.2.1 c.2.2.1 c.2.2.2).bind fun b6=>(a (IntKind.wrap .i64 (f - (1:Int))) d b6.2.1 b6.2.2.1 b6.2.2.2).bind fun E=>(a (IntKind.wrap .i64 (f - (1:Int))) d E.2.2.2.2.2.1 E.2.2.2.2.2.2.1 E.2.2.2.2.2.2.2).bind fun H=>some ((7:Int),(0:Int),b6.1,([aA.mk E.1 E.2.1 E.2.2.1 E.2.2.2.1 E.2.2.2.2.1,aA.mk H.1 H.2.1 H.2.2.1 H.2.2.2.1 H.2.2.2.2.1]:List aA),([]:List aC),H.2.2.2.2.2.1,H.2.2.2.2.2.2.1,H.2.2.2.2.2.2.2)else bif decide (c.1=(7:Int))then(cK n ([(4:Int),(5:Int)]:List Int) c.2.1 c.2.2.1 c.2.2.2).bind fun b7=>(aM n (3:Int) b7.2.1 b7.2.2.1 b7.2.2.2).bind fun b8=>(loopN (sG n a f d) n (b8.1,b7.1,(0:Int),([]:List UInt8),([]:List aA),([]:List aC),b8.2.1,b8.2.2.1,b8.2.2.2)).bind fun(l1,k9,i8,i9,j0,j1,j2,d9,e0,e1)=>some (i8,i9,j0,j1,j2,d9,e0,e1)else bif decide (c.1=(8:Int))then(a (IntKind.wrap .i64 (f - (1:Int))) d c.2.1 c.2.2.1 c.2.2.2).bind fun w=>(a (IntKind.wrap .i64 (f - (1:Int))) d w.2.2.2.2.2.1 w.2.2.2.2.2.2.1 w.2.2.2.2.2.2.2).bind fun y=>some ((6:Int),(0:Int),([]:List UInt8),([aA.mk w.1 w.2.1 w.2.2.1 w.2.2.2.1 w.2.2.2.2.1,aA.mk (5:Int) (0:Int) ([]:List UInt8) ([aA.mk y.1 y.2.1 y.2.2.1 y.2.2.2.1 y.2.2.2.2.1]:List aA) ([]:List aC)]:List aA),([]:List aC),y.2.2.2.2.2.1,y.2.2.2.2.2.2.1,y.2.2.2.2.2.2.2)else bif decide (c.1=(9:Int))then(bE n ([([102]:List UInt8),([103]:List UInt8),([104]:List UInt8)]:List (List UInt8)) c.2.1 c.2.2.1 c.2.2.2).bind fun t=>bif decide (t.1=([103]:List UInt8))then(loopN (sF n a f d) n ((0:Int),(8:Int),(0:Int),t.1,([]:List aA),([]:List aC),t.2.1,t.2.2.1,t.2.2.2)).bind fun(k7,k0,h8,h9,i0,i1,i2,e2,e3,e4)=>some (h8,h9,i0,i1,i2,e2,e3,e4)else(loopN (sE n a f d) n ((0:Int),(8:Int),(0:Int),t.1,([]:List aA),([]:List aC),t.2.1,t.2.2.1,t.2.2.2)).bind fun(k8,k1,g0,g1,g2,g3,g4,c1,c2,c3)=>some (g0,g1,g2,g3,g4,c1,c2,c3)else(a (IntKind.wrap .i64 (f - (1:Int))) d c.2.1 c.2.2.1 c.2.2.2).bind fun m=>(aM n (2:Int) m.2.2.2.2.2.1 m.2.2.2.2.2.2.1 m.2.2.2.2.2.2.2).bind fun N=>(loopN (sD n a f d) n ((IntKind.wrap .i64 ((1:Int)+N.1)),(9:Int),(0:Int),([]:List UInt8),([aA.mk m.1 m.2.1 m.2.2.1 m.2.2.2.1 m.2.2.2.2.1]:List aA),([]:List aC),N.2.1,N.2.2.1,N.2.2.2)).bind fun(k4,j8,e5,e6,e7,e8,e9,c4,c5,c6)=>(fW n (2:Int) c4 c5 c6).bind fun u=>bif u.1 then(a (IntKind.wrap .i64 (f - (1:Int))) d u.2.1 u.2.2.1 u.2.2.2).bind fun p=>(fQ 160 e9 ([aC.mk (3:Int) (0:Int) ([95]:List UInt8) ([]:List aA) ([]:List aC) p.1 p.2.1 p.2.2.1 p.2.2.2.1 p.2.2.2.2.1]:List aC)).bind fun f5=>some (e5,e6,e7,e8,f5,p.2.2.2.2.2.1,p.2.2.2.2.2.2.1,p.2.2.2.2.2.2.2)else some (e5,e6,e7,e8,e9,u.2.1,u.2.2.1,u.2.2.2)else bif decide (b.1=(0:Int))then(cK n ([(0:Int),(1:Int),(2:Int),(5:Int),(40:Int)]:List Int) b.2.1 b.2.2.1 b.2.2.2).bind fun V=>(cJ n V.1).bind fun I=>some (I.1,I.2.1,I.2.2.1,I.2.2.2.1,I.2.2.2.2,V.2.1,V.2.2.1,V.2.2.2)else bif decide (b.1=(1:Int))then(bE n ([([111,107]:List UInt8),([97]:List UInt8),([115,116,111,112]:List UInt8),([116,114,117,101]:List UInt8)]:List (List UInt8)) b.2.1 b.2.2.1 b.2.2.2).bind fun W=>(kP n W.1).bind fun J=>some (J.1,J.2.1,J.2.2.1,J.2.2.2.1,J.2.2.2.2,W.2.1,W.2.2.1,W.2.2.2)else bif decide (b.1=(2:Int))then bif decide ((0:Int)<(d.length:Int))then(aM n (d.length:Int) b.2.1 b.2.2.1 b.2.2.2).bind fun X=>(ix d X.1).bind fun f7=>some ((3:Int),(0:Int),f7,([]:List aA),([]:List aC),X.2.1,X.2.2.1,X.2.2.2)else(aM n (4:Int) b.2.1 b.2.2.1 b.2.2.2).bind fun a0=>(cJ n a0.1).bind fun K=>some (K.1,K.2.1,K.2.2.1,K.2.2.2.1,K.2.2.2.2,a0.2.1,a0.2.2.1,a0.2.2.2)else bif decide (b.1=(3:Int))then bif decide ((0:Int)<(d.length:Int))then(aM n (d.length:Int) b.2.1 b.2.2.1 b.2.2.2).bind fun Y=>(ix d Y.1).bind fun f8=>some ((3:Int),(0:Int),f8,([]:List aA),([]:List aC),Y.2.1,Y.2.2.1,Y.2.2.2)else(aM n (4:Int) b.2.1 b.2.2.1 b.2.2.2).bind fun a1=>(cJ n a1.1).bind fun L=>some (L.1,L.2.1,L.2.2.1,L.2.2.2.1,L.2.2.2.2,a1.2.1,a1.2.2.1,a1.2.2.2)else bif decide (b.1=(4:Int))then bif decide ((0:Int)<(d.length:Int))then(aM n (d.length:Int) b.2.1 b.2.2.1 b.2.2.2).bind fun Z=>(ix d Z.1).bind fun f9=>some ((3:Int),(0:Int),f9,([]:List aA),([]:List aC),Z.2.1,Z.2.2.1,Z.2.2.2)else(aM n (4:Int) b.2.1 b.2.2.1 b.2.2.2).bind fun a2=>(cJ n a2.1).bind fun M=>some (M.1,M.2.1,M.2.2.1,M.2.2.2.1,M.2.2.2.2,a2.2.1,a2.2.2.1,a2.2.2.2)else bif decide (b.1=(5:Int))then(bE n ([([43]:List UInt8),([45]:List UInt8),([42]:List UInt8),([61,61]:List UInt8),([60]:List UInt8),([43]:List UInt8)]:List (List UInt8)) b.2.1 b.2.2.1 b.2.2.2).bind fun a3=>(a (IntKind.wrap .i64 (f - (1:Int))) d a3.2.1 a3.2.2.1 a3.2.2.2).bind fun z=>(a (IntKind.wrap .i64 (f - (1:Int))) d z.2.2.2.2.2.1 z.2.2.2.2.2.2.1 z.2.2.2.2.2.2.2).bind fun B=>some ((7:Int),(0:Int),a3.1,([aA.mk z.1 z.2.1 z.2.2.1 z.2.2.2.1 z.2.2.2.2.1,aA.mk B.1 B.2.1 B.2.2.1 B.2.2.2.1 B.2.2.2.2.1]:List aA),([]:List aC),B.2.2.2.2.2.1,B.2.2.2.2.2.2.1,B.2.2.2.2.2.2.2)else bif decide (b.1=(6:Int))then(bE n ([([43]:List UInt8),([45]:List UInt8),([42]:List UInt8),([61,61]:List UInt8),([60]:List UInt8),([43]:List UInt8)]:List (List UInt8)) b.2.1 b.2.2.1 b.2.2.2).bind fun a4=>(a (IntKind.wrap .i64 (f - (1:Int))) d a4.2.1 a4.2.2.1 a4.2.2.2).bind fun A=>(a (IntKind.wrap .i64 (f - (1:Int))) d A.2.2.2.2.2.1 A.2.2.2.2.2.2.1 A.2.2.2.2.2.2.2).bind fun C=>some ((7:Int),(0:Int),a4.1,([aA.mk A.1 A.2.1 A.2.2.1 A.2.2.2.1 A.2.2.2.2.1,aA.mk C.1 C.2.1 C.2.2.1 C.2.2.2.1 C.2.2.2.2.1]:List aA),([]:List aC),C.2.2.2.2.2.1,C.2.2.2.2.2.2.1,C.2.2.2.2.2.2.2)else bif decide (b.1=(7:Int))then(cK n ([(4:Int),(5:Int)]:List Int) b.2.1 b.2.2.1 b.2.2.2).bind fun a5=>(aM n (3:Int) a5.2.1 a5.2.2.1 a5.2.2.2).bind fun a6=>(loopN (kV n a f d) n (a6.1,a5.1,(0:Int),([]:List UInt8),([]:List aA),([]:List aC),a6.2.1,a6.2.2.1,a6.2.2.2)).bind fun(l0,k6,i3,i4,i5,i6,i7,c7,c8,c9)=>some (i3,i4,i5,i6,i7,c7,c8,c9)else bif decide (b.1=(8:Int))then(a (IntKind.wrap .i64 (f - (1:Int))) d b.2.1 b.2.2.1 b.2.2.2).bind fun j=>(a (IntKind.wrap .i64 (f - (1:Int))) d j.2.2.2.2.2.1 j.2.2.2.2.2.2.1 j.2.2.2.2.2.2.2).bind fun l=>some ((6:Int),(0:Int),([]:List UInt8),([aA.mk j.1 j.2.1 j.2.2.1 j.2.2.2.1 j.2.2.2.2.1,aA.mk (5:Int) (0:Int) ([]:List UInt8) ([aA.mk l.1 l.2.1 l.2.2.1 l.2.2.2.1 l.2.2.2.2.1]:List aA) ([]:List aC)]:List aA),([]:List aC),l.2.2.2.2.2.1,l.2.2.2.2.2.2.1,l.2.2.2.2.2.2.2)else bif decide (b.1=(9:Int))then(bE n ([([102]:List UInt8),([103]:List UInt8),([104]:List UInt8)]:List (List UInt8)) b.2.1 b.2.2.1 b.2.2.2).bind fun g=>bif decide (g.1=([103]:List UInt8))then(loopN (kU n a f d) n ((0:Int),(8:Int),(0:Int),g.1,([]:List aA),([]:List aC),g.2.1,g.2.2.1,g.2.2.2)).bind fun(k2,j6,g5,g6,g7,g8,g9,d0,d1,d2)=>some (g5,g6,g7,g8,g9,d0,d1,d2)else(loopN (kT n a f d) n ((0:Int),(8:Int),(0:Int),g.1,([]:List aA),([]:List aC),g.2.1,g.2.2.1,g.2.2.2)).bind fun(k3,j7,h0,h1,h2,h3,h4,d3,d4,d5)=>some (h0,h1,h2,h3,h4,d3,d4,d5)else(a (IntKind.wrap .i64 (f - (1:Int))) d b.2.1 b.2.2.1 b.2.2.2).bind fun o=>(aM n (2:Int) o.2.2.2.2.2.1 o.2.2.2.2.2.2.1 o.2.2.2.2.2.2.2).bind fun Q=>(loopN (kR n a f d) n ((IntKind.wrap .i64 ((1:Int)+Q.1)),(9:Int),(0:Int),([]:List UInt8),([aA.mk o.1 o.2.1 o.2.2.1 o.2.2.2.1 o.2.2.2.2.1]:List aA),([]:List aC),Q.2.1,Q.2.2.1,Q.2.2.2)).bind fun(k5,j9,f0,f1,f2,f3,f4,d6,d7,d8)=>(fW n (2:Int) d6 d7 d8).bind fun v=>bif v.1 then(a (IntKind.wrap .i64 (f - (1:Int))) d v.2.1 v.2.2.1 v.2.2.2).bind fun s=>(fQ 160 f4 ([aC.mk (3:Int) (0:Int) ([95]:List UInt8) ([]:List aA) ([]:List aC) s.1 s.2.1 s.2.2.1 s.2.2.2.1 s.2.2.2.2.1]:List aC)).bind fun f6=>some (f0,f1,f2,f3,f6,s.2.2.2.2.2.1,s.2.2.2.2.2.2.1,s.2.2.2.2.2.2.2)else some (f0,f1,f2,f3,f4,v.2.1,v.2.2.1,v.2.2.2)
theorem Am{n:Nat}{M:cO}(b:oK M):oK (lS n M):=by
 intro y7 y8 y1 y2 y3 r h
 unfold lS at h
 refine bF Try.func265 rfl rfl<|cRs<|xAz [.int .i64 0, .int .i64 0, .str [], .sl ([].map aE), .sl ([].map aD)] rfl<|goo 4 rfl<|xC1 h (aN ·) rfl (fun x5 h=> ?_)
 refine goc 8 rfl<|cIf h rfl (fun q2 h=> ?_) (fun q2 h=> ?_)
 refine gco 2 rfl<|xC1 h (aN ·) rfl (fun x6 h=> ?_)
 refine goc 13 rfl<|cIf h rfl (fun q4 h=> ?_) (fun q4 h=> ?_)
 refine gco 3 rfl<|dM (L:=([(0:Int),(1:Int),(2:Int),(5:Int),(40:Int)]:List Int)) (f:=aW) rfl rfl rfl rfl rfl rfl rfl<|xC1 h (dD ·) rfl (fun x7 h=> ?_)
 refine xC0 h (dC ·) rfl (fun x8 h=> ?_)
 exact geo
 refine gcc 5 rfl<|cIf h rfl (fun q7 h=> ?_) (fun q7 h=> ?_)
 refine gco 3 rfl<|dM (L:=([([111,107]:List UInt8),([97]:List UInt8),([115,116,111,112]:List UInt8),([116,114,117,101]:List UInt8)]:List (List UInt8))) (f:=eG) rfl rfl rfl rfl rfl rfl rfl<|xC1 h (bZ ·) rfl (fun x9 h=> ?_)
 refine xC0 h (rT ·) rfl (fun y0 h=> ?_)
 exact geo
 refine gcc 6 rfl<|cIf h rfl (fun w0 h=> ?_) (fun w0 h=> ?_)
 refine gco 6 rfl<|xLn rfl<|goc 2 rfl<|cIf h rfl (fun w1 h=> ?_) (fun w1 h=> ?_)
 refine gco 5 rfl<|xLn rfl<|xC1 h (aN ·) rfl (fun v0 h=> ?_)
 refine xIx h oA rfl (fun p4 h=> ?_)
 exact xLd rfl<|wBd [.int .i64 3, .int .i64 0, .str p4, .sl ([].map aE), .sl ([].map aD)] rfl rfl rfl rfl rfl rfl<|geo
 refine gco 4 rfl<|xC1 h (aN ·) rfl (fun v3 h=> ?_)
 refine xC0 h (dC ·) rfl (fun v6 h=> ?_)
 exact geo
 refine gcc 5 rfl<|cIf h rfl (fun w2 h=> ?_) (fun w2 h=> ?_)
 refine gco 6 rfl<|xLn rfl<|goc 2 rfl<|cIf h rfl (fun w3 h=> ?_) (fun w3 h=> ?_)
 refine gco 5 rfl<|xLn rfl<|xC1 h (aN ·) rfl (fun v1 h=> ?_)
 refine xIx h oA rfl (fun p5 h=> ?_)
 exact xLd rfl<|wBd [.int .i64 3, .int .i64 0, .str p5, .sl ([].map aE), .sl ([].map aD)] rfl rfl rfl rfl rfl rfl<|geo
 refine gco 4 rfl<|xC1 h (aN ·) rfl (fun v4 h=> ?_)
 refine xC0 h (dC ·) rfl (fun v7 h=> ?_)
 exact geo
 refine gcc 4 rfl<|cIf h rfl (fun w4 h=> ?_) (fun w4 h=> ?_)
 refine gco 4 rfl<|xLn rfl<|goc 2 rfl<|cIf h rfl (fun w5 h=> ?_) (fun w5 h=> ?_)
 refine gco 5 rfl<|xLn rfl<|xC1 h (aN ·) rfl (fun v2 h=> ?_)
 refine xIx h oA rfl (fun p6 h=> ?_)
 exact xLd rfl<|wBd [.int .i64 3, .int .i64 0, .str p6, .sl ([].map aE), .sl ([].map aD)] rfl rfl rfl rfl rfl rfl<|geo
 refine gco 4 rfl<|xC1 h (aN ·) rfl (fun v5 h=> ?_)
 refine xC0 h (dC ·) rfl (fun v8 h=> ?_)
 exact geo
 refine gcc 6 rfl<|cIf h rfl (fun w6 h=> ?_) (fun w6 h=> ?_)
 refine gco 5 rfl<|dM (L:=([([43]:List UInt8),([45]:List UInt8),([42]:List UInt8),([61,61]:List UInt8),([60]:List UInt8),([43]:List UInt8)]:List (List UInt8))) (f:=eG) rfl rfl rfl rfl rfl rfl rfl<|xC1 h (bZ ·) rfl (fun p1 h=> ?_)
 refine goo 4 rfl<|xC1 h (b ·) rfl (fun B h=> ?_)
 refine goo 4 rfl<|xC1 h (b ·) rfl (fun D h=> ?_)
 exact dM (L:=([aA.mk B.1 B.2.1 B.2.2.1 B.2.2.2.1 B.2.2.2.2.1,aA.mk D.1 D.2.1 D.2.2.1 D.2.2.2.1 D.2.2.2.2.1]:List aA)) (f:=aE) rfl rfl rfl rfl (by simp only[List.map,aU]<;>rfl) rfl rfl<|wBd [.int .i64 7, .int .i64 0, .str p1.1, .sl ([aA.mk B.1 B.2.1 B.2.2.1 B.2.2.2.1 B.2.2.2.2.1,aA.mk D.1 D.2.1 D.2.2.1 D.2.2.2.1 D.2.2.2.2.1].map aE), .sl ([].map aD)] rfl rfl rfl rfl rfl rfl<|geo
 refine gcc 4 rfl<|cIf h rfl (fun w7 h=> ?_) (fun w7 h=> ?_)
 refine gco 3 rfl<|dM (L:=([([43]:List UInt8),([45]:List UInt8),([42]:List UInt8),([61,61]:List UInt8),([60]:List UInt8),([43]:List UInt8)]:List (List UInt8))) (f:=eG) rfl rfl rfl rfl rfl rfl rfl<|xC1 h (bZ ·) rfl (fun p2 h=> ?_)
 refine goo 4 rfl<|xC1 h (b ·) rfl (fun C h=> ?_)
 refine goo 4 rfl<|xC1 h (b ·) rfl (fun E h=> ?_)
 exact dM (L:=([aA.mk C.1 C.2.1 C.2.2.1 C.2.2.2.1 C.2.2.2.2.1,aA.mk E.1 E.2.1 E.2.2.1 E.2.2.2.1 E.2.2.2.2.1]:List aA)) (f:=aE) rfl rfl rfl rfl (by simp only[List.map,aU]<;>rfl) rfl rfl<|wBd [.int .i64 7, .int .i64 0, .str p2.1, .sl ([aA.mk C.1 C.2.1 C.2.2.1 C.2.2.2.1 C.2.2.2.2.1,aA.mk E.1 E.2.1 E.2.2.1 E.2.2.2.1 E.2.2.2.2.1].map aE), .sl ([].map aD)] rfl rfl rfl rfl rfl rfl<|geo
 refine gcc 5 rfl<|cIf h rfl (fun w8 h=> ?_) (fun w8 h=> ?_)
 refine gco 3 rfl<|dM (L:=([(4:Int),(5:Int)]:List Int)) (f:=aW) rfl rfl rfl rfl rfl rfl rfl<|xC1 h (dD ·) rfl (fun p3 h=> ?_)
 refine wBd [.int .i64 p3.1, .int .i64 0, .str [], .sl ([].map aE), .sl ([].map aD)] rfl rfl rfl rfl rfl rfl<|xAz [.int .i64 0, .int .i64 0, .str [], .sl ([].map aE), .sl ([].map aD)] rfl<|goo 6 rfl<|xC1 h (aN ·) rfl (fun v9 h=> ?_)
 refine goc 2 rfl<|cLp h [(9,9),(80,93)] [(8,8),(1000000,1000000)] (fun(n2,n4,n5,n6,n7,n8,c4,c5,c6)=>([(9,I64 n2)],[(8,[.int .i64 n4, .int .i64 n5, .str n6, .sl (n7.map aE), .sl (n8.map aD)]),(1000000,[.sl (c4.map rI_u8), .int .i64 c5, .int .i64 c6])])) (fun(n3,k3,n9,o0,o1,o2,o3,c7,c8,c9)=>(.e 1,[(9,I64 n3),(81,Bo k3)],[(8,[.int .i64 n9, .int .i64 o0, .str o1, .sl (o2.map aE), .sl (o3.map aD)]),(1000000,[.sl (c7.map rI_u8), .int .i64 c8, .int .i64 c9])])) rfl (fun st _ h=> ?_) (fun q h=> ?_)
 obtain⟨n2,n4,n5,n6,n7,n8,c4,c5,c6⟩:=st
 unfold sG at h
 refine gcc 6 rfl<|cIf h rfl (fun w9 h=> ?_) (fun w9 h=> ?_)
 refine gco 10 rfl<|xC1 h (b ·) rfl (fun N h=> ?_)
 refine dM (L:=([aA.mk N.1 N.2.1 N.2.2.1 N.2.2.2.1 N.2.2.2.2.1]:List aA)) (f:=aE) rfl rfl rfl rfl (by simp only[List.map,aU]<;>rfl) rfl rfl<|wAp (f:=aE) h rfl rfl rfl rfl rfl rfl rfl rfl rfl (fun a=>by rw[aX]; rfl) rfl (fun x4 h=> ?_)
 exact geo
 exact gec
 obtain⟨n3,k3,n9,o0,o1,o2,o3,c7,c8,c9⟩:=q
 exact gec
 refine gcc 5 rfl<|cIf h rfl (fun x0 h=> ?_) (fun x0 h=> ?_)
 refine gco 6 rfl<|xC1 h (b ·) rfl (fun v h=> ?_)
 refine goo 4 rfl<|xC1 h (b ·) rfl (fun d h=> ?_)
 exact dM (L:=([aA.mk d.1 d.2.1 d.2.2.1 d.2.2.2.1 d.2.2.2.2.1]:List aA)) (f:=aE) rfl rfl rfl rfl (by simp only[List.map,aU]<;>rfl) rfl rfl<|wBd [.int .i64 5, .int .i64 0, .str [], .sl ([aA.mk d.1 d.2.1 d.2.2.1 d.2.2.2.1 d.2.2.2.2.1].map aE), .sl ([].map aD)] rfl rfl rfl rfl rfl rfl<|dM (L:=([aA.mk v.1 v.2.1 v.2.2.1 v.2.2.2.1 v.2.2.2.2.1,aA.mk (5:Int) (0:Int) ([]:List UInt8) ([aA.mk d.1 d.2.1 d.2.2.1 d.2.2.2.1 d.2.2.2.2.1]:List aA) ([]:List aC)]:List aA)) (f:=aE) rfl rfl rfl rfl (by simp only[List.map,aU]<;>rfl) rfl rfl<|wBd [.int .i64 6, .int .i64 0, .str [], .sl ([aA.mk v.1 v.2.1 v.2.2.1 v.2.2.2.1 v.2.2.2.2.1,aA.mk (5:Int) (0:Int) ([]:List UInt8) ([aA.mk d.1 d.2.1 d.2.2.1 d.2.2.2.1 d.2.2.2.2.1]:List aA) ([]:List aC)].map aE), .sl ([].map aD)] rfl rfl rfl rfl rfl rfl<|geo
 refine gcc 5 rfl<|cIf h rfl (fun x1 h=> ?_) (fun x1 h=> ?_)
 refine gco 3 rfl<|dM (L:=([([102]:List UInt8),([103]:List UInt8),([104]:List UInt8)]:List (List UInt8))) (f:=eG) rfl rfl rfl rfl rfl rfl rfl<|xC1 h (bZ ·) rfl (fun o4 h=> ?_)
 refine wBd [.int .i64 8, .int .i64 0, .str o4.1, .sl ([].map aE), .sl ([].map aD)] rfl rfl rfl rfl rfl rfl<|xAz [.int .i64 0, .int .i64 0, .str [], .sl ([].map aE), .sl ([].map aD)] rfl<|goc 13 rfl<|cIf h rfl (fun x2 h=> ?_) (fun x2 h=> ?_)
 refine gcc 8 rfl<|cLp h [(12,12),(120,134)] [(10,10),(1000000,1000000)] (fun(j9,k6,k7,k8,k9,l0,d0,d1,d2)=>([(12,I64 j9)],[(10,[.int .i64 k6, .int .i64 k7, .str k8, .sl (k9.map aE), .sl (l0.map aD)]),(1000000,[.sl (d0.map rI_u8), .int .i64 d1, .int .i64 d2])])) (fun(k0,e3,l1,l2,l3,l4,l5,d3,d4,d5)=>(.e 3,[(12,I64 k0),(122,Bo e3)],[(10,[.int .i64 l1, .int .i64 l2, .str l3, .sl (l4.map aE), .sl (l5.map aD)]),(1000000,[.sl (d3.map rI_u8), .int .i64 d4, .int .i64 d5])])) rfl (fun st _ h=> ?_) (fun q h=> ?_)
 obtain⟨j9,k6,k7,k8,k9,l0,d0,d1,d2⟩:=st
 unfold sF at h
 refine gcc 7 rfl<|cIf h rfl (fun x3 h=> ?_) (fun x3 h=> ?_)
 refine gco 10 rfl<|xC1 h (b ·) rfl (fun J h=> ?_)
 refine dM (L:=([aA.mk J.1 J.2.1 J.2.2.1 J.2.2.2.1 J.2.2.2.2.1]:List aA)) (f:=aE) rfl rfl rfl rfl (by simp only[List.map,aU]<;>rfl) rfl rfl<|wAp (f:=aE) h rfl rfl rfl rfl rfl rfl rfl rfl rfl (fun a=>by rw[aX]; rfl) rfl (fun u8 h=> ?_)
 exact geo
 exact gec
 obtain⟨k0,e3,l1,l2,l3,l4,l5,d3,d4,d5⟩:=q
 exact gec
 refine gcc 6 rfl<|cLp h [(12,12),(120,134)] [(10,10),(1000000,1000000)] (fun(k1,l6,l7,l8,l9,m0,d6,d7,d8)=>([(12,I64 k1)],[(10,[.int .i64 l6, .int .i64 l7, .str l8, .sl (l9.map aE), .sl (m0.map aD)]),(1000000,[.sl (d6.map rI_u8), .int .i64 d7, .int .i64 d8])])) (fun(k2,e4,f4,f5,f6,f7,f8,Q,R,T)=>(.e 3,[(12,I64 k2),(122,Bo e4)],[(10,[.int .i64 f4, .int .i64 f5, .str f6, .sl (f7.map aE), .sl (f8.map aD)]),(1000000,[.sl (Q.map rI_u8), .int .i64 R, .int .i64 T])])) rfl (fun st _ h=> ?_) (fun q h=> ?_)
 obtain⟨k1,l6,l7,l8,l9,m0,d6,d7,d8⟩:=st
 unfold sE at h
 refine gcc 7 rfl<|cIf h rfl (fun q1 h=> ?_) (fun q1 h=> ?_)
 refine gco 10 rfl<|xC1 h (b ·) rfl (fun G h=> ?_)
 refine dM (L:=([aA.mk G.1 G.2.1 G.2.2.1 G.2.2.2.1 G.2.2.2.2.1]:List aA)) (f:=aE) rfl rfl rfl rfl (by simp only[List.map,aU]<;>rfl) rfl rfl<|wAp (f:=aE) h rfl rfl rfl rfl rfl rfl rfl rfl rfl (fun a=>by rw[aX]; rfl) rfl (fun s3 h=> ?_)
 exact geo
 exact gec
 obtain⟨k2,e4,f4,f5,f6,f7,f8,Q,R,T⟩:=q
 exact gec
 refine gco 7 rfl<|xC1 h (b ·) rfl (fun j h=> ?_)
 refine dM (L:=([aA.mk j.1 j.2.1 j.2.2.1 j.2.2.2.1 j.2.2.2.2.1]:List aA)) (f:=aE) rfl rfl rfl rfl (by simp only[List.map,aU]<;>rfl) rfl rfl<|wBd [.int .i64 9, .int .i64 0, .str [], .sl ([aA.mk j.1 j.2.1 j.2.2.1 j.2.2.2.1 j.2.2.2.2.1].map aE), .sl ([].map aD)] rfl rfl rfl rfl rfl rfl<|xAz [.int .i64 0, .int .i64 0, .str [], .sl ([].map aE), .sl ([].map aD)] rfl<|goo 6 rfl<|xC1 h (aN ·) rfl (fun p7 h=> ?_)
 refine goc 3 rfl<|cLp h [(14,16),(146,168)] [(13,13),(15,16),(1000000,1000000)] (fun(e9,h9,i0,i1,i2,i3,U,V,W)=>([(14,I64 e9)],[(13,[.int .i64 h9, .int .i64 i0, .str i1, .sl (i2.map aE), .sl (i3.map aD)]),(1000000,[.sl (U.map rI_u8), .int .i64 V, .int .i64 W])])) (fun(f0,e1,i4,i5,i6,i7,i8,X,Y,Z)=>(.e 5,[(14,I64 f0),(147,Bo e1)],[(13,[.int .i64 i4, .int .i64 i5, .str i6, .sl (i7.map aE), .sl (i8.map aD)]),(1000000,[.sl (X.map rI_u8), .int .i64 Y, .int .i64 Z])])) rfl (fun st _ h=> ?_) (fun q h=> ?_)
 obtain⟨e9,h9,i0,i1,i2,i3,U,V,W⟩:=st
 unfold sD at h
 refine gcc 6 rfl<|cIf h rfl (fun q2 h=> ?_) (fun q2 h=> ?_)
 refine gco 5 rfl<|dM (L:=([]:List (List UInt8))) (f:=eG) rfl rfl rfl rfl rfl rfl rfl<|xAz [.sl ([].map eG)] rfl<|goo 5 rfl<|xCk h (vL ·) rfl (fun m h=> ?_)
 refine xAz [.int .i64 0, .int .i64 0, .str [], .sl ([].map aE), .sl ([].map aD)] rfl<|goo 9 rfl<|dM (L:=([]:List (List UInt8))) (f:=eG) rfl rfl rfl rfl rfl rfl rfl<|xMv rfl<|wAp (f:=eG) h rfl rfl rfl rfl rfl rfl rfl rfl rfl (fun _=>rfl) rfl (fun s6 h=> ?_)
 refine xLd rfl<|wAp (f:=eG) h rfl rfl rfl rfl rfl rfl rfl rfl rfl (fun _=>rfl) rfl (fun s8 h=> ?_)
 refine xC1 h (b ·) rfl (fun p h=> ?_)
 refine wBd [.int .i64 m.1, .int .i64 m.2.1, .str m.2.2.1, .sl (m.2.2.2.1.map aE), .sl (m.2.2.2.2.1.map aD), .int .i64 p.1, .int .i64 p.2.1, .str p.2.2.1, .sl (p.2.2.2.1.map aE), .sl (p.2.2.2.2.1.map aD)] rfl rfl rfl rfl rfl rfl<|dM (L:=([aC.mk m.1 m.2.1 m.2.2.1 m.2.2.2.1 m.2.2.2.2.1 p.1 p.2.1 p.2.2.1 p.2.2.2.1 p.2.2.2.2.1]:List aC)) (f:=aD) rfl rfl rfl rfl (by simp only[List.map,jS]<;>rfl) rfl rfl<|wAp (f:=aD) h rfl rfl rfl rfl rfl rfl rfl rfl rfl (fun a=>by rw[cB]; rfl) rfl (fun t0 h=> ?_)
 exact geo
 exact gec
 obtain⟨f0,e1,i4,i5,i6,i7,i8,X,Y,Z⟩:=q
 refine gco 4 rfl<|xC1 h (mJ ·) rfl (fun p9 h=> ?_)
 refine oNl<|cIf h rfl (fun q3 h=> ?_) (fun q3 h=> ?_)
 refine gco 3 rfl<|wBd [.int .i64 3, .int .i64 0, .str [95], .sl ([].map aE), .sl ([].map aD)] rfl rfl rfl rfl rfl rfl<|goo 4 rfl<|xC1 h (b ·) rfl (fun t h=> ?_)
 refine wBd [.int .i64 3, .int .i64 0, .str [95], .sl ([].map aE), .sl ([].map aD), .int .i64 t.1, .int .i64 t.2.1, .str t.2.2.1, .sl (t.2.2.2.1.map aE), .sl (t.2.2.2.2.1.map aD)] rfl rfl rfl rfl rfl rfl<|dM (L:=([aC.mk (3:Int) (0:Int) ([95]:List UInt8) ([]:List aA) ([]:List aC) t.1 t.2.1 t.2.2.1 t.2.2.2.1 t.2.2.2.2.1]:List aC)) (f:=aD) rfl rfl rfl rfl (by simp only[List.map,jS]<;>rfl) rfl rfl<|wAp (f:=aD) h rfl rfl rfl rfl rfl rfl rfl rfl rfl (fun a=>by rw[cB]; rfl) rfl (fun t2 h=> ?_)
 exact geo
 exact gec
 refine gcc 12 rfl<|cIf h rfl (fun q4 h=> ?_) (fun q4 h=> ?_)
 refine gco 3 rfl<|dM (L:=([(0:Int),(1:Int),(2:Int),(5:Int),(40:Int)]:List Int)) (f:=aW) rfl rfl rfl rfl rfl rfl rfl<|xC1 h (dD ·) rfl (fun t4 h=> ?_)
 refine xC0 h (dC ·) rfl (fun t5 h=> ?_)
 exact geo
 refine gcc 5 rfl<|cIf h rfl (fun q5 h=> ?_) (fun q5 h=> ?_)
 refine gco 3 rfl<|dM (L:=([([111,107]:List UInt8),([97]:List UInt8),([115,116,111,112]:List UInt8),([116,114,117,101]:List UInt8)]:List (List UInt8))) (f:=eG) rfl rfl rfl rfl rfl rfl rfl<|xC1 h (bZ ·) rfl (fun t6 h=> ?_)
 refine xC0 h (rT ·) rfl (fun t7 h=> ?_)
 exact geo
 refine gcc 6 rfl<|cIf h rfl (fun q6 h=> ?_) (fun q6 h=> ?_)
 refine gco 6 rfl<|xLn rfl<|goc 2 rfl<|cIf h rfl (fun q7 h=> ?_) (fun q7 h=> ?_)
 refine gco 5 rfl<|xLn rfl<|xC1 h (aN ·) rfl (fun t8 h=> ?_)
 refine xIx h oA rfl (fun o8 h=> ?_)
 exact xLd rfl<|wBd [.int .i64 3, .int .i64 0, .str o8, .sl ([].map aE), .sl ([].map aD)] rfl rfl rfl rfl rfl rfl<|geo
 refine gco 4 rfl<|xC1 h (aN ·) rfl (fun u1 h=> ?_)
 refine xC0 h (dC ·) rfl (fun u4 h=> ?_)
 exact geo
 refine gcc 5 rfl<|cIf h rfl (fun q8 h=> ?_) (fun q8 h=> ?_)
 refine gco 6 rfl<|xLn rfl<|goc 2 rfl<|cIf h rfl (fun q9 h=> ?_) (fun q9 h=> ?_)
 refine gco 5 rfl<|xLn rfl<|xC1 h (aN ·) rfl (fun t9 h=> ?_)
 refine xIx h oA rfl (fun o9 h=> ?_)
 exact xLd rfl<|wBd [.int .i64 3, .int .i64 0, .str o9, .sl ([].map aE), .sl ([].map aD)] rfl rfl rfl rfl rfl rfl<|geo
 refine gco 4 rfl<|xC1 h (aN ·) rfl (fun u2 h=> ?_)
 refine xC0 h (dC ·) rfl (fun u5 h=> ?_)
 exact geo
 refine gcc 4 rfl<|cIf h rfl (fun r0 h=> ?_) (fun r0 h=> ?_)
 refine gco 4 rfl<|xLn rfl<|goc 2 rfl<|cIf h rfl (fun r1 h=> ?_) (fun r1 h=> ?_)
 refine gco 5 rfl<|xLn rfl<|xC1 h (aN ·) rfl (fun u0 h=> ?_)
 refine xIx h oA rfl (fun p0 h=> ?_)
 exact xLd rfl<|wBd [.int .i64 3, .int .i64 0, .str p0, .sl ([].map aE), .sl ([].map aD)] rfl rfl rfl rfl rfl rfl<|geo
 refine gco 4 rfl<|xC1 h (aN ·) rfl (fun u3 h=> ?_)
 refine xC0 h (dC ·) rfl (fun u6 h=> ?_)
 exact geo
 refine gcc 6 rfl<|cIf h rfl (fun r2 h=> ?_) (fun r2 h=> ?_)
 refine gco 5 rfl<|dM (L:=([([43]:List UInt8),([45]:List UInt8),([42]:List UInt8),([61,61]:List UInt8),([60]:List UInt8),([43]:List UInt8)]:List (List UInt8))) (f:=eG) rfl rfl rfl rfl rfl rfl rfl<|xC1 h (bZ ·) rfl (fun o5 h=> ?_)
 refine goo 4 rfl<|xC1 h (b ·) rfl (fun w h=> ?_)
 refine goo 4 rfl<|xC1 h (b ·) rfl (fun z h=> ?_)
 exact dM (L:=([aA.mk w.1 w.2.1 w.2.2.1 w.2.2.2.1 w.2.2.2.2.1,aA.mk z.1 z.2.1 z.2.2.1 z.2.2.2.1 z.2.2.2.2.1]:List aA)) (f:=aE) rfl rfl rfl rfl (by simp only[List.map,aU]<;>rfl) rfl rfl<|wBd [.int .i64 7, .int .i64 0, .str o5.1, .sl ([aA.mk w.1 w.2.1 w.2.2.1 w.2.2.2.1 w.2.2.2.2.1,aA.mk z.1 z.2.1 z.2.2.1 z.2.2.2.1 z.2.2.2.2.1].map aE), .sl ([].map aD)] rfl rfl rfl rfl rfl rfl<|geo
 refine gcc 4 rfl<|cIf h rfl (fun r3 h=> ?_) (fun r3 h=> ?_)
 refine gco 3 rfl<|dM (L:=([([43]:List UInt8),([45]:List UInt8),([42]:List UInt8),([61,61]:List UInt8),([60]:List UInt8),([43]:List UInt8)]:List (List UInt8))) (f:=eG) rfl rfl rfl rfl rfl rfl rfl<|xC1 h (bZ ·) rfl (fun o6 h=> ?_)
 refine goo 4 rfl<|xC1 h (b ·) rfl (fun y h=> ?_)
 refine goo 4 rfl<|xC1 h (b ·) rfl (fun A h=> ?_)
 exact dM (L:=([aA.mk y.1 y.2.1 y.2.2.1 y.2.2.2.1 y.2.2.2.2.1,aA.mk A.1 A.2.1 A.2.2.1 A.2.2.2.1 A.2.2.2.2.1]:List aA)) (f:=aE) rfl rfl rfl rfl (by simp only[List.map,aU]<;>rfl) rfl rfl<|wBd [.int .i64 7, .int .i64 0, .str o6.1, .sl ([aA.mk y.1 y.2.1 y.2.2.1 y.2.2.2.1 y.2.2.2.2.1,aA.mk A.1 A.2.1 A.2.2.1 A.2.2.2.1 A.2.2.2.2.1].map aE), .sl ([].map aD)] rfl rfl rfl rfl rfl rfl<|geo
 refine gcc 5 rfl<|cIf h rfl (fun r4 h=> ?_) (fun r4 h=> ?_)
 refine gco 3 rfl<|dM (L:=([(4:Int),(5:Int)]:List Int)) (f:=aW) rfl rfl rfl rfl rfl rfl rfl<|xC1 h (dD ·) rfl (fun o7 h=> ?_)
 refine wBd [.int .i64 o7.1, .int .i64 0, .str [], .sl ([].map aE), .sl ([].map aD)] rfl rfl rfl rfl rfl rfl<|xAz [.int .i64 0, .int .i64 0, .str [], .sl ([].map aE), .sl ([].map aD)] rfl<|goo 6 rfl<|xC1 h (aN ·) rfl (fun u7 h=> ?_)
 refine goc 2 rfl<|cLp h [(9,9),(80,93)] [(8,8),(1000000,1000000)] (fun(k4,m1,m2,m3,m4,m5,a0,a1,a2)=>([(9,I64 k4)],[(8,[.int .i64 m1, .int .i64 m2, .str m3, .sl (m4.map aE), .sl (m5.map aD)]),(1000000,[.sl (a0.map rI_u8), .int .i64 a1, .int .i64 a2])])) (fun(k5,f3,m6,m7,m8,m9,n0,a3,a4,a5)=>(.e 1,[(9,I64 k5),(81,Bo f3)],[(8,[.int .i64 m6, .int .i64 m7, .str m8, .sl (m9.map aE), .sl (n0.map aD)]),(1000000,[.sl (a3.map rI_u8), .int .i64 a4, .int .i64 a5])])) rfl (fun st _ h=> ?_) (fun q h=> ?_)
 obtain⟨k4,m1,m2,m3,m4,m5,a0,a1,a2⟩:=st
 unfold kV at h
 refine gcc 6 rfl<|cIf h rfl (fun r5 h=> ?_) (fun r5 h=> ?_)
 refine gco 10 rfl<|xC1 h (b ·) rfl (fun K h=> ?_)
 refine dM (L:=([aA.mk K.1 K.2.1 K.2.2.1 K.2.2.2.1 K.2.2.2.2.1]:List aA)) (f:=aE) rfl rfl rfl rfl (by simp only[List.map,aU]<;>rfl) rfl rfl<|wAp (f:=aE) h rfl rfl rfl rfl rfl rfl rfl rfl rfl (fun a=>by rw[aX]; rfl) rfl (fun u9 h=> ?_)
 exact geo
 exact gec
 obtain⟨k5,f3,m6,m7,m8,m9,n0,a3,a4,a5⟩:=q
 exact gec
 refine gcc 5 rfl<|cIf h rfl (fun r6 h=> ?_) (fun r6 h=> ?_)
 refine gco 6 rfl<|xC1 h (b ·) rfl (fun g h=> ?_)
 refine goo 4 rfl<|xC1 h (b ·) rfl (fun c h=> ?_)
 exact dM (L:=([aA.mk c.1 c.2.1 c.2.2.1 c.2.2.2.1 c.2.2.2.2.1]:List aA)) (f:=aE) rfl rfl rfl rfl (by simp only[List.map,aU]<;>rfl) rfl rfl<|wBd [.int .i64 5, .int .i64 0, .str [], .sl ([aA.mk c.1 c.2.1 c.2.2.1 c.2.2.2.1 c.2.2.2.2.1].map aE), .sl ([].map aD)] rfl rfl rfl rfl rfl rfl<|dM (L:=([aA.mk g.1 g.2.1 g.2.2.1 g.2.2.2.1 g.2.2.2.2.1,aA.mk (5:Int) (0:Int) ([]:List UInt8) ([aA.mk c.1 c.2.1 c.2.2.1 c.2.2.2.1 c.2.2.2.2.1]:List aA) ([]:List aC)]:List aA)) (f:=aE) rfl rfl rfl rfl (by simp only[List.map,aU]<;>rfl) rfl rfl<|wBd [.int .i64 6, .int .i64 0, .str [], .sl ([aA.mk g.1 g.2.1 g.2.2.1 g.2.2.2.1 g.2.2.2.2.1,aA.mk (5:Int) (0:Int) ([]:List UInt8) ([aA.mk c.1 c.2.1 c.2.2.1 c.2.2.2.1 c.2.2.2.2.1]:List aA) ([]:List aC)].map aE), .sl ([].map aD)] rfl rfl rfl rfl rfl rfl<|geo
 refine gcc 5 rfl<|cIf h rfl (fun r7 h=> ?_) (fun r7 h=> ?_)
 refine gco 3 rfl<|dM (L:=([([102]:List UInt8),([103]:List UInt8),([104]:List UInt8)]:List (List UInt8))) (f:=eG) rfl rfl rfl rfl rfl rfl rfl<|xC1 h (bZ ·) rfl (fun n1 h=> ?_)
 refine wBd [.int .i64 8, .int .i64 0, .str n1.1, .sl ([].map aE), .sl ([].map aD)] rfl rfl rfl rfl rfl rfl<|xAz [.int .i64 0, .int .i64 0, .str [], .sl ([].map aE), .sl ([].map aD)] rfl<|goc 13 rfl<|cIf h rfl (fun r8 h=> ?_) (fun r8 h=> ?_)
 refine gcc 8 rfl<|cLp h [(12,12),(120,134)] [(10,10),(1000000,1000000)] (fun(e5,f9,g0,g1,g2,g3,a6,a7,a8)=>([(12,I64 e5)],[(10,[.int .i64 f9, .int .i64 g0, .str g1, .sl (g2.map aE), .sl (g3.map aD)]),(1000000,[.sl (a6.map rI_u8), .int .i64 a7, .int .i64 a8])])) (fun(e6,d9,g4,g5,g6,g7,g8,a9,b0,b1)=>(.e 3,[(12,I64 e6),(122,Bo d9)],[(10,[.int .i64 g4, .int .i64 g5, .str g6, .sl (g7.map aE), .sl (g8.map aD)]),(1000000,[.sl (a9.map rI_u8), .int .i64 b0, .int .i64 b1])])) rfl (fun st _ h=> ?_) (fun q h=> ?_)
 obtain⟨e5,f9,g0,g1,g2,g3,a6,a7,a8⟩:=st
 unfold kU at h
 refine gcc 7 rfl<|cIf h rfl (fun r9 h=> ?_) (fun r9 h=> ?_)
 refine gco 10 rfl<|xC1 h (b ·) rfl (fun H h=> ?_)
 refine dM (L:=([aA.mk H.1 H.2.1 H.2.2.1 H.2.2.2.1 H.2.2.2.2.1]:List aA)) (f:=aE) rfl rfl rfl rfl (by simp only[List.map,aU]<;>rfl) rfl rfl<|wAp (f:=aE) h rfl rfl rfl rfl rfl rfl rfl rfl rfl (fun a=>by rw[aX]; rfl) rfl (fun s4 h=> ?_)
 exact geo
 exact gec
 obtain⟨e6,d9,g4,g5,g6,g7,g8,a9,b0,b1⟩:=q
 exact gec
 refine gcc 6 rfl<|cLp h [(12,12),(120,134)] [(10,10),(1000000,1000000)] (fun(e7,g9,h0,h1,h2,h3,b2,b3,b4)=>([(12,I64 e7)],[(10,[.int .i64 g9, .int .i64 h0, .str h1, .sl (h2.map aE), .sl (h3.map aD)]),(1000000,[.sl (b2.map rI_u8), .int .i64 b3, .int .i64 b4])])) (fun(e8,e0,h4,h5,h6,h7,h8,b5,b6,b7)=>(.e 3,[(12,I64 e8),(122,Bo e0)],[(10,[.int .i64 h4, .int .i64 h5, .str h6, .sl (h7.map aE), .sl (h8.map aD)]),(1000000,[.sl (b5.map rI_u8), .int .i64 b6, .int .i64 b7])])) rfl (fun st _ h=> ?_) (fun q h=> ?_)
 obtain⟨e7,g9,h0,h1,h2,h3,b2,b3,b4⟩:=st
 unfold kT at h
 refine gcc 7 rfl<|cIf h rfl (fun s0 h=> ?_) (fun s0 h=> ?_)
 refine gco 10 rfl<|xC1 h (b ·) rfl (fun I h=> ?_)
 refine dM (L:=([aA.mk I.1 I.2.1 I.2.2.1 I.2.2.2.1 I.2.2.2.2.1]:List aA)) (f:=aE) rfl rfl rfl rfl (by simp only[List.map,aU]<;>rfl) rfl rfl<|wAp (f:=aE) h rfl rfl rfl rfl rfl rfl rfl rfl rfl (fun a=>by rw[aX]; rfl) rfl (fun s5 h=> ?_)
 exact geo
 exact gec
 obtain⟨e8,e0,h4,h5,h6,h7,h8,b5,b6,b7⟩:=q
 exact gec
 refine gco 7 rfl<|xC1 h (b ·) rfl (fun l h=> ?_)
 refine dM (L:=([aA.mk l.1 l.2.1 l.2.2.1 l.2.2.2.1 l.2.2.2.2.1]:List aA)) (f:=aE) rfl rfl rfl rfl (by simp only[List.map,aU]<;>rfl) rfl rfl<|wBd [.int .i64 9, .int .i64 0, .str [], .sl ([aA.mk l.1 l.2.1 l.2.2.1 l.2.2.2.1 l.2.2.2.2.1].map aE), .sl ([].map aD)] rfl rfl rfl rfl rfl rfl<|xAz [.int .i64 0, .int .i64 0, .str [], .sl ([].map aE), .sl ([].map aD)] rfl<|goo 6 rfl<|xC1 h (aN ·) rfl (fun p8 h=> ?_)
 refine goc 3 rfl<|cLp h [(14,16),(146,168)] [(13,13),(15,16),(1000000,1000000)] (fun(f1,i9,j0,j1,j2,j3,b8,b9,c0)=>([(14,I64 f1)],[(13,[.int .i64 i9, .int .i64 j0, .str j1, .sl (j2.map aE), .sl (j3.map aD)]),(1000000,[.sl (b8.map rI_u8), .int .i64 b9, .int .i64 c0])])) (fun(f2,e2,j4,j5,j6,j7,j8,c1,c2,c3)=>(.e 5,[(14,I64 f2),(147,Bo e2)],[(13,[.int .i64 j4, .int .i64 j5, .str j6, .sl (j7.map aE), .sl (j8.map aD)]),(1000000,[.sl (c1.map rI_u8), .int .i64 c2, .int .i64 c3])])) rfl (fun st _ h=> ?_) (fun q h=> ?_)
 obtain⟨f1,i9,j0,j1,j2,j3,b8,b9,c0⟩:=st
 unfold kR at h
 refine gcc 6 rfl<|cIf h rfl (fun s1 h=> ?_) (fun s1 h=> ?_)
 refine gco 5 rfl<|dM (L:=([]:List (List UInt8))) (f:=eG) rfl rfl rfl rfl rfl rfl rfl<|xAz [.sl ([].map eG)] rfl<|goo 5 rfl<|xCk h (vL ·) rfl (fun o h=> ?_)
 refine xAz [.int .i64 0, .int .i64 0, .str [], .sl ([].map aE), .sl ([].map aD)] rfl<|goo 9 rfl<|dM (L:=([]:List (List UInt8))) (f:=eG) rfl rfl rfl rfl rfl rfl rfl<|xMv rfl<|wAp (f:=eG) h rfl rfl rfl rfl rfl rfl rfl rfl rfl (fun _=>rfl) rfl (fun s7 h=> ?_)
 refine xLd rfl<|wAp (f:=eG) h rfl rfl rfl rfl rfl rfl rfl rfl rfl (fun _=>rfl) rfl (fun s9 h=> ?_)
 refine xC1 h (b ·) rfl (fun s h=> ?_)
 refine wBd [.int .i64 o.1, .int .i64 o.2.1, .str o.2.2.1, .sl (o.2.2.2.1.map aE), .sl (o.2.2.2.2.1.map aD), .int .i64 s.1, .int .i64 s.2.1, .str s.2.2.1, .sl (s.2.2.2.1.map aE), .sl (s.2.2.2.2.1.map aD)] rfl rfl rfl rfl rfl rfl<|dM (L:=([aC.mk o.1 o.2.1 o.2.2.1 o.2.2.2.1 o.2.2.2.2.1 s.1 s.2.1 s.2.2.1 s.2.2.2.1 s.2.2.2.2.1]:List aC)) (f:=aD) rfl rfl rfl rfl (by simp only[List.map,jS]<;>rfl) rfl rfl<|wAp (f:=aD) h rfl rfl rfl rfl rfl rfl rfl rfl rfl (fun a=>by rw[cB]; rfl) rfl (fun t1 h=> ?_)
 exact geo
 exact gec
 obtain⟨f2,e2,j4,j5,j6,j7,j8,c1,c2,c3⟩:=q
 refine gco 4 rfl<|xC1 h (mJ ·) rfl (fun q0 h=> ?_)
 refine oNl<|cIf h rfl (fun s2 h=> ?_) (fun s2 h=> ?_)
 refine gco 3 rfl<|wBd [.int .i64 3, .int .i64 0, .str [95], .sl ([].map aE), .sl ([].map aD)] rfl rfl rfl rfl rfl rfl<|goo 4 rfl<|xC1 h (b ·) rfl (fun u h=> ?_)
 refine wBd [.int .i64 3, .int .i64 0, .str [95], .sl ([].map aE), .sl ([].map aD), .int .i64 u.1, .int .i64 u.2.1, .str u.2.2.1, .sl (u.2.2.2.1.map aE), .sl (u.2.2.2.2.1.map aD)] rfl rfl rfl rfl rfl rfl<|dM (L:=([aC.mk (3:Int) (0:Int) ([95]:List UInt8) ([]:List aA) ([]:List aC) u.1 u.2.1 u.2.2.1 u.2.2.2.1 u.2.2.2.2.1]:List aC)) (f:=aD) rfl rfl rfl rfl (by simp only[List.map,jS]<;>rfl) rfl rfl<|wAp (f:=aD) h rfl rfl rfl rfl rfl rfl rfl rfl rfl (fun a=>by rw[cB]; rfl) rfl (fun t3 h=> ?_)
 exact geo
 exact gec
def xS:Nat→(cO)
  | 0=>(fun _ _ _ _ _=>none)
  | n+1=>lS n (xS n)
def bK(n:Nat):cO:=xS n
theorem As(n:Nat):oK (bK n):=by
  induction n with
  | zero=>exact(fun h=>nomatch h)
  | succ n ih=>exact Am (n:=n) ih
theorem Cr{n:Nat}:oK (bK n):=(As n)
theorem yJ(n:Nat):bK (n+1)=lS n (bK n):=rfl
abbrev Ds(p:(List (List UInt8))→(List Int)→Int→Int→Option (Int×Int×(List UInt8)×(List aA)×(List aC)×(List Int)×Int×Int)):Prop:= ∀ {f:List (List UInt8)} {a:List Int} {b d:Int} {r:Int×Int×(List UInt8)×(List aA)×(List aC)×(List Int)×Int×Int},p f a b d=some r→Big Try.prog τ An (.fn 238 [.one (.ptr 1000000 0), .one (.c (.sl (f.map eG)))] [[.sl (a.map rI_u8), .int .i64 b, .int .i64 d]] (.one (.ag [.int .i64 r.1, .int .i64 r.2.1, .str r.2.2.1, .sl (r.2.2.2.1.map aE), .sl (r.2.2.2.2.1.map aD)])) none [[.sl (r.2.2.2.2.2.1.map rI_u8), .int .i64 r.2.2.2.2.2.2.1, .int .i64 r.2.2.2.2.2.2.2]] none)
def iN(n:Nat)(j:List (List UInt8))(d:List Int)(f:Int)(g:Int):Option (Int×Int×(List UInt8)×(List aA)×(List aC)×(List Int)×Int×Int):=
  (bK n (3:Int) j d f g).bind fun a=>(oF n a.1 a.2.1 a.2.2.1 a.2.2.2.1 a.2.2.2.2.1).bind fun c=>bif !c then(cJ n (1:Int)).bind fun b=>some (b.1,b.2.1,b.2.2.1,b.2.2.2.1,b.2.2.2.2,a.2.2.2.2.2.1,a.2.2.2.2.2.2.1,a.2.2.2.2.2.2.2)else some (a.1,a.2.1,a.2.2.1,a.2.2.2.1,a.2.2.2.2.1,a.2.2.2.2.2.1,a.2.2.2.2.2.2.1,a.2.2.2.2.2.2.2)
theorem sJ{n:Nat}:Ds (iN n):=by
 intro l d f g r h
 unfold iN at h
 refine bF Try.func238 rfl rfl<|cRs<|xAz [.int .i64 0, .int .i64 0, .str [], .sl ([].map aE), .sl ([].map aD)] rfl<|goo 5 rfl<|xC1 h (Cr ·) rfl (fun c h=> ?_)
 refine xAz [.int .i64 0, .int .i64 0, .str [], .sl ([].map aE), .sl ([].map aD)] rfl<|goo 6 rfl<|xC0 h (Ct ·) rfl (fun a h=> ?_)
 refine goc 2 rfl<|cIf h rfl (fun j h=> ?_) (fun j h=> ?_)
 refine cRs<|xC0 h (dC ·) rfl (fun b h=> ?_)
 exact geo
 exact gec
abbrev Fo(p:(List Int)→Int→Int→Option ((List aY)×(List Int)×Int×Int)):Prop:= ∀ {a:List Int} {b c:Int} {r:(List aY)×(List Int)×Int×Int},p a b c=some r→Big Try.prog τ An (.fn 241 [.one (.ptr 1000000 0)] [[.sl (a.map rI_u8), .int .i64 b, .int .i64 c]] (.one (.ag [.sl (r.1.map dN)])) none [[.sl (r.2.1.map rI_u8), .int .i64 r.2.2.1, .int .i64 r.2.2.2]] none)
def nX(n:Nat):(Int×(List aY)×(List Int)×Int×Int)→Option ((Int×(List aY)×(List Int)×Int×Int)⊕((Int×Bool×(List aY)×(List Int)×Int×Int)))
  | (j,p,c,d,f)=>bif decide (j<(3:Int))then(((ix ([([102]:List UInt8),([103]:List UInt8),([104]:List UInt8)]:List (List UInt8)) j).bind fun g=>bif decide (j=(1:Int))then(iN n ([([88]:List UInt8),([89]:List UInt8)]:List (List UInt8)) c d f).bind fun a=>(fQ 120 p ([aY.mk g ([([88]:List UInt8),([89]:List UInt8)]:List (List UInt8)) a.1 a.2.1 a.2.2.1 a.2.2.2.1 a.2.2.2.2.1]:List aY)).bind fun s=>some (s,g,([([88]:List UInt8),([89]:List UInt8)]:List (List UInt8)),a.1,a.2.1,a.2.2.1,a.2.2.2.1,a.2.2.2.2.1,a.2.2.2.2.2.1,a.2.2.2.2.2.2.1,a.2.2.2.2.2.2.2)else(iN n ([([88]:List UInt8)]:List (List UInt8)) c d f).bind fun b=>(fQ 120 p ([aY.mk g ([([88]:List UInt8)]:List (List UInt8)) b.1 b.2.1 b.2.2.1 b.2.2.2.1 b.2.2.2.2.1]:List aY)).bind fun t=>some (t,g,([([88]:List UInt8)]:List (List UInt8)),b.1,b.2.1,b.2.2.1,b.2.2.2.1,b.2.2.2.2.1,b.2.2.2.2.2.1,b.2.2.2.2.2.2.1,b.2.2.2.2.2.2.2):Option (((List aY)×(List UInt8)×(List (List UInt8))×Int×Int×(List UInt8)×(List aA)×(List aC)×(List Int)×Int×Int)))).bind fun(u,v,w,y,z,A,B,C,l,m,o)=>some (.inl ((IntKind.wrap .i64 (j+(1:Int))),u,l,m,o))else some (.inr (j,false,p,c,d,f))
def lX(n:Nat)(d:List Int)(f:Int)(g:Int):Option ((List aY)×(List Int)×Int×Int):=
  (loopN (nX n) n ((0:Int),([]:List aY),d,f,g)).bind fun(l,m,j,c,a,b)=>some (j,c,a,b)
theorem Co{n:Nat}:Fo (lX n):=by
 intro Q R T r h
 unfold lX at h
 refine bF Try.func241 rfl rfl<|cRs<|xAz [.sl ([].map dN)] rfl<|oRs<|wBd [.sl ([].map dN)] rfl rfl rfl rfl rfl rfl<|xAz [.sl ([].map dN)] rfl<|goc 7 rfl<|cLp h [(4,5),(7,31)] [(3,3),(5,5),(1000000,1000000)] (fun(D,H,m,o,p)=>([(4,I64 D)],[(3,[.sl (H.map dN)]),(1000000,[.sl (m.map rI_u8), .int .i64 o, .int .i64 p])])) (fun(E,G,I,s,c,d)=>(.e 0,[(4,I64 E),(8,Bo G)],[(3,[.sl (I.map dN)]),(1000000,[.sl (s.map rI_u8), .int .i64 c, .int .i64 d])])) rfl (fun st _ h=> ?_) (fun q h=> ?_)
 obtain⟨D,H,m,o,p⟩:=st
 unfold nX at h
 refine gcc 6 rfl<|cIf h rfl (fun J h=> ?_) (fun J h=> ?_)
 refine gcc 2 rfl<|cJn h [(5,5),(11,31)] [(3,3),(5,5),(1000000,1000000)] (fun(u,v,w,y,z,A,B,C,g,j,l)=>(.n,[],[(3,[.sl (u.map dN)]),(5,[.str v, .sl (w.map eG), .int .i64 y, .int .i64 z, .str A, .sl (B.map aE), .sl (C.map aD)]),(1000000,[.sl (g.map rI_u8), .int .i64 j, .int .i64 l])])) (fun _ h=> ?_) (fun q h=> ?_)
 refine gco 3 rfl<|dM (L:=([([102]:List UInt8),([103]:List UInt8),([104]:List UInt8)]:List (List UInt8))) (f:=eG) rfl rfl rfl rfl rfl rfl rfl<|xMv rfl<|xIx h oA rfl (fun t h=> ?_)
 refine xLd rfl<|dM (L:=([([88]:List UInt8)]:List (List UInt8))) (f:=eG) rfl rfl rfl rfl rfl rfl rfl<|wBd [.str t, .sl ([([88]:List UInt8)].map eG), .int .i64 0, .int .i64 0, .str [], .sl ([].map aE), .sl ([].map aD)] rfl rfl rfl rfl rfl rfl<|xAz [.str [], .sl ([].map eG), .int .i64 0, .int .i64 0, .str [], .sl ([].map aE), .sl ([].map aD)] rfl<|goc 8 rfl<|cIf h rfl (fun K h=> ?_) (fun K h=> ?_)
 refine cRg<|dM (L:=([([88]:List UInt8),([89]:List UInt8)]:List (List UInt8))) (f:=eG) rfl rfl rfl rfl rfl rfl rfl<|goo 8 rfl<|xC1 h (sJ ·) rfl (fun a h=> ?_)
 refine goo 7 rfl<|dM (L:=([aY.mk t ([([88]:List UInt8),([89]:List UInt8)]:List (List UInt8)) a.1 a.2.1 a.2.2.1 a.2.2.2.1 a.2.2.2.2.1]:List aY)) (f:=dN) rfl rfl rfl rfl rfl rfl rfl<|wAp (f:=dN) h rfl rfl rfl rfl rfl rfl rfl rfl rfl (fun _=>rfl) rfl (fun M h=> ?_)
 exact geo
 refine gco 6 rfl<|xC1 h (sJ ·) rfl (fun b h=> ?_)
 refine goo 7 rfl<|dM (L:=([aY.mk t ([([88]:List UInt8)]:List (List UInt8)) b.1 b.2.1 b.2.2.1 b.2.2.2.1 b.2.2.2.2.1]:List aY)) (f:=dN) rfl rfl rfl rfl rfl rfl rfl<|wAp (f:=dN) h rfl rfl rfl rfl rfl rfl rfl rfl rfl (fun _=>rfl) rfl (fun N h=> ?_)
 exact geo
 obtain⟨u,v,w,y,z,A,B,C,g,j,l⟩:=q
 exact gec
 exact gec
 obtain⟨E,G,I,s,c,d⟩:=q
 exact gec
abbrev Fl(p:(List Int)→Int→Int→Option ((List aG)×(List aB)×(List Int)×Int×Int)):Prop:= ∀ {a:List Int} {b c:Int} {r:(List aG)×(List aB)×(List Int)×Int×Int},p a b c=some r→Big Try.prog τ An (.fn 205 [.one (.ptr 1000000 0)] [[.sl (a.map rI_u8), .int .i64 b, .int .i64 c]] (.one (.ag [.sl (r.1.map aK), .sl (r.2.1.map aH)])) none [[.sl (r.2.2.1.map rI_u8), .int .i64 r.2.2.2.1, .int .i64 r.2.2.2.2]] none)
def lW(n:Nat)(c:List Int)(d:Int)(f:Int):Option ((List aG)×(List aB)×(List Int)×Int×Int):=
  (lX n c d f).bind fun a=>(iG n a.1).bind fun b=>some (b.1,b.2,a.2.1,a.2.2.1,a.2.2.2)
theorem Cn{n:Nat}:Fl (lW n):=by
 intro c d f r h
 unfold lW at h
 refine bF Try.func205 rfl rfl<|cRs<|xAz [.sl ([].map aK), .sl ([].map aH)] rfl<|goo 4 rfl<|xC1 h (Co ·) rfl (fun a h=> ?_)
 refine xC0 h (yN ·) rfl (fun b h=> ?_)
 exact geo
abbrev Hg(p:(List Int)→Int→Int→Option ((List aG)×(List aB)×(List Int)×Int×Int)):Prop:= ∀ {a:List Int} {b c:Int} {r:(List aG)×(List aB)×(List Int)×Int×Int},p a b c=some r→Big Try.prog τ An (.fn 135 [.one (.ptr 1000000 0)] [[.sl (a.map rI_u8), .int .i64 b, .int .i64 c]] (.one (.ag [.sl (r.1.map aK), .sl (r.2.1.map aH)])) none [[.sl (r.2.2.1.map rI_u8), .int .i64 r.2.2.2.1, .int .i64 r.2.2.2.2]] none)
def nN(n:Nat)(d:List Int)(f:Int)(g:Int):Option ((List aG)×(List aB)×(List Int)×Int×Int):=
  (lW n d f g).bind fun a=>(fW n (4:Int) a.2.2.1 a.2.2.2.1 a.2.2.2.2).bind fun b=>bif b.1 then(jM n a.1 a.2.1 b.2.1 b.2.2.1 b.2.2.2).bind fun c=>some (c.1,c.2.1,c.2.2.1,c.2.2.2.1,c.2.2.2.2)else some (a.1,a.2.1,b.2.1,b.2.2.1,b.2.2.2)
theorem Dm{n:Nat}:Hg (nN n):=by
 intro d f g r h
 unfold nN at h
 refine bF Try.func135 rfl rfl<|cRs<|xAz [.sl ([].map aK), .sl ([].map aH)] rfl<|goo 4 rfl<|xC1 h (Cn ·) rfl (fun b h=> ?_)
 refine xAz [.sl ([].map aK), .sl ([].map aH)] rfl<|goo 6 rfl<|xC1 h (mJ ·) rfl (fun c h=> ?_)
 refine oNl<|cIf h rfl (fun j h=> ?_) (fun j h=> ?_)
 refine gco 3 rfl<|xC1 h (tW ·) rfl (fun a h=> ?_)
 exact geo
 exact gec
abbrev wR(p:(List Int)→Option ((List aG)×(List aB)×(List aG)×(List aB))):Prop:= ∀ {a:List Int} {r:(List aG)×(List aB)×(List aG)×(List aB)},p a=some r→Big Try.prog τ An (.fn 63 [.one (.c (.sl (a.map rI_u8)))] [] (.tup [.ag [.sl (r.1.map aK), .sl (r.2.1.map aH)], .ag [.sl (r.2.2.1.map aK), .sl (r.2.2.2.map aH)]]) none [] none)
def fF(n:Nat)(g:List Int):Option ((List aG)×(List aB)×(List aG)×(List aB)):=
  (nO n g).bind fun c=>(nN n c.1 c.2.1 c.2.2).bind fun a=>(fW n (2:Int) a.2.2.1 a.2.2.2.1 a.2.2.2.2).bind fun b=>bif b.1 then(jK n a.1 a.2.1).bind fun d=>some (a.1,a.2.1,d.1,d.2)else(jM n a.1 a.2.1 b.2.1 b.2.2.1 b.2.2.2).bind fun f=>some (a.1,a.2.1,f.1,f.2.1)
theorem uM{n:Nat}:wR (fF n):=by
 intro j r h
 unfold fF at h
 refine bF Try.func63 rfl rfl<|cRs<|xAz [.sl ([].map aK), .sl ([].map aH)] rfl<|xAz [.sl ([].map aK), .sl ([].map aH)] rfl<|goo 4 rfl<|wCn h (fun _=>(Dn ·)) rfl rfl rfl rfl rfl rfl rfl (fun _=>rfl) (fun d h=> ?_)
 refine goo 5 rfl<|xC1 h (Dm ·) rfl (fun f h=> ?_)
 refine xAz [.sl ([].map aK), .sl ([].map aH)] rfl<|goo 6 rfl<|xC1 h (mJ ·) rfl (fun a h=> ?_)
 refine oNl<|cIf h rfl (fun g h=> ?_) (fun g h=> ?_)
 refine gco 4 rfl<|xC0 h (tV ·) rfl (fun b h=> ?_)
 exact geo
 refine gco 6 rfl<|xC1 h (tW ·) rfl (fun c h=> ?_)
 exact geo
abbrev wT(p:(List aF)→(List aF)→Option (Bool)):Prop:= ∀ {a b:List aF} {r:Bool},p a b=some r→Big Try.prog τ An (.fn 139 [.one (.c (.sl (a.map aL))), .one (.c (.sl (b.map aL)))] [] (.one (.c (.bool r))) none [] none)
def fK(n:Nat)(d:List aF)(f:List aF):(Int)→Option ((Int)⊕((Bool)⊕(Int×Bool)))
  | a=>bif decide (a<(d.length:Int))then(ix d a).bind fun b=>(ix f a).bind fun c=>bif !(decide (b.f0=c.f0)&&(decide (b.f1=c.f1)&&(decide (b.f2=c.f2)&&(decide (b.f3=c.f3)&&true))))then some (.inr (.inl false))else some (.inl (IntKind.wrap .i64 (a+(1:Int))))else some (.inr (.inr (a,false)))
def fH(n:Nat)(a:List aF)(b:List aF):Option (Bool):=
  bif !decide ((a.length:Int)=(b.length:Int))then some false else(loopN (fK n a b) n (0:Int)).bind fun q=>(match q with | .inl c=>some c | .inr (d,f)=>some true)
theorem uO{n:Nat}:wT (fH n):=by
 intro o p r h
 unfold fH at h
 refine bF Try.func139 rfl rfl<|gco 8 rfl<|xLn rfl<|xMv rfl<|xLn rfl<|goc 2 rfl<|cIf h rfl (fun j h=> ?_) (fun j h=> ?_)
 exact gec
 refine gco 5 rfl<|xLn rfl<|goc 2 rfl<|cLp h [(4,5),(13,25)] [] (fun c=>([(13,I64 c)],[])) (fun q=>match q with | .inl g=>(.r,[(4,Bo g)],[]) | .inr (d,f)=>(.e 0,[(13,I64 d),(14,Bo f)],[])) rfl (fun c _ h=> ?_) (fun q h=> ?_)
 unfold fK at h
 refine gcc 5 rfl<|cIf h rfl (fun l h=> ?_) (fun l h=> ?_)
 refine gco 12 rfl<|xIx h gD rfl (fun a h=> ?_)
 refine goo 3 rfl<|xIx h gD rfl (fun b h=> ?_)
 refine xLd rfl<|wBi (.bool (!(decide (a.f0=b.f0)&&(decide (a.f1=b.f1)&&(decide (a.f2=b.f2)&&(decide (a.f3=b.f3)&&true)))))) rfl rfl rfl rfl rfl<|oNl<|cIf h rfl (fun m h=> ?_) (fun m h=> ?_)
 exact gec
 exact gec
 exact gec
 rcases q with g | ⟨d,f⟩
 exact en
 exact gec
abbrev zY(p:(List UInt8)→Int→Int→(List aF)→(List UInt8)→Int→Int→(List aF)→Option (Bool)):Prop:= ∀ {a:List UInt8} {b d:Int} {f:List aF} {g:List UInt8} {j l:Int} {m:List aF} {r:Bool},p a b d f g j l m=some r→Big Try.prog τ An (.fn 138 [.one (.ag [.str a, .int .i64 b, .int .i64 d, .sl (f.map aL)]), .one (.ag [.str g, .int .i64 j, .int .i64 l, .sl (m.map aL)])] [] (.one (.c (.bool r))) none [] none)
def gO(n:Nat)(b:List UInt8)(c:Int)(d:Int)(f:List aF)(g:List UInt8)(j:Int)(l:Int)(m:List aF):Option (Bool):=
  (bif decide (b=g)then bif decide (c=j)then bif decide (d=l)then(fH n f m).bind fun a=>some a else some false else some false else some false).bind fun o=>some o
theorem wQ{n:Nat}:zY (gO n):=by
 intro g j l m o p s t r h
 unfold gO at h
 refine bF Try.func138 rfl rfl<|gco 8 rfl<|oJn h [(4,30)] [] (fun a=>(.n,[(4,Bo a)],[])) (fun _ h=> ?_) (fun a h=> ?_)
 refine goo 6 rfl<|oIf 10 h rfl (fun c h=> ?_) (fun c h=> ?_)
 refine goo 7 rfl<|oIf 17 h rfl (fun d h=> ?_) (fun d h=> ?_)
 refine goo 7 rfl<|oIf 24 h rfl (fun f h=> ?_) (fun f h=> ?_)
 refine goo 4 rfl<|xC0 h (uO ·) rfl (fun b h=> ?_)
 exact geo
 exact geo
 exact geo
 exact geo
 exact gec
abbrev rZ(p:(List aG)→(List aG)→Option (Bool)):Prop:= ∀ {a b:List aG} {r:Bool},p a b=some r→Big Try.prog τ An (.fn 137 [.one (.c (.sl (a.map aK))), .one (.c (.sl (b.map aK))), .one (.fn 138 [])] [] (.one (.c (.bool r))) none [] none)
def dO(n:Nat)(d:List aG)(g:List aG):(Int)→Option ((Int)⊕((Bool)⊕(Int×Bool)))
  | a=>bif decide (a<(d.length:Int))then(ix d a).bind fun b=>(ix g a).bind fun c=>(gO n b.f0 b.f1 b.f2 b.f3 c.f0 c.f1 c.f2 c.f3).bind fun f=>bif !f then some (.inr (.inl false))else some (.inl (IntKind.wrap .i64 (a+(1:Int))))else some (.inr (.inr (a,false)))
def dG(n:Nat)(a:List aG)(b:List aG):Option (Bool):=
  bif !decide ((a.length:Int)=(b.length:Int))then some false else(loopN (dO n a b) n (0:Int)).bind fun q=>(match q with | .inl c=>some c | .inr (d,f)=>some true)
theorem qQ{n:Nat}:rZ (dG n):=by
 intro p s r h
 unfold dG at h
 refine bF Try.func137 rfl rfl<|gco 8 rfl<|xLn rfl<|xMv rfl<|xLn rfl<|goc 2 rfl<|cIf h rfl (fun m h=> ?_) (fun m h=> ?_)
 exact gec
 refine gco 5 rfl<|xLn rfl<|goc 2 rfl<|cLp h [(6,9),(17,31)] [(8,9)] (fun a=>([(17,I64 a)],[])) (fun q=>match q with | .inl d=>(.r,[(6,Bo d)],[]) | .inr (b,c)=>(.e 0,[(17,I64 b),(18,Bo c)],[])) rfl (fun a _ h=> ?_) (fun q h=> ?_)
 unfold dO at h
 refine gcc 5 rfl<|cIf h rfl (fun o h=> ?_) (fun o h=> ?_)
 refine gco 6 rfl<|xIx h dX rfl (fun j h=> ?_)
 refine xLd rfl<|xAz [.str [], .int .i64 0, .int .i64 0, .sl ([].map aL)] rfl<|goo 7 rfl<|xIx h dX rfl (fun l h=> ?_)
 refine xLd rfl<|xAz [.str [], .int .i64 0, .int .i64 0, .sl ([].map aL)] rfl<|goo 7 rfl<|xC0 h (wQ ·) rfl (fun g h=> ?_)
 refine goc 2 rfl<|cIf h rfl (fun f h=> ?_) (fun f h=> ?_)
 exact gec
 exact gec
 exact gec
 rcases q with d | ⟨b,c⟩
 exact en
 exact gec
abbrev eV:Type:=Int→Int→(List UInt8)→(List aB)→Int→Int→(List UInt8)→(List aB)→Option (Bool)
abbrev kN(p:eV):Prop:= ∀ {a b:Int} {d:List UInt8} {f:List aB} {g j:Int} {l:List UInt8} {m:List aB} {r:Bool},p a b d f g j l m=some r→Big Try.prog τ An (.fn 141 [.one (.ag [.int .i64 a, .int .i64 b, .str d, .sl (f.map aH)]), .one (.ag [.int .i64 g, .int .i64 j, .str l, .sl (m.map aH)])] [] (.one (.c (.bool r))) none [] none)
abbrev bU:Type:=(List aB)→(List aB)→Option (Bool)
abbrev dI(p:bU):Prop:= ∀ {a b:List aB} {r:Bool},p a b=some r→Big Try.prog τ An (.fn 140 [.one (.c (.sl (a.map aH))), .one (.c (.sl (b.map aH))), .one (.fn 141 [])] [] (.one (.c (.bool r))) none [] none)
def kF(n:Nat)(a:bU)(b:eV)(d:Int)(f:Int)(g:List UInt8)(j:List aB)(l:Int)(m:Int)(o:List UInt8)(p:List aB):Option (Bool):=
  (bif decide (d=l)then bif decide (f=m)then bif decide (g=o)then(a j p).bind fun c=>some c else some false else some false else some false).bind fun s=>some s
theorem zO{n:Nat}{a:bU}(b:dI a){c:eV}(d:kN c):kN (kF n a c):=by
 intro o p s t u v w y r h
 unfold kF at h
 refine bF Try.func141 rfl rfl<|gco 8 rfl<|oJn h [(4,30)] [] (fun f=>(.n,[(4,Bo f)],[])) (fun _ h=> ?_) (fun f h=> ?_)
 refine goo 6 rfl<|oIf 10 h rfl (fun j h=> ?_) (fun j h=> ?_)
 refine goo 7 rfl<|oIf 17 h rfl (fun l h=> ?_) (fun l h=> ?_)
 refine goo 7 rfl<|oIf 24 h rfl (fun m h=> ?_) (fun m h=> ?_)
 refine goo 4 rfl<|xC0 h (b ·) rfl (fun g h=> ?_)
 exact geo
 exact geo
 exact geo
 exact geo
 exact gec
def dP(n:Nat)(b:eV)(f:List aB)(j:List aB):(Int)→Option ((Int)⊕((Bool)⊕(Int×Bool)))
  | a=>bif decide (a<(f.length:Int))then(ix f a).bind fun c=>(ix j a).bind fun d=>(b c.f0 c.f1 c.f2 c.f3 d.f0 d.f1 d.f2 d.f3).bind fun g=>bif !g then some (.inr (.inl false))else some (.inl (IntKind.wrap .i64 (a+(1:Int))))else some (.inr (.inr (a,false)))
def dF(n:Nat)(b:bU)(a:eV)(c:List aB)(d:List aB):Option (Bool):=
  bif !decide ((c.length:Int)=(d.length:Int))then some false else(loopN (dP n a c d) n (0:Int)).bind fun q=>(match q with | .inl f=>some f | .inr (g,j)=>some true)
theorem qB{n:Nat}{a:bU}(d:dI a){b:eV}(c:kN b):dI (dF n a b):=by
 intro v w r h
 unfold dF at h
 refine bF Try.func140 rfl rfl<|gco 8 rfl<|xLn rfl<|xMv rfl<|xLn rfl<|goc 2 rfl<|cIf h rfl (fun t h=> ?_) (fun t h=> ?_)
 exact gec
 refine gco 5 rfl<|xLn rfl<|goc 2 rfl<|cLp h [(6,9),(17,31)] [(8,9)] (fun f=>([(17,I64 f)],[])) (fun q=>match q with | .inl l=>(.r,[(6,Bo l)],[]) | .inr (g,j)=>(.e 0,[(17,I64 g),(18,Bo j)],[])) rfl (fun f _ h=> ?_) (fun q h=> ?_)
 unfold dP at h
 refine gcc 5 rfl<|cIf h rfl (fun u h=> ?_) (fun u h=> ?_)
 refine gco 6 rfl<|xIx h aP rfl (fun p h=> ?_)
 refine xLd rfl<|xAz [.int .i64 0, .int .i64 0, .str [], .sl ([].map aH)] rfl<|goo 7 rfl<|xIx h aP rfl (fun s h=> ?_)
 refine xLd rfl<|xAz [.int .i64 0, .int .i64 0, .str [], .sl ([].map aH)] rfl<|goo 7 rfl<|xC0 h (c ·) rfl (fun o h=> ?_)
 refine goc 2 rfl<|cIf h rfl (fun m h=> ?_) (fun m h=> ?_)
 exact gec
 exact gec
 exact gec
 rcases q with l | ⟨g,j⟩
 exact en
 exact gec
def cP:Nat→(bU)×(eV)
  | 0=>((fun _ _=>none),(fun _ _ _ _ _ _ _ _=>none))
  | n+1=>(dF n ((cP n).1) ((cP n).2),kF n ((cP n).1) ((cP n).2))
def bT(n:Nat):bU:=(cP n).1
def iP(n:Nat):eV:=(cP n).2
theorem kD(n:Nat):dI (bT n)∧kN (iP n):=by
  induction n with
  | zero=>exact⟨(fun h=>nomatch h),(fun h=>nomatch h)⟩
  | succ n ih=>exact⟨qB (n:=n) (ih.1) (ih.2),zO (n:=n) (ih.1) (ih.2)⟩
theorem qR{n:Nat}:dI (bT n):=(kD n).1
theorem Lm{n:Nat}:kN (iP n):=(kD n).2
theorem oW(n:Nat):bT (n+1)=dF n (bT n) (iP n):=rfl
theorem wJ(n:Nat):iP (n+1)=kF n (bT n) (iP n):=rfl
abbrev DJ(p:(List aG)→(List aB)→(List aG)→(List aB)→Option (Bool)):Prop:= ∀ {a:List aG} {b:List aB} {d:List aG} {f:List aB} {r:Bool},p a b d f=some r→Big Try.prog τ An (.fn 64 [.one (.ag [.sl (a.map aK), .sl (b.map aH)]), .one (.ag [.sl (d.map aK), .sl (f.map aH)])] [] (.one (.c (.bool r))) none [] none)
def gL(n:Nat)(c:List aG)(d:List aB)(f:List aG)(g:List aB):Option (Bool):=
  (dG n c f).bind fun a=>(bif a then(bT n d g).bind fun b=>some b else some false).bind fun j=>some j
theorem rM{n:Nat}:DJ (gL n):=by
 intro f g j l r h
 unfold gL at h
 refine bF Try.func64 rfl rfl<|gco 12 rfl<|xC0 h (qQ ·) rfl (fun b h=> ?_)
 refine goo 4 rfl<|oJn h [(4,4),(11,18)] [] (fun a=>(.n,[(4,Bo a)],[])) (fun _ h=> ?_) (fun a h=> ?_)
 refine goo 2 rfl<|oIf 12 h rfl (fun d h=> ?_) (fun d h=> ?_)
 refine goo 4 rfl<|xC0 h (qR ·) rfl (fun c h=> ?_)
 exact geo
 exact geo
 exact gec
abbrev BD(p:(List UInt8)→Int→Int→(List aF)→(List UInt8)→Int→Int→(List aF)→Option (Bool)):Prop:= ∀ {a:List UInt8} {b d:Int} {f:List aF} {g:List UInt8} {j l:Int} {m:List aF} {r:Bool},p a b d f g j l m=some r→Big Try.prog τ An (.fn 142 [.one (.ag [.str a, .int .i64 b, .int .i64 d, .sl (f.map aL)]), .one (.ag [.str g, .int .i64 j, .int .i64 l, .sl (m.map aL)])] [] (.one (.c (.bool r))) none [] none)
def gZ(n:Nat)(d:List aF)(f:List aF):(Int)→Option ((Int)⊕((Bool)⊕(Int×Bool)))
  | c=>bif decide (c<(d.length:Int))then(ix d c).bind fun a=>(ix f c).bind fun b=>bif !(decide (a.f0=b.f0)&&(decide (a.f1=b.f1)&&(decide (a.f2=b.f2)&&(decide (a.f3=b.f3)&&true))))then some (.inr (.inl false))else some (.inl (IntKind.wrap .i64 (c+(1:Int))))else some (.inr (.inr (c,false)))
def iJ(n:Nat)(d:List UInt8)(f:Int)(g:Int)(a:List aF)(j:List UInt8)(l:Int)(m:Int)(b:List aF):Option (Bool):=
  (bif !decide (d=j)then some true else bif !decide (f=l)then some true else bif !decide (g=m)then some true else some (!decide ((a.length:Int)=(b.length:Int)))).bind fun c=>bif c then some false else(loopN (gZ n a b) n (0:Int)).bind fun q=>(match q with | .inl o=>some o | .inr (s,p)=>some true)
theorem yO{n:Nat}:BD (iJ n):=by
 intro u v w y z A B C r h
 unfold iJ at h
 refine bF Try.func142 rfl rfl<|gco 9 rfl<|oJn h [(6,33)] [] (fun c=>(.n,[(33,Bo c)],[])) (fun _ h=> ?_) (fun c h=> ?_)
 refine goo 6 rfl<|oIf 11 h rfl (fun o h=> ?_) (fun o h=> ?_)
 exact geo
 refine goo 7 rfl<|oIf 18 h rfl (fun p h=> ?_) (fun p h=> ?_)
 exact geo
 refine goo 7 rfl<|oIf 25 h rfl (fun s h=> ?_) (fun s h=> ?_)
 exact geo
 exact goo 2 rfl<|xLn rfl<|goo 2 rfl<|xLn rfl<|geo
 refine cIf h rfl (fun t h=> ?_) (fun t h=> ?_)
 exact gec
 refine gcc 6 rfl<|cLp h [(4,5),(34,51)] [] (fun g=>([(5,I64 g)],[])) (fun q=>match q with | .inl f=>(.r,[(4,Bo f)],[]) | .inr (j,d)=>(.e 0,[(5,I64 j),(38,Bo d)],[])) rfl (fun g _ h=> ?_) (fun q h=> ?_)
 unfold gZ at h
 refine gco 6 rfl<|xLn rfl<|goc 2 rfl<|cIf h rfl (fun l h=> ?_) (fun l h=> ?_)
 refine gco 8 rfl<|xIx h gD rfl (fun a h=> ?_)
 refine goo 4 rfl<|xIx h gD rfl (fun b h=> ?_)
 refine xLd rfl<|wBi (.bool (!(decide (a.f0=b.f0)&&(decide (a.f1=b.f1)&&(decide (a.f2=b.f2)&&(decide (a.f3=b.f3)&&true)))))) rfl rfl rfl rfl rfl<|oNl<|cIf h rfl (fun m h=> ?_) (fun m h=> ?_)
 exact gec
 exact gec
 exact gec
 rcases q with f | ⟨j,d⟩
 exact en
 exact gec
abbrev fC:Type:=Int→Int→(List UInt8)→(List aB)→Int→Int→(List UInt8)→(List aB)→Option (Bool)
abbrev jZ(p:fC):Prop:= ∀ {a b:Int} {d:List UInt8} {f:List aB} {g j:Int} {l:List UInt8} {m:List aB} {r:Bool},p a b d f g j l m=some r→Big Try.prog τ An (.fn 143 [.one (.ag [.int .i64 a, .int .i64 b, .str d, .sl (f.map aH)]), .one (.ag [.int .i64 g, .int .i64 j, .str l, .sl (m.map aH)])] [] (.one (.c (.bool r))) none [] none)
def gK(n:Nat)(a:fC)(g:List aB)(j:List aB):(Int)→Option ((Int)⊕((Bool)⊕(Int×Bool)))
  | d=>bif decide (d<(g.length:Int))then(ix g d).bind fun b=>(ix j d).bind fun c=>(a b.f0 b.f1 b.f2 b.f3 c.f0 c.f1 c.f2 c.f3).bind fun f=>bif !f then some (.inr (.inl false))else some (.inl (IntKind.wrap .i64 (d+(1:Int))))else some (.inr (.inr (d,false)))
def gM(n:Nat)(a:fC)(f:Int)(g:Int)(j:List UInt8)(b:List aB)(l:Int)(m:Int)(o:List UInt8)(c:List aB):Option (Bool):=
  (bif !decide (f=l)then some true else bif !decide (g=m)then some true else bif !decide (j=o)then some true else some (!decide ((b.length:Int)=(c.length:Int)))).bind fun d=>bif d then some false else(loopN (gK n a b c) n (0:Int)).bind fun q=>(match q with | .inl p=>some p | .inr (t,s)=>some true)
theorem vE{n:Nat}{a:fC}(b:jZ a):jZ (gM n a):=by
 intro y z A B C D E G r h
 unfold gM at h
 refine bF Try.func143 rfl rfl<|gco 9 rfl<|oJn h [(6,33)] [] (fun c=>(.n,[(33,Bo c)],[])) (fun _ h=> ?_) (fun c h=> ?_)
 refine goo 6 rfl<|oIf 11 h rfl (fun t h=> ?_) (fun t h=> ?_)
 exact geo
 refine goo 7 rfl<|oIf 18 h rfl (fun u h=> ?_) (fun u h=> ?_)
 exact geo
 refine goo 7 rfl<|oIf 25 h rfl (fun v h=> ?_) (fun v h=> ?_)
 exact geo
 exact goo 2 rfl<|xLn rfl<|goo 2 rfl<|xLn rfl<|geo
 refine cIf h rfl (fun w h=> ?_) (fun w h=> ?_)
 exact gec
 refine gcc 6 rfl<|cLp h [(4,5),(34,52)] [] (fun g=>([(5,I64 g)],[])) (fun q=>match q with | .inl f=>(.r,[(4,Bo f)],[]) | .inr (j,d)=>(.e 0,[(5,I64 j),(38,Bo d)],[])) rfl (fun g _ h=> ?_) (fun q h=> ?_)
 unfold gK at h
 refine gco 6 rfl<|xLn rfl<|goc 2 rfl<|cIf h rfl (fun p h=> ?_) (fun p h=> ?_)
 refine gco 8 rfl<|xIx h aP rfl (fun m h=> ?_)
 refine goo 4 rfl<|xIx h aP rfl (fun o h=> ?_)
 refine xLd rfl<|xC0 h (b ·) rfl (fun l h=> ?_)
 refine goc 2 rfl<|cIf h rfl (fun s h=> ?_) (fun s h=> ?_)
 exact gec
 exact gec
 exact gec
 rcases q with f | ⟨j,d⟩
 exact en
 exact gec
def rI:Nat→(fC)
  | 0=>(fun _ _ _ _ _ _ _ _=>none)
  | n+1=>gM n (rI n)
def fA(n:Nat):fC:=rI n
theorem vF(n:Nat):jZ (fA n):=by
  induction n with
  | zero=>exact(fun h=>nomatch h)
  | succ n ih=>exact vE (n:=n) ih
theorem wM{n:Nat}:jZ (fA n):=(vF n)
theorem sV(n:Nat):fA (n+1)=gM n (fA n):=rfl
abbrev DH(p:(List aG)→(List aB)→(List aG)→(List aB)→Option (Bool)):Prop:= ∀ {a:List aG} {b:List aB} {d:List aG} {f:List aB} {r:Bool},p a b d f=some r→Big Try.prog τ An (.fn 65 [.one (.ag [.sl (a.map aK), .sl (b.map aH)]), .one (.ag [.sl (d.map aK), .sl (f.map aH)])] [] (.one (.c (.bool r))) none [] none)
end Go.Own
