/- A part of the proof. No conditions. -/
import Derived.Test.YtjfgchodolnmcaaGreatW25A
set_option linter.unusedVariables false
set_option linter.unusedSimpArgs false
set_option linter.unnecessarySimpa false
namespace Go.Own
open Go Go.Proofs
def rI_u8(a:Int):List T:=[.int .u8 a]
theorem wC(a:Int):rI_u8 a=[.int .u8 a]:=rfl
def fO(a:List UInt8):List T:=[.str a]
theorem qL(a:List UInt8):fO a=[.str a]:=rfl
def aR(a:Int):List T:=[.int .i64 a]
theorem gW(a:Int):aR a=[.int .i64 a]:=rfl
mutual
inductive aB where
  | mk (f0:Int) (f1:Int) (f2:List UInt8) (f3:List aB) (f4:List aC)
inductive aC where
  | two (p x:aB)
end
def aC.p:aC→aB
  | .two a _=>a
def aC.x:aC→aB
  | .two _ a=>a
def aB.f0:aB→Int
  | .mk a _ _ _ _=>a
def aB.f1:aB→Int
  | .mk _ a _ _ _=>a
def aB.f2:aB→List UInt8
  | .mk _ _ a _ _=>a
def aB.f3:aB→List aB
  | .mk _ _ _ a _=>a
def aB.f4:aB→List aC
  | .mk _ _ _ _ a=>a
def aC.f0(c:aC):Int:=aB.f0 (aC.p c)
def aC.f1(c:aC):Int:=aB.f1 (aC.p c)
def aC.f2(c:aC):List UInt8:=aB.f2 (aC.p c)
def aC.f3(c:aC):List aB:=aB.f3 (aC.p c)
def aC.f4(c:aC):List aC:=aB.f4 (aC.p c)
def aC.f5(c:aC):Int:=aB.f0 (aC.x c)
def aC.f6(c:aC):Int:=aB.f1 (aC.x c)
def aC.f7(c:aC):List UInt8:=aB.f2 (aC.x c)
def aC.f8(c:aC):List aB:=aB.f3 (aC.x c)
def aC.f9(c:aC):List aC:=aB.f4 (aC.x c)
def aC.mk(a0:Int)(a1:Int)(a2:List UInt8)(a3:List aB)(a4:List aC)(a5:Int)(a6:Int)(a7:List UInt8)(a8:List aB)(a9:List aC):aC:= .two (.mk a0 a1 a2 a3 a4) (.mk a5 a6 a7 a8 a9)
mutual
def aH:aB→List T
  | .mk a0 a1 a2 a3 a4=> [.int .i64 a0, .int .i64 a1, .str a2, .sl (nR a3), .sl (kW a4)]
def nR:List aB→List (List T)
  | []=> []
  | x::r=>aH x::nR r
def aG:aC→List T
  | .two p x=>aH p++aH x
def kW:List aC→List (List T)
  | []=> []
  | x::r=>aG x::kW r
end
theorem uC: ∀l:List aB,nR l=l.map aH
  | []=>by simp [nR]
  | x::r=>by simp [nR,uC r]
theorem rX: ∀l:List aC,kW l=l.map aG
  | []=>by simp [kW]
  | x::r=>by simp [kW,rX r]
theorem aY(a0:Int)(a1:Int)(a2:List UInt8)(a3:List aB)(a4:List aC):aH (.mk a0 a1 a2 a3 a4)=[.int .i64 a0, .int .i64 a1, .str a2, .sl (a3.map aH), .sl (a4.map aG)]:=by simp only[aH,uC,rX]
theorem bB(a:aB):aH a=[.int .i64 a.f0, .int .i64 a.f1, .str a.f2, .sl (a.f3.map aH), .sl (a.f4.map aG)]:=by
  cases a; exact aY _ _ _ _ _
theorem cP(a:aC):aG a=[.int .i64 a.f0, .int .i64 a.f1, .str a.f2, .sl (a.f3.map aH), .sl (a.f4.map aG), .int .i64 a.f5, .int .i64 a.f6, .str a.f7, .sl (a.f8.map aH), .sl (a.f9.map aG)]:=by
  cases a with
  | two p x=>
    simp only[aG]; rw[bB p,bB x]; rfl
theorem lN(a0:Int)(a1:Int)(a2:List UInt8)(a3:List aB)(a4:List aC)(a5:Int)(a6:Int)(a7:List UInt8)(a8:List aB)(a9:List aC):aG (.mk a0 a1 a2 a3 a4 a5 a6 a7 a8 a9)=[.int .i64 a0, .int .i64 a1, .str a2, .sl (a3.map aH), .sl (a4.map aG), .int .i64 a5, .int .i64 a6, .str a7, .sl (a8.map aH), .sl (a9.map aG)]:=cP _
structure bJ where
  f0:List UInt8
  f1:List (List UInt8)
  f2:Int
  f3:Int
  f4:List UInt8
  f5:List aB
  f6:List aC
def eE(a:bJ):List T:=[.str a.f0, .sl (a.f1.map fO), .int .i64 a.f2, .int .i64 a.f3, .str a.f4, .sl (a.f5.map aH), .sl (a.f6.map aG)]
theorem Fq(a:bJ):eE a=[.str a.f0, .sl (a.f1.map fO), .int .i64 a.f2, .int .i64 a.f3, .str a.f4, .sl (a.f5.map aH), .sl (a.f6.map aG)]:=rfl
structure aE where
  f0:Int
  f1:Int
  f2:List UInt8
  f3:Int
  deriving DecidableEq
def aL(a:aE):List T:=[.int .i64 a.f0, .int .i64 a.f1, .str a.f2, .int .i64 a.f3]
theorem fA(a:aE):aL a=[.int .i64 a.f0, .int .i64 a.f1, .str a.f2, .int .i64 a.f3]:=rfl
inductive aA where
  | mk (f0:Int) (f1:Int) (f2:List UInt8) (f3:List aA)
def aA.f0:aA→Int
  | .mk a _ _ _=>a
def aA.f1:aA→Int
  | .mk _ a _ _=>a
def aA.f2:aA→List UInt8
  | .mk _ _ a _=>a
def aA.f3:aA→List aA
  | .mk _ _ _ a=>a
mutual
def aF:aA→List T
  | .mk a0 a1 a2 a3=> [.int .i64 a0, .int .i64 a1, .str a2, .sl (pO a3)]
def pO:List aA→List (List T)
  | []=> []
  | x::r=>aF x::pO r
end
theorem pZ: ∀l:List aA,pO l=l.map aF
  | []=>by simp [pO]
  | x::r=>by simp [pO,pZ r]
theorem aQ(a:aA):aF a=[.int .i64 a.f0, .int .i64 a.f1, .str a.f2, .sl (a.f3.map aF)]:=by
  cases a; simp [aF,pZ,aA.f0,aA.f1,aA.f2,aA.f3]
theorem dG(a0:Int)(a1:Int)(a2:List UInt8)(a3:List aA):aF (.mk a0 a1 a2 a3)=[.int .i64 a0, .int .i64 a1, .str a2, .sl (a3.map aF)]:=by simp [aF,pZ]
structure aD where
  f0:List UInt8
  f1:Int
  f2:Int
  f3:List aE
  deriving DecidableEq
def aJ(a:aD):List T:=[.str a.f0, .int .i64 a.f1, .int .i64 a.f2, .sl (a.f3.map aL)]
theorem dI(a:aD):aJ a=[.str a.f0, .int .i64 a.f1, .int .i64 a.f2, .sl (a.f3.map aL)]:=rfl

abbrev Ng(p:(List Int)→Option (Bool)):Prop:= ∀ {a:List Int} {r:Bool},p a=some r→Big Tryz.prog τ An (.fn 6 [.one (.c (.sl (a.map rI_u8)))] [] (.one (.c (.bool r))) none [] none)
def xA(n:Nat)(a:List Int):Option (Bool):=
  some (decide ((1048576:Int)<(a.length:Int)))
theorem KE{n:Nat}:Ng (xA n):=by
 intro a r h; unfold xA at h; exact bF Tryz.func6 rfl rfl<|gco 7 rfl<|xLn rfl<|geo
abbrev KL(p:(List Int)→Option ((List Int)×Int×Int)):Prop:= ∀ {a:List Int} {r:(List Int)×Int×Int},p a=some r→Big Tryz.prog τ An (.fn 26 [.one (.c (.sl (a.map rI_u8)))] [] (.one (.ptr 0 0)) none [] (some [.sl (r.1.map rI_u8), .int .i64 r.2.1, .int .i64 r.2.2]))
def rV(n:Nat)(b:List Int):(Int×Int)→Option ((Int×Int)⊕((Int×Int×Bool)))
  | (c,a)=>(bif decide (a<(b.length:Int))then some (decide (a<(4000:Int)))else some false).bind fun f=>bif f then(ix b a).bind fun d=>some (.inl ((bits .and .i64 (IntKind.wrap .i64 ((IntKind.wrap .i64 ((IntKind.wrap .i64 (c*(137:Int)))+(IntKind.wrap .i64 d)))+(11:Int))) (1073741823:Int)),(IntKind.wrap .i64 (a+(1:Int)))))else some (.inr (c,a,false))
def pR(n:Nat)(a:List Int):Option ((List Int)×Int×Int):=
  (loopN (rV n a) n ((IntKind.wrap .i64 ((375375:Int)+(a.length:Int))),(0:Int))).bind fun(b,d,c)=>some (a,(0:Int),b)
theorem Fw{n:Nat}:KL (pR n):=by
 intro l r h; unfold pR at h; refine bF Tryz.func26 rfl rfl<|gco 7 rfl<|xLn rfl<|goc 8 rfl<|cLp h [(3,4),(8,27)] [] (fun(a,f)=>([(3,I64 a),(4,I64 f)],[])) (fun(b,g,c)=>(.e 0,[(3,I64 b),(4,I64 g),(15,Bo c)],[])) rfl (fun st _ h=> ?_) (fun q h=> ?_)
 obtain⟨a,f⟩:=st; unfold rV at h; refine gco 3 rfl<|oJn h [(8,15)] [] (fun d=>(.n,[(15,Bo d)],[])) (fun _ h=> ?_) (fun d h=> ?_)
 refine goo 2 rfl<|xLn rfl<|goo 2 rfl<|oIf 12 h rfl (fun m h=> ?_) (fun m h=> ?_)
 exact geo; exact geo; refine cIf h rfl (fun o h=> ?_) (fun o h=> ?_)
 refine gco 8 rfl<|xIx h wC rfl (fun j h=> ?_)
 exact goo 4 rfl<|wBi (.int .i64 (bits .and .i64 (IntKind.wrap .i64 ((IntKind.wrap .i64 ((IntKind.wrap .i64 (a*(137:Int)))+(IntKind.wrap .i64 j)))+(11:Int))) (1073741823:Int))) rfl rfl rfl rfl rfl<|geo
 exact gec; obtain⟨b,g,c⟩:=q; exact gco 4 rfl<|wBd [.sl (l.map rI_u8), .int .i64 0, .int .i64 b] rfl rfl rfl rfl rfl rfl<|geo
abbrev IL(p:(List Int)→Int→Int→Option (Int×(List Int)×Int×Int)):Prop:= ∀ {a:List Int} {b d:Int} {r:Int×(List Int)×Int×Int},p a b d=some r→Big Tryz.prog τ An (.fn 121 [.one (.ptr 1000000 0)] [[.sl (a.map rI_u8), .int .i64 b, .int .i64 d]] (.one (.c (.int .i64 r.1))) none [[.sl (r.2.1.map rI_u8), .int .i64 r.2.2.1, .int .i64 r.2.2.2]] none)
def iC(n:Nat)(b:List Int)(c:Int)(a:Int):Option (Int×(List Int)×Int×Int):=
  bif decide (c<(b.length:Int))then(ix b c).bind fun d=>some ((bits .and .i64 (IntKind.wrap .i64 ((bits .and .i64 (bits .xor .i64 (Int.fdiv (IntKind.wrap .i64 ((IntKind.wrap .i64 (a*(6364136223846793005:Int)))+(1442695040888963407:Int))) (2 ^ 33)) (Int.fdiv (IntKind.wrap .i64 ((IntKind.wrap .i64 (a*(6364136223846793005:Int)))+(1442695040888963407:Int))) (2 ^ 47))) (255:Int))+(IntKind.wrap .i64 d))) (255:Int)),b,(IntKind.wrap .i64 (c+(1:Int))),(IntKind.wrap .i64 ((IntKind.wrap .i64 (a*(6364136223846793005:Int)))+(1442695040888963407:Int))))else some ((bits .and .i64 (bits .xor .i64 (Int.fdiv (IntKind.wrap .i64 ((IntKind.wrap .i64 (a*(6364136223846793005:Int)))+(1442695040888963407:Int))) (2 ^ 33)) (Int.fdiv (IntKind.wrap .i64 ((IntKind.wrap .i64 (a*(6364136223846793005:Int)))+(1442695040888963407:Int))) (2 ^ 47))) (255:Int)),b,c,(IntKind.wrap .i64 ((IntKind.wrap .i64 (a*(6364136223846793005:Int)))+(1442695040888963407:Int))))
theorem oJ{n:Nat}:IL (iC n):=by
 intro c d a r h; unfold iC at h; refine bF Tryz.func121 rfl rfl<|gco 23 rfl<|wBi (.int .i64 (Int.fdiv (IntKind.wrap .i64 ((IntKind.wrap .i64 (a*(6364136223846793005:Int)))+(1442695040888963407:Int))) (2 ^ 33))) rfl rfl rfl rfl rfl<|goo 4 rfl<|wBi (.int .i64 (Int.fdiv (IntKind.wrap .i64 ((IntKind.wrap .i64 (a*(6364136223846793005:Int)))+(1442695040888963407:Int))) (2 ^ 47))) rfl rfl rfl rfl rfl<|wBi (.int .i64 (bits .xor .i64 (Int.fdiv (IntKind.wrap .i64 ((IntKind.wrap .i64 (a*(6364136223846793005:Int)))+(1442695040888963407:Int))) (2 ^ 33)) (Int.fdiv (IntKind.wrap .i64 ((IntKind.wrap .i64 (a*(6364136223846793005:Int)))+(1442695040888963407:Int))) (2 ^ 47)))) rfl rfl rfl rfl rfl<|wBi (.int .i64 (bits .and .i64 (bits .xor .i64 (Int.fdiv (IntKind.wrap .i64 ((IntKind.wrap .i64 (a*(6364136223846793005:Int)))+(1442695040888963407:Int))) (2 ^ 33)) (Int.fdiv (IntKind.wrap .i64 ((IntKind.wrap .i64 (a*(6364136223846793005:Int)))+(1442695040888963407:Int))) (2 ^ 47))) (255:Int))) rfl rfl rfl rfl rfl<|goo 13 rfl<|xLn rfl<|goc 2 rfl<|cIf h rfl (fun f h=> ?_) (fun f h=> ?_)
 refine gco 11 rfl<|xIx h wC rfl (fun b h=> ?_)
 exact goo 3 rfl<|wBi (.int .i64 (bits .and .i64 (IntKind.wrap .i64 ((bits .and .i64 (bits .xor .i64 (Int.fdiv (IntKind.wrap .i64 ((IntKind.wrap .i64 (a*(6364136223846793005:Int)))+(1442695040888963407:Int))) (2 ^ 33)) (Int.fdiv (IntKind.wrap .i64 ((IntKind.wrap .i64 (a*(6364136223846793005:Int)))+(1442695040888963407:Int))) (2 ^ 47))) (255:Int))+(IntKind.wrap .i64 b))) (255:Int))) rfl rfl rfl rfl rfl<|geo
 exact gec
abbrev GH(p:Int→(List Int)→Int→Int→Option (Int×(List Int)×Int×Int)):Prop:= ∀ {f:Int} {a:List Int} {b d:Int} {r:Int×(List Int)×Int×Int},p f a b d=some r→Big Tryz.prog τ An (.fn 75 [.one (.ptr 1000000 0), .one (.c (.int .i64 f))] [[.sl (a.map rI_u8), .int .i64 b, .int .i64 d]] (.one (.c (.int .i64 r.1))) none [[.sl (r.2.1.map rI_u8), .int .i64 r.2.2.1, .int .i64 r.2.2.2]] none)
def aM(n:Nat)(a:Int)(g:List Int)(j:Int)(l:Int):Option (Int×(List Int)×Int×Int):=
  bif decide (a≤(0:Int))then some ((0:Int),g,j,l)else bif decide (a≤(256:Int))then(iC n g j l).bind fun b=>(ck (!decide (a=0))).bind fun _=>some ((Int.tmod b.1 a),b.2.1,b.2.2.1,b.2.2.2)else(iC n g j l).bind fun c=>(iC n c.2.1 c.2.2.1 c.2.2.2).bind fun d=>(iC n d.2.1 d.2.2.1 d.2.2.2).bind fun f=>(ck (!decide (a=0))).bind fun _=>some ((Int.tmod (IntKind.wrap .i64 ((IntKind.wrap .i64 ((IntKind.wrap .i64 (c.1*(65536:Int)))+(IntKind.wrap .i64 (d.1*(256:Int)))))+f.1)) a),f.2.1,f.2.2.1,f.2.2.2)
theorem aO{n:Nat}:GH (aM n):=by
 intro s j l m r h; unfold aM at h; refine bF Tryz.func75 rfl rfl<|gcc 10 rfl<|cIf h rfl (fun o h=> ?_) (fun o h=> ?_)
 exact gec; refine gcc 7 rfl<|cIf h rfl (fun p h=> ?_) (fun p h=> ?_)
 refine gco 3 rfl<|xC1 h (oJ ·) rfl (fun c h=> ?_)
 refine xMv rfl<|oCk h (fun a h=> ?_)
 exact wRem a rfl rfl rfl rfl<|geo
 refine gco 4 rfl<|xC1 h (oJ ·) rfl (fun d h=> ?_)
 refine goo 5 rfl<|xC1 h (oJ ·) rfl (fun f h=> ?_)
 refine goo 5 rfl<|xC1 h (oJ ·) rfl (fun g h=> ?_)
 refine goo 12 rfl<|oCk h (fun b h=> ?_)
 exact wRem b rfl rfl rfl rfl<|geo
abbrev IK(p:Int→(List Int)→Int→Int→Option (Bool×(List Int)×Int×Int)):Prop:= ∀ {f:Int} {a:List Int} {b d:Int} {r:Bool×(List Int)×Int×Int},p f a b d=some r→Big Tryz.prog τ An (.fn 94 [.one (.ptr 1000000 0), .one (.c (.int .i64 f))] [[.sl (a.map rI_u8), .int .i64 b, .int .i64 d]] (.one (.c (.bool r.1))) none [[.sl (r.2.1.map rI_u8), .int .i64 r.2.2.1, .int .i64 r.2.2.2]] none)
def jI(n:Nat)(f:Int)(b:List Int)(c:Int)(d:Int):Option (Bool×(List Int)×Int×Int):=
  (aM n f b c d).bind fun a=>some ((decide (a.1=(0:Int))),a.2.1,a.2.2.1,a.2.2.2)
theorem rW{n:Nat}:IK (jI n):=by
 intro f b c d r h; unfold jI at h; refine bF Tryz.func94 rfl rfl<|gco 8 rfl<|xC1 h (aO ·) rfl (fun a h=> ?_)
 exact geo
abbrev KK(p:(List (List UInt8))→(List Int)→Int→Int→Option ((List UInt8)×(List Int)×Int×Int)):Prop:= ∀ {f:List (List UInt8)} {a:List Int} {b d:Int} {r:(List UInt8)×(List Int)×Int×Int},p f a b d=some r→Big Tryz.prog τ An (.fn 28 [.one (.ptr 1000000 0), .one (.c (.sl (f.map fO)))] [[.sl (a.map rI_u8), .int .i64 b, .int .i64 d]] (.one (.c (.str r.1))) none [[.sl (r.2.1.map rI_u8), .int .i64 r.2.2.1, .int .i64 r.2.2.2]] none)
def bN(n:Nat)(b:List (List UInt8))(d:List Int)(f:Int)(g:Int):Option ((List UInt8)×(List Int)×Int×Int):=
  (aM n (b.length:Int) d f g).bind fun a=>(ix b a.1).bind fun c=>some (c,a.2.1,a.2.2.1,a.2.2.2)
theorem cO{n:Nat}:KK (bN n):=by
 intro g c d f r h; unfold bN at h; refine bF Tryz.func28 rfl rfl<|gco 9 rfl<|xLn rfl<|xC1 h (aO ·) rfl (fun b h=> ?_)
 refine xIx h qL rfl (fun a h=> ?_)
 exact geo
abbrev KM(p:(List Int)→(List Int)→Int→Int→Option (Int×(List Int)×Int×Int)):Prop:= ∀ {f a:List Int} {b d:Int} {r:Int×(List Int)×Int×Int},p f a b d=some r→Big Tryz.prog τ An (.fn 90 [.one (.ptr 1000000 0), .one (.c (.sl (f.map aR)))] [[.sl (a.map rI_u8), .int .i64 b, .int .i64 d]] (.one (.c (.int .i64 r.1))) none [[.sl (r.2.1.map rI_u8), .int .i64 r.2.2.1, .int .i64 r.2.2.2]] none)
def cX(n:Nat)(b:List Int)(d:List Int)(f:Int)(g:Int):Option (Int×(List Int)×Int×Int):=
  (aM n (b.length:Int) d f g).bind fun a=>(ix b a.1).bind fun c=>some (c,a.2.1,a.2.2.1,a.2.2.2)
theorem dU{n:Nat}:KM (cX n):=by
 intro g c d f r h; unfold cX at h; refine bF Tryz.func90 rfl rfl<|gco 9 rfl<|xLn rfl<|xC1 h (aO ·) rfl (fun b h=> ?_)
 refine xIx h gW rfl (fun a h=> ?_)
 exact geo
abbrev KI(p:Int→Option (Int×Int×(List UInt8)×(List aB)×(List aC))):Prop:= ∀ {a:Int} {r:Int×Int×(List UInt8)×(List aB)×(List aC)},p a=some r→Big Tryz.prog τ An (.fn 120 [.one (.c (.int .i64 a))] [] (.one (.ag [.int .i64 r.1, .int .i64 r.2.1, .str r.2.2.1, .sl (r.2.2.2.1.map aH), .sl (r.2.2.2.2.map aG)])) none [] none)
def cW(n:Nat)(a:Int):Option (Int×Int×(List UInt8)×(List aB)×(List aC)):=
  some ((1:Int),a,([]:List UInt8),([]:List aB),([]:List aC))
theorem dT{n:Nat}:KI (cW n):=by
 intro a r h; unfold cW at h; exact bF Tryz.func120 rfl rfl<|cRs<|xAz [.int .i64 0, .int .i64 0, .str [], .sl ([].map aH), .sl ([].map aG)] rfl<|goo 4 rfl<|wBd [.int .i64 1, .int .i64 a, .str [], .sl ([].map aH), .sl ([].map aG)] rfl rfl rfl rfl rfl rfl<|geo
abbrev Lp(p:(List UInt8)→Option (Int×Int×(List UInt8)×(List aB)×(List aC))):Prop:= ∀ {a:List UInt8} {r:Int×Int×(List UInt8)×(List aB)×(List aC)},p a=some r→Big Tryz.prog τ An (.fn 153 [.one (.c (.str a))] [] (.one (.ag [.int .i64 r.1, .int .i64 r.2.1, .str r.2.2.1, .sl (r.2.2.2.1.map aH), .sl (r.2.2.2.2.map aG)])) none [] none)
def mO(n:Nat)(a:List UInt8):Option (Int×Int×(List UInt8)×(List aB)×(List aC)):=
  some ((2:Int),(0:Int),a,([]:List aB),([]:List aC))
theorem uP{n:Nat}:Lp (mO n):=by
 intro a r h; unfold mO at h; exact bF Tryz.func153 rfl rfl<|cRs<|xAz [.int .i64 0, .int .i64 0, .str [], .sl ([].map aH), .sl ([].map aG)] rfl<|goo 4 rfl<|wBd [.int .i64 2, .int .i64 0, .str a, .sl ([].map aH), .sl ([].map aG)] rfl rfl rfl rfl rfl rfl<|geo
abbrev KJ(p:(List (List UInt8))→(List UInt8)→Option (Bool)):Prop:= ∀ {a:List (List UInt8)} {b:List UInt8} {r:Bool},p a b=some r→Big Tryz.prog τ An (.fn 177 [.one (.c (.sl (a.map fO))), .one (.c (.str b))] [] (.one (.c (.bool r))) none [] none)
def lA(n:Nat)(b:List (List UInt8))(d:List UInt8):(Int)→Option ((Int)⊕((Bool)⊕(Int×Bool)))
  | a=>bif decide (a<(b.length:Int))then(ix b a).bind fun c=>bif decide (c=d)then some (.inr (.inl true))else some (.inl (IntKind.wrap .i64 (a+(1:Int))))else some (.inr (.inr (a,false)))
def gY(n:Nat)(a:List (List UInt8))(b:List UInt8):Option (Bool):=
  (loopN (lA n a b) n (0:Int)).bind fun q=>(match q with | .inl c=>some c | .inr (d,f)=>some false)
theorem pK{n:Nat}:KJ (gY n):=by
 intro l m r h; unfold gY at h; refine bF Tryz.func177 rfl rfl<|gcc 9 rfl<|cLp h [(4,17)] [] (fun b=>([(5,I64 b)],[])) (fun q=>match q with | .inl a=>(.r,[(4,Bo a)],[]) | .inr (c,d)=>(.e 0,[(5,I64 c),(9,Bo d)],[])) rfl (fun b _ h=> ?_) (fun q h=> ?_)
 unfold lA at h; refine gco 5 rfl<|xLn rfl<|goc 2 rfl<|cIf h rfl (fun g h=> ?_) (fun g h=> ?_)
 refine gco 7 rfl<|xIx h qL rfl (fun f h=> ?_)
 refine goc 4 rfl<|cIf h rfl (fun j h=> ?_) (fun j h=> ?_)
 exact gec; exact gec; exact gec; rcases q with a | ⟨c,d⟩; exact en; exact gec
abbrev kT:Type:=Int→(List Int)→Int→Int→(List (List UInt8))→Option (Int×Int×(List UInt8)×(List aB)×(List aC)×(List Int)×Int×Int×(List (List UInt8)))
abbrev sP(p:kT):Prop:= ∀ {g:Int} {a:List Int} {b d:Int} {f:List (List UInt8)} {r:Int×Int×(List UInt8)×(List aB)×(List aC)×(List Int)×Int×Int×(List (List UInt8))},p g a b d f=some r→Big Tryz.prog τ An (.fn 154 [.one (.ptr 1000000 0), .one (.c (.int .i64 g)), .one (.ptr 1000001 0)] [[.sl (a.map rI_u8), .int .i64 b, .int .i64 d],[.sl (f.map fO)]] (.one (.ag [.int .i64 r.1, .int .i64 r.2.1, .str r.2.2.1, .sl (r.2.2.2.1.map aH), .sl (r.2.2.2.2.1.map aG)])) none [[.sl (r.2.2.2.2.2.1.map rI_u8), .int .i64 r.2.2.2.2.2.2.1, .int .i64 r.2.2.2.2.2.2.2.1],[.sl (r.2.2.2.2.2.2.2.2.map fO)]] none)
def oG(n:Nat)(g:kT)(y:Int):(Int×Int×Int×(List UInt8)×(List aB)×(List aC)×(List Int)×Int×Int×(List (List UInt8)))→Option ((Int×Int×Int×(List UInt8)×(List aB)×(List aC)×(List Int)×Int×Int×(List (List UInt8)))⊕((Int×Bool×Int×Int×(List UInt8)×(List aB)×(List aC)×(List Int)×Int×Int×(List (List UInt8)))))
  | (j,s,t,u,v,w,b,c,d,f)=>bif decide (j<(2:Int))then((bif decide ((0:Int)<y)then(g (IntKind.wrap .i64 (y - (1:Int))) b c d f).bind fun a=>(dF 80 v ([aB.mk a.1 a.2.1 a.2.2.1 a.2.2.2.1 a.2.2.2.2.1]:List aB)).bind fun z=>some (s,t,u,z,w,a.2.2.2.2.2.1,a.2.2.2.2.2.2.1,a.2.2.2.2.2.2.2.1,a.2.2.2.2.2.2.2.2)else(dF 80 v ([aB.mk (3:Int) (0:Int) ([95]:List UInt8) ([]:List aB) ([]:List aC)]:List aB)).bind fun A=>some (s,t,u,A,w,b,c,d,f):Option ((Int×Int×(List UInt8)×(List aB)×(List aC)×(List Int)×Int×Int×(List (List UInt8)))))).bind fun(B,C,D,E,G,l,m,o,p)=>some (.inl ((IntKind.wrap .i64 (j+(1:Int))),B,C,D,E,G,l,m,o,p))else some (.inr (j,false,s,t,u,v,w,b,c,d,f))
def oF(n:Nat)(g:kT)(z:Int)(y:Int×(List Int)×Int×Int):(Int×Int×Int×(List UInt8)×(List aB)×(List aC)×(List Int)×Int×Int×(List (List UInt8)))→Option ((Int×Int×Int×(List UInt8)×(List aB)×(List aC)×(List Int)×Int×Int×(List (List UInt8)))⊕((Int×Bool×Int×Int×(List UInt8)×(List aB)×(List aC)×(List Int)×Int×Int×(List (List UInt8)))))
  | (j,s,t,u,v,w,b,c,d,f)=>bif decide (j<y.1)then((bif decide ((0:Int)<z)then(g (IntKind.wrap .i64 (z - (1:Int))) b c d f).bind fun a=>(dF 80 v ([aB.mk a.1 a.2.1 a.2.2.1 a.2.2.2.1 a.2.2.2.2.1]:List aB)).bind fun A=>some (s,t,u,A,w,a.2.2.2.2.2.1,a.2.2.2.2.2.2.1,a.2.2.2.2.2.2.2.1,a.2.2.2.2.2.2.2.2)else(dF 80 v ([aB.mk (3:Int) (0:Int) ([95]:List UInt8) ([]:List aB) ([]:List aC)]:List aB)).bind fun B=>some (s,t,u,B,w,b,c,d,f):Option ((Int×Int×(List UInt8)×(List aB)×(List aC)×(List Int)×Int×Int×(List (List UInt8)))))).bind fun(C,D,E,G,H,l,m,o,p)=>some (.inl ((IntKind.wrap .i64 (j+(1:Int))),C,D,E,G,H,l,m,o,p))else some (.inr (j,false,s,t,u,v,w,b,c,d,f))
def pN(n:Nat)(l:kT)(G:Int)(X:List Int)(Y:Int)(Z:Int)(f:List (List UInt8)):Option (Int×Int×(List UInt8)×(List aB)×(List aC)×(List Int)×Int×Int×(List (List UInt8))):=
  (aM n (8:Int) X Y Z).bind fun a=>bif decide (a.1=(0:Int))then(aM n (3:Int) a.2.1 a.2.2.1 a.2.2.2).bind fun p=>(cW n p.1).bind fun m=>some (m.1,m.2.1,m.2.2.1,m.2.2.2.1,m.2.2.2.2,p.2.1,p.2.2.1,p.2.2.2,f)else bif decide (a.1=(1:Int))then(bN n ([([111,107]:List UInt8),([97]:List UInt8),([115,116,111,112]:List UInt8)]:List (List UInt8)) a.2.1 a.2.2.1 a.2.2.2).bind fun s=>(mO n s.1).bind fun o=>some (o.1,o.2.1,o.2.2.1,o.2.2.2.1,o.2.2.2.2,s.2.1,s.2.2.1,s.2.2.2,f)else bif decide (a.1=(2:Int))then some ((3:Int),(0:Int),([95]:List UInt8),([]:List aB),([]:List aC),a.2.1,a.2.2.1,a.2.2.2,f)else bif decide (a.1=(3:Int))then(bN n ([([65]:List UInt8),([66]:List UInt8),([67]:List UInt8),([68]:List UInt8),([72]:List UInt8),([84]:List UInt8)]:List (List UInt8)) a.2.1 a.2.2.1 a.2.2.2).bind fun b=>(gY n f b.1).bind fun C=>bif C then some ((3:Int),(0:Int),([95]:List UInt8),([]:List aB),([]:List aC),b.2.1,b.2.2.1,b.2.2.2,f)else(dF 16 f ([b.1]:List (List UInt8))).bind fun H=>some ((3:Int),(0:Int),b.1,([]:List aB),([]:List aC),b.2.1,b.2.2.1,b.2.2.2,H)else bif decide (a.1=(4:Int))then(bN n ([([65]:List UInt8),([66]:List UInt8),([67]:List UInt8),([68]:List UInt8),([72]:List UInt8),([84]:List UInt8)]:List (List UInt8)) a.2.1 a.2.2.1 a.2.2.2).bind fun c=>(gY n f c.1).bind fun D=>bif D then some ((3:Int),(0:Int),([95]:List UInt8),([]:List aB),([]:List aC),c.2.1,c.2.2.1,c.2.2.2,f)else(dF 16 f ([c.1]:List (List UInt8))).bind fun I=>some ((3:Int),(0:Int),c.1,([]:List aB),([]:List aC),c.2.1,c.2.2.1,c.2.2.2,I)else bif decide (a.1=(5:Int))then(bN n ([([65]:List UInt8),([66]:List UInt8),([67]:List UInt8),([68]:List UInt8),([72]:List UInt8),([84]:List UInt8)]:List (List UInt8)) a.2.1 a.2.2.1 a.2.2.2).bind fun d=>(gY n f d.1).bind fun E=>bif E then some ((3:Int),(0:Int),([95]:List UInt8),([]:List aB),([]:List aC),d.2.1,d.2.2.1,d.2.2.2,f)else(dF 16 f ([d.1]:List (List UInt8))).bind fun J=>some ((3:Int),(0:Int),d.1,([]:List aB),([]:List aC),d.2.1,d.2.2.1,d.2.2.2,J)else(cX n ([(4:Int),(5:Int),(6:Int)]:List Int) a.2.1 a.2.2.1 a.2.2.2).bind fun j=>(aM n (3:Int) j.2.1 j.2.2.1 j.2.2.2).bind fun g=>bif decide (j.1=(6:Int))then(loopN (oG n l G) n ((0:Int),j.1,(0:Int),([]:List UInt8),([]:List aB),([]:List aC),g.2.1,g.2.2.1,g.2.2.2,f)).bind fun(a0,a2,K,L,M,N,Q,t,u,v,A)=>some (K,L,M,N,Q,t,u,v,A)else(loopN (oF n l G g) n ((0:Int),j.1,(0:Int),([]:List UInt8),([]:List aB),([]:List aC),g.2.1,g.2.2.1,g.2.2.2,f)).bind fun(a1,a3,R,T,U,V,W,w,y,z,B)=>some (R,T,U,V,W,w,y,z,B)
theorem Eu{n:Nat}{g:kT}(b:sP g):sP (pN n g):=by
 intro g5 f7 f8 f9 g0 r h; unfold pN at h; refine bF Tryz.func154 rfl rfl<|cRs<|xAz [.int .i64 0, .int .i64 0, .str [], .sl ([].map aH), .sl ([].map aG)] rfl<|goo 5 rfl<|xC1 h (aO ·) rfl (fun f2 h=> ?_)
 refine goc 7 rfl<|cIf h rfl (fun q2 h=> ?_) (fun q2 h=> ?_)
 refine gco 3 rfl<|xC1 h (aO ·) rfl (fun f3 h=> ?_)
 refine xC0 h (dT ·) rfl (fun f4 h=> ?_)
 exact geo; refine gcc 5 rfl<|cIf h rfl (fun q5 h=> ?_) (fun q5 h=> ?_)
 refine gco 3 rfl<|cQ (L:=([([111,107]:List UInt8),([97]:List UInt8),([115,116,111,112]:List UInt8)]:List (List UInt8))) (f:=fO) rfl rfl rfl rfl rfl rfl rfl<|xC1 h (cO ·) rfl (fun f5 h=> ?_)
 refine xC0 h (uP ·) rfl (fun f6 h=> ?_)
 exact geo; refine gcc 5 rfl<|cIf h rfl (fun q8 h=> ?_) (fun q8 h=> ?_)
 exact cRs<|wBd [.int .i64 3, .int .i64 0, .str [95], .sl ([].map aH), .sl ([].map aG)] rfl rfl rfl rfl rfl rfl<|geo
 refine gcc 6 rfl<|cIf h rfl (fun q9 h=> ?_) (fun q9 h=> ?_)
 refine gco 5 rfl<|cQ (L:=([([65]:List UInt8),([66]:List UInt8),([67]:List UInt8),([68]:List UInt8),([72]:List UInt8),([84]:List UInt8)]:List (List UInt8))) (f:=fO) rfl rfl rfl rfl rfl rfl rfl<|xC1 h (cO ·) rfl (fun Q h=> ?_)
 refine goo 9 rfl<|xC0 h (pK ·) rfl (fun d1 h=> ?_)
 refine oNl<|cIf h rfl (fun d5 h=> ?_) (fun d5 h=> ?_)
 exact cRs<|wBd [.int .i64 3, .int .i64 0, .str [95], .sl ([].map aH), .sl ([].map aG)] rfl rfl rfl rfl rfl rfl<|geo
 refine gco 8 rfl<|cQ (L:=([Q.1]:List (List UInt8))) (f:=fO) rfl rfl rfl rfl rfl rfl rfl<|wAp (f:=fO) h rfl rfl rfl rfl rfl rfl rfl rfl rfl (fun _=>rfl) rfl (fun e5 h=> ?_)
 exact goo 6 rfl<|wBd [.int .i64 3, .int .i64 0, .str Q.1, .sl ([].map aH), .sl ([].map aG)] rfl rfl rfl rfl rfl rfl<|geo
 refine gcc 5 rfl<|cIf h rfl (fun d6 h=> ?_) (fun d6 h=> ?_)
 refine gco 5 rfl<|cQ (L:=([([65]:List UInt8),([66]:List UInt8),([67]:List UInt8),([68]:List UInt8),([72]:List UInt8),([84]:List UInt8)]:List (List UInt8))) (f:=fO) rfl rfl rfl rfl rfl rfl rfl<|xC1 h (cO ·) rfl (fun R h=> ?_)
 refine goo 9 rfl<|xC0 h (pK ·) rfl (fun d2 h=> ?_)
 refine oNl<|cIf h rfl (fun d7 h=> ?_) (fun d7 h=> ?_)
 exact cRs<|wBd [.int .i64 3, .int .i64 0, .str [95], .sl ([].map aH), .sl ([].map aG)] rfl rfl rfl rfl rfl rfl<|geo
 refine gco 8 rfl<|cQ (L:=([R.1]:List (List UInt8))) (f:=fO) rfl rfl rfl rfl rfl rfl rfl<|wAp (f:=fO) h rfl rfl rfl rfl rfl rfl rfl rfl rfl (fun _=>rfl) rfl (fun e6 h=> ?_)
 exact goo 6 rfl<|wBd [.int .i64 3, .int .i64 0, .str R.1, .sl ([].map aH), .sl ([].map aG)] rfl rfl rfl rfl rfl rfl<|geo
 refine gcc 4 rfl<|cIf h rfl (fun d8 h=> ?_) (fun d8 h=> ?_)
 refine gco 3 rfl<|cQ (L:=([([65]:List UInt8),([66]:List UInt8),([67]:List UInt8),([68]:List UInt8),([72]:List UInt8),([84]:List UInt8)]:List (List UInt8))) (f:=fO) rfl rfl rfl rfl rfl rfl rfl<|xC1 h (cO ·) rfl (fun T h=> ?_)
 refine goo 9 rfl<|xC0 h (pK ·) rfl (fun d3 h=> ?_)
 refine oNl<|cIf h rfl (fun d9 h=> ?_) (fun d9 h=> ?_)
 exact cRs<|wBd [.int .i64 3, .int .i64 0, .str [95], .sl ([].map aH), .sl ([].map aG)] rfl rfl rfl rfl rfl rfl<|geo
 refine gco 8 rfl<|cQ (L:=([T.1]:List (List UInt8))) (f:=fO) rfl rfl rfl rfl rfl rfl rfl<|wAp (f:=fO) h rfl rfl rfl rfl rfl rfl rfl rfl rfl (fun _=>rfl) rfl (fun e7 h=> ?_)
 exact goo 6 rfl<|wBd [.int .i64 3, .int .i64 0, .str T.1, .sl ([].map aH), .sl ([].map aG)] rfl rfl rfl rfl rfl rfl<|geo
 refine gco 4 rfl<|cQ (L:=([(4:Int),(5:Int),(6:Int)]:List Int)) (f:=aR) rfl rfl rfl rfl rfl rfl rfl<|xC1 h (dU ·) rfl (fun d0 h=> ?_)
 refine wBd [.int .i64 d0.1, .int .i64 0, .str [], .sl ([].map aH), .sl ([].map aG)] rfl rfl rfl rfl rfl rfl<|xAz [.int .i64 0, .int .i64 0, .str [], .sl ([].map aH), .sl ([].map aG)] rfl<|goo 5 rfl<|xC1 h (aO ·) rfl (fun d4 h=> ?_)
 refine goc 9 rfl<|cIf h rfl (fun e0 h=> ?_) (fun e0 h=> ?_)
 refine gcc 8 rfl<|cLp h [(10,10),(59,81)] [(8,8),(1000000,1000001)] (fun(U,a0,a1,a2,a3,a4,j,l,m,H)=>([(10,I64 U)],[(8,[.int .i64 a0, .int .i64 a1, .str a2, .sl (a3.map aH), .sl (a4.map aG)]),(1000000,[.sl (j.map rI_u8), .int .i64 l, .int .i64 m]),(1000001,[.sl (H.map fO)])])) (fun(V,Y,a5,a6,a7,a8,a9,o,p,s,I)=>(.e 1,[(10,I64 V),(61,Bo Y)],[(8,[.int .i64 a5, .int .i64 a6, .str a7, .sl (a8.map aH), .sl (a9.map aG)]),(1000000,[.sl (o.map rI_u8), .int .i64 p, .int .i64 s]),(1000001,[.sl (I.map fO)])])) rfl (fun st _ h=> ?_) (fun q h=> ?_)
 obtain⟨U,a0,a1,a2,a3,a4,j,l,m,H⟩:=st; unfold oG at h; refine gcc 7 rfl<|cIf h rfl (fun e1 h=> ?_) (fun e1 h=> ?_)
 refine gcc 2 rfl<|cJn h [(64,81)] [(8,8),(1000000,1000001)] (fun(b0,b1,b2,b3,b4,t,u,v,J)=>(.n,[],[(8,[.int .i64 b0, .int .i64 b1, .str b2, .sl (b3.map aH), .sl (b4.map aG)]),(1000000,[.sl (t.map rI_u8), .int .i64 u, .int .i64 v]),(1000001,[.sl (J.map fO)])])) (fun _ h=> ?_) (fun q h=> ?_)
 refine gcc 6 rfl<|cIf h rfl (fun e2 h=> ?_) (fun e2 h=> ?_)
 refine gco 7 rfl<|xCk h (b ·) rfl (fun c h=> ?_)
 refine cQ (L:=([aB.mk c.1 c.2.1 c.2.2.1 c.2.2.2.1 c.2.2.2.2.1]:List aB)) (f:=aH) rfl rfl rfl rfl (by simp only[List.map,aY]<;>rfl) rfl rfl<|wAp (f:=aH) h rfl rfl rfl rfl rfl rfl rfl rfl rfl (fun a=>by rw[bB]; rfl) rfl (fun e8 h=> ?_)
 exact geo; refine gco 3 rfl<|wBd [.int .i64 3, .int .i64 0, .str [95], .sl ([].map aH), .sl ([].map aG)] rfl rfl rfl rfl rfl rfl<|cQ (L:=([aB.mk (3:Int) (0:Int) ([95]:List UInt8) ([]:List aB) ([]:List aC)]:List aB)) (f:=aH) rfl rfl rfl rfl (by simp only[List.map,aY]<;>rfl) rfl rfl<|wAp (f:=aH) h rfl rfl rfl rfl rfl rfl rfl rfl rfl (fun a=>by rw[bB]; rfl) rfl (fun f0 h=> ?_)
 exact geo; obtain⟨b0,b1,b2,b3,b4,t,u,v,J⟩:=q; exact gec; exact gec; obtain⟨V,Y,a5,a6,a7,a8,a9,o,p,s,I⟩:=q; exact gec; refine gcc 6 rfl<|cLp h [(10,10),(59,81)] [(8,8),(1000000,1000001)] (fun(W,b5,b6,b7,b8,b9,w,y,z,K)=>([(10,I64 W)],[(8,[.int .i64 b5, .int .i64 b6, .str b7, .sl (b8.map aH), .sl (b9.map aG)]),(1000000,[.sl (w.map rI_u8), .int .i64 y, .int .i64 z]),(1000001,[.sl (K.map fO)])])) (fun(X,Z,c0,c1,c2,c3,c4,A,B,C,M)=>(.e 1,[(10,I64 X),(61,Bo Z)],[(8,[.int .i64 c0, .int .i64 c1, .str c2, .sl (c3.map aH), .sl (c4.map aG)]),(1000000,[.sl (A.map rI_u8), .int .i64 B, .int .i64 C]),(1000001,[.sl (M.map fO)])])) rfl (fun st _ h=> ?_) (fun q h=> ?_)
 obtain⟨W,b5,b6,b7,b8,b9,w,y,z,K⟩:=st; unfold oF at h; refine gcc 7 rfl<|cIf h rfl (fun e3 h=> ?_) (fun e3 h=> ?_)
 refine gcc 2 rfl<|cJn h [(64,81)] [(8,8),(1000000,1000001)] (fun(c5,c6,c7,c8,c9,D,E,G,N)=>(.n,[],[(8,[.int .i64 c5, .int .i64 c6, .str c7, .sl (c8.map aH), .sl (c9.map aG)]),(1000000,[.sl (D.map rI_u8), .int .i64 E, .int .i64 G]),(1000001,[.sl (N.map fO)])])) (fun _ h=> ?_) (fun q h=> ?_)
 refine gcc 6 rfl<|cIf h rfl (fun e4 h=> ?_) (fun e4 h=> ?_)
 refine gco 7 rfl<|xCk h (b ·) rfl (fun d h=> ?_)
 refine cQ (L:=([aB.mk d.1 d.2.1 d.2.2.1 d.2.2.2.1 d.2.2.2.2.1]:List aB)) (f:=aH) rfl rfl rfl rfl (by simp only[List.map,aY]<;>rfl) rfl rfl<|wAp (f:=aH) h rfl rfl rfl rfl rfl rfl rfl rfl rfl (fun a=>by rw[bB]; rfl) rfl (fun e9 h=> ?_)
 exact geo; refine gco 3 rfl<|wBd [.int .i64 3, .int .i64 0, .str [95], .sl ([].map aH), .sl ([].map aG)] rfl rfl rfl rfl rfl rfl<|cQ (L:=([aB.mk (3:Int) (0:Int) ([95]:List UInt8) ([]:List aB) ([]:List aC)]:List aB)) (f:=aH) rfl rfl rfl rfl (by simp only[List.map,aY]<;>rfl) rfl rfl<|wAp (f:=aH) h rfl rfl rfl rfl rfl rfl rfl rfl rfl (fun a=>by rw[bB]; rfl) rfl (fun f1 h=> ?_)
 exact geo; obtain⟨c5,c6,c7,c8,c9,D,E,G,N⟩:=q; exact gec; exact gec; obtain⟨X,Z,c0,c1,c2,c3,c4,A,B,C,M⟩:=q; exact gec
def CM:Nat→(kT)
  | 0=>(fun _ _ _ _ _=>none)
  | n+1=>pN n (CM n)
def eA(n:Nat):kT:=CM n
theorem Ex(n:Nat):sP (eA n):=by
  induction n with
  | zero=>exact(fun h=>nomatch h)
  | succ n ih=>exact Eu (n:=n) ih
theorem yR{n:Nat}:sP (eA n):=(Ex n)
theorem Bs(n:Nat):eA (n+1)=pN n (eA n):=rfl
abbrev dB:Type:=Int→(List (List UInt8))→(List Int)→Int→Int→Option (Int×Int×(List UInt8)×(List aB)×(List aC)×(List Int)×Int×Int)
abbrev qY(p:dB):Prop:= ∀ {f:Int} {g:List (List UInt8)} {a:List Int} {b d:Int} {r:Int×Int×(List UInt8)×(List aB)×(List aC)×(List Int)×Int×Int},p f g a b d=some r→Big Tryz.prog τ An (.fn 118 [.one (.ptr 1000000 0), .one (.c (.int .i64 f)), .one (.c (.sl (g.map fO)))] [[.sl (a.map rI_u8), .int .i64 b, .int .i64 d]] (.one (.ag [.int .i64 r.1, .int .i64 r.2.1, .str r.2.2.1, .sl (r.2.2.2.1.map aH), .sl (r.2.2.2.2.1.map aG)])) none [[.sl (r.2.2.2.2.2.1.map rI_u8), .int .i64 r.2.2.2.2.2.2.1, .int .i64 r.2.2.2.2.2.2.2]] none)
def vD(n:Nat)(f:dB)(t:Int)(u:List (List UInt8)):(Int×Int×Int×(List UInt8)×(List aB)×(List aC)×(List Int)×Int×Int)→Option ((Int×Int×Int×(List UInt8)×(List aB)×(List aC)×(List Int)×Int×Int)⊕((Int×Bool×Int×Int×(List UInt8)×(List aB)×(List aC)×(List Int)×Int×Int)))
  | (g,j,l,m,o,p,b,c,d)=>bif decide ((0:Int)<g)then(f (IntKind.wrap .i64 (t - (1:Int))) u b c d).bind fun a=>(dF 80 o ([aB.mk a.1 a.2.1 a.2.2.1 a.2.2.2.1 a.2.2.2.2.1]:List aB)).bind fun s=>some (.inl ((IntKind.wrap .i64 (g - (1:Int))),j,l,m,s,p,a.2.2.2.2.2.1,a.2.2.2.2.2.2.1,a.2.2.2.2.2.2.2))else some (.inr (g,false,j,l,m,o,p,b,c,d))
def vC(n:Nat)(f:dB)(t:Int)(u:List (List UInt8)):(Int×Int×Int×(List UInt8)×(List aB)×(List aC)×(List Int)×Int×Int)→Option ((Int×Int×Int×(List UInt8)×(List aB)×(List aC)×(List Int)×Int×Int)⊕((Int×Bool×Int×Int×(List UInt8)×(List aB)×(List aC)×(List Int)×Int×Int)))
  | (g,j,l,m,o,p,b,c,d)=>bif decide (g<(2:Int))then(f (IntKind.wrap .i64 (t - (1:Int))) u b c d).bind fun a=>(dF 80 o ([aB.mk a.1 a.2.1 a.2.2.1 a.2.2.2.1 a.2.2.2.2.1]:List aB)).bind fun s=>some (.inl ((IntKind.wrap .i64 (g+(1:Int))),j,l,m,s,p,a.2.2.2.2.2.1,a.2.2.2.2.2.2.1,a.2.2.2.2.2.2.2))else some (.inr (g,false,j,l,m,o,p,b,c,d))
def vB(n:Nat)(f:dB)(t:Int)(u:List (List UInt8)):(Int×Int×Int×(List UInt8)×(List aB)×(List aC)×(List Int)×Int×Int)→Option ((Int×Int×Int×(List UInt8)×(List aB)×(List aC)×(List Int)×Int×Int)⊕((Int×Bool×Int×Int×(List UInt8)×(List aB)×(List aC)×(List Int)×Int×Int)))
  | (g,j,l,m,o,p,b,c,d)=>bif decide (g<(1:Int))then(f (IntKind.wrap .i64 (t - (1:Int))) u b c d).bind fun a=>(dF 80 o ([aB.mk a.1 a.2.1 a.2.2.1 a.2.2.2.1 a.2.2.2.2.1]:List aB)).bind fun s=>some (.inl ((IntKind.wrap .i64 (g+(1:Int))),j,l,m,s,p,a.2.2.2.2.2.1,a.2.2.2.2.2.2.1,a.2.2.2.2.2.2.2))else some (.inr (g,false,j,l,m,o,p,b,c,d))
def vA(n:Nat)(j:dB)(w:Int)(y:List (List UInt8)):(Int×Int×Int×(List UInt8)×(List aB)×(List aC)×(List Int)×Int×Int)→Option ((Int×Int×Int×(List UInt8)×(List aB)×(List aC)×(List Int)×Int×Int)⊕((Int×Bool×Int×Int×(List UInt8)×(List aB)×(List aC)×(List Int)×Int×Int)))
  | (g,l,m,o,p,s,c,d,f)=>bif decide ((0:Int)<g)then(eA n (1:Int) c d f ([]:List (List UInt8))).bind fun a=>(dF 16 ([]:List (List UInt8)) y).bind fun t=>(dF 16 t a.2.2.2.2.2.2.2.2).bind fun u=>(j (IntKind.wrap .i64 (w - (1:Int))) u a.2.2.2.2.2.1 a.2.2.2.2.2.2.1 a.2.2.2.2.2.2.2.1).bind fun b=>(dF 160 s ([aC.mk a.1 a.2.1 a.2.2.1 a.2.2.2.1 a.2.2.2.2.1 b.1 b.2.1 b.2.2.1 b.2.2.2.1 b.2.2.2.2.1]:List aC)).bind fun v=>some (.inl ((IntKind.wrap .i64 (g - (1:Int))),l,m,o,p,v,b.2.2.2.2.2.1,b.2.2.2.2.2.2.1,b.2.2.2.2.2.2.2))else some (.inr (g,false,l,m,o,p,s,c,d,f))
def mV(n:Nat)(f:dB)(t:Int)(u:List (List UInt8)):(Int×Int×Int×(List UInt8)×(List aB)×(List aC)×(List Int)×Int×Int)→Option ((Int×Int×Int×(List UInt8)×(List aB)×(List aC)×(List Int)×Int×Int)⊕((Int×Bool×Int×Int×(List UInt8)×(List aB)×(List aC)×(List Int)×Int×Int)))
  | (g,j,l,m,o,p,b,c,d)=>bif decide ((0:Int)<g)then(f (IntKind.wrap .i64 (t - (1:Int))) u b c d).bind fun a=>(dF 80 o ([aB.mk a.1 a.2.1 a.2.2.1 a.2.2.2.1 a.2.2.2.2.1]:List aB)).bind fun s=>some (.inl ((IntKind.wrap .i64 (g - (1:Int))),j,l,m,s,p,a.2.2.2.2.2.1,a.2.2.2.2.2.2.1,a.2.2.2.2.2.2.2))else some (.inr (g,false,j,l,m,o,p,b,c,d))
def mU(n:Nat)(g:dB)(t:Int)(u:List (List UInt8)):(Int×Int×Int×(List UInt8)×(List aB)×(List aC)×(List Int)×Int×Int)→Option ((Int×Int×Int×(List UInt8)×(List aB)×(List aC)×(List Int)×Int×Int)⊕((Int×Bool×Int×Int×(List UInt8)×(List aB)×(List aC)×(List Int)×Int×Int)))
  | (f,j,l,m,o,p,b,c,d)=>bif decide (f<(2:Int))then(g (IntKind.wrap .i64 (t - (1:Int))) u b c d).bind fun a=>(dF 80 o ([aB.mk a.1 a.2.1 a.2.2.1 a.2.2.2.1 a.2.2.2.2.1]:List aB)).bind fun s=>some (.inl ((IntKind.wrap .i64 (f+(1:Int))),j,l,m,s,p,a.2.2.2.2.2.1,a.2.2.2.2.2.2.1,a.2.2.2.2.2.2.2))else some (.inr (f,false,j,l,m,o,p,b,c,d))
def mT(n:Nat)(g:dB)(t:Int)(u:List (List UInt8)):(Int×Int×Int×(List UInt8)×(List aB)×(List aC)×(List Int)×Int×Int)→Option ((Int×Int×Int×(List UInt8)×(List aB)×(List aC)×(List Int)×Int×Int)⊕((Int×Bool×Int×Int×(List UInt8)×(List aB)×(List aC)×(List Int)×Int×Int)))
  | (f,j,l,m,o,p,b,c,d)=>bif decide (f<(1:Int))then(g (IntKind.wrap .i64 (t - (1:Int))) u b c d).bind fun a=>(dF 80 o ([aB.mk a.1 a.2.1 a.2.2.1 a.2.2.2.1 a.2.2.2.2.1]:List aB)).bind fun s=>some (.inl ((IntKind.wrap .i64 (f+(1:Int))),j,l,m,s,p,a.2.2.2.2.2.1,a.2.2.2.2.2.2.1,a.2.2.2.2.2.2.2))else some (.inr (f,false,j,l,m,o,p,b,c,d))
def mS(n:Nat)(j:dB)(w:Int)(y:List (List UInt8)):(Int×Int×Int×(List UInt8)×(List aB)×(List aC)×(List Int)×Int×Int)→Option ((Int×Int×Int×(List UInt8)×(List aB)×(List aC)×(List Int)×Int×Int)⊕((Int×Bool×Int×Int×(List UInt8)×(List aB)×(List aC)×(List Int)×Int×Int)))
  | (g,l,m,o,p,s,c,d,f)=>bif decide ((0:Int)<g)then(eA n (1:Int) c d f ([]:List (List UInt8))).bind fun a=>(dF 16 ([]:List (List UInt8)) y).bind fun t=>(dF 16 t a.2.2.2.2.2.2.2.2).bind fun u=>(j (IntKind.wrap .i64 (w - (1:Int))) u a.2.2.2.2.2.1 a.2.2.2.2.2.2.1 a.2.2.2.2.2.2.2.1).bind fun b=>(dF 160 s ([aC.mk a.1 a.2.1 a.2.2.1 a.2.2.2.1 a.2.2.2.2.1 b.1 b.2.1 b.2.2.1 b.2.2.2.1 b.2.2.2.2.1]:List aC)).bind fun v=>some (.inl ((IntKind.wrap .i64 (g - (1:Int))),l,m,o,p,v,b.2.2.2.2.2.1,b.2.2.2.2.2.2.1,b.2.2.2.2.2.2.2))else some (.inr (g,false,l,m,o,p,s,c,d,f))
def nP(n:Nat)(a:dB)(f:Int)(d:List (List UInt8))(j3:List Int)(j4:Int)(j5:Int):Option (Int×Int×(List UInt8)×(List aB)×(List aC)×(List Int)×Int×Int):=
  (aM n (11:Int) j3 j4 j5).bind fun b=>bif decide (f<(1:Int))then(aM n (4:Int) b.2.1 b.2.2.1 b.2.2.2).bind fun c=>bif decide (c.1=(0:Int))then(cX n ([(0:Int),(1:Int),(2:Int),(5:Int),(40:Int)]:List Int) c.2.1 c.2.2.1 c.2.2.2).bind fun b9=>(cW n b9.1).bind fun a7=>some (a7.1,a7.2.1,a7.2.2.1,a7.2.2.2.1,a7.2.2.2.2,b9.2.1,b9.2.2.1,b9.2.2.2)else bif decide (c.1=(1:Int))then(bN n ([([111,107]:List UInt8),([97]:List UInt8),([115,116,111,112]:List UInt8),([116,114,117,101]:List UInt8)]:List (List UInt8)) c.2.1 c.2.2.1 c.2.2.2).bind fun c0=>(mO n c0.1).bind fun a8=>some (a8.1,a8.2.1,a8.2.2.1,a8.2.2.2.1,a8.2.2.2.2,c0.2.1,c0.2.2.1,c0.2.2.2)else bif decide (c.1=(2:Int))then bif decide ((0:Int)<(d.length:Int))then(aM n (d.length:Int) c.2.1 c.2.2.1 c.2.2.2).bind fun a9=>(ix d a9.1).bind fun h5=>some ((3:Int),(0:Int),h5,([]:List aB),([]:List aC),a9.2.1,a9.2.2.1,a9.2.2.2)else(aM n (4:Int) c.2.1 c.2.2.1 c.2.2.2).bind fun b2=>(cW n b2.1).bind fun R=>some (R.1,R.2.1,R.2.2.1,R.2.2.2.1,R.2.2.2.2,b2.2.1,b2.2.2.1,b2.2.2.2)else bif decide (c.1=(3:Int))then bif decide ((0:Int)<(d.length:Int))then(aM n (d.length:Int) c.2.1 c.2.2.1 c.2.2.2).bind fun b0=>(ix d b0.1).bind fun h6=>some ((3:Int),(0:Int),h6,([]:List aB),([]:List aC),b0.2.1,b0.2.2.1,b0.2.2.2)else(aM n (4:Int) c.2.1 c.2.2.1 c.2.2.2).bind fun b3=>(cW n b3.1).bind fun T=>some (T.1,T.2.1,T.2.2.1,T.2.2.2.1,T.2.2.2.2,b3.2.1,b3.2.2.1,b3.2.2.2)else bif decide (c.1=(4:Int))then bif decide ((0:Int)<(d.length:Int))then(aM n (d.length:Int) c.2.1 c.2.2.1 c.2.2.2).bind fun b1=>(ix d b1.1).bind fun h7=>some ((3:Int),(0:Int),h7,([]:List aB),([]:List aC),b1.2.1,b1.2.2.1,b1.2.2.2)else(aM n (4:Int) c.2.1 c.2.2.1 c.2.2.2).bind fun b4=>(cW n b4.1).bind fun U=>some (U.1,U.2.1,U.2.2.1,U.2.2.2.1,U.2.2.2.2,b4.2.1,b4.2.2.1,b4.2.2.2)else bif decide (c.1=(5:Int))then(bN n ([([43]:List UInt8),([45]:List UInt8),([42]:List UInt8),([61,61]:List UInt8),([60]:List UInt8),([43]:List UInt8)]:List (List UInt8)) c.2.1 c.2.2.1 c.2.2.2).bind fun b5=>(a (IntKind.wrap .i64 (f - (1:Int))) d b5.2.1 b5.2.2.1 b5.2.2.2).bind fun D=>(a (IntKind.wrap .i64 (f - (1:Int))) d D.2.2.2.2.2.1 D.2.2.2.2.2.2.1 D.2.2.2.2.2.2.2).bind fun G=>some ((7:Int),(0:Int),b5.1,([aB.mk D.1 D.2.1 D.2.2.1 D.2.2.2.1 D.2.2.2.2.1,aB.mk G.1 G.2.1 G.2.2.1 G.2.2.2.1 G.2.2.2.2.1]:List aB),([]:List aC),G.2.2.2.2.2.1,G.2.2.2.2.2.2.1,G.2.2.2.2.2.2.2)else bif decide (c.1=(6:Int))then(bN n ([([43]:List UInt8),([45]:List UInt8),([42]:List UInt8),([61,61]:List UInt8),([60]:List UInt8),([43]:List UInt8)]:List (List UInt8)) c.2.1 c.2.2.1 c.2.2.2).bind fun b6=>(a (IntKind.wrap .i64 (f - (1:Int))) d b6.2.1 b6.2.2.1 b6.2.2.2).bind fun E=>(a (IntKind.wrap .i64 (f - (1:Int))) d E.2.2.2.2.2.1 E.2.2.2.2.2.2.1 E.2.2.2.2.2.2.2).bind fun H=>some ((7:Int),(0:Int),b6.1,([aB.mk E.1 E.2.1 E.2.2.1 E.2.2.2.1 E.2.2.2.2.1,aB.mk H.1 H.2.1 H.2.2.1 H.2.2.2.1 H.2.2.2.2.1]:List aB),([]:List aC),H.2.2.2.2.2.1,H.2.2.2.2.2.2.1,H.2.2.2.2.2.2.2)else bif decide (c.1=(7:Int))then(cX n ([(4:Int),(5:Int)]:List Int) c.2.1 c.2.2.1 c.2.2.2).bind fun b7=>(aM n (3:Int) b7.2.1 b7.2.2.1 b7.2.2.2).bind fun b8=>(loopN (vD n a f d) n (b8.1,b7.1,(0:Int),([]:List UInt8),([]:List aB),([]:List aC),b8.2.1,b8.2.2.1,b8.2.2.2)).bind fun(l1,k9,i8,i9,j0,j1,j2,d9,e0,e1)=>some (i8,i9,j0,j1,j2,d9,e0,e1)else bif decide (c.1=(8:Int))then(a (IntKind.wrap .i64 (f - (1:Int))) d c.2.1 c.2.2.1 c.2.2.2).bind fun w=>(a (IntKind.wrap .i64 (f - (1:Int))) d w.2.2.2.2.2.1 w.2.2.2.2.2.2.1 w.2.2.2.2.2.2.2).bind fun y=>some ((6:Int),(0:Int),([]:List UInt8),([aB.mk w.1 w.2.1 w.2.2.1 w.2.2.2.1 w.2.2.2.2.1,aB.mk (5:Int) (0:Int) ([]:List UInt8) ([aB.mk y.1 y.2.1 y.2.2.1 y.2.2.2.1 y.2.2.2.2.1]:List aB) ([]:List aC)]:List aB),([]:List aC),y.2.2.2.2.2.1,y.2.2.2.2.2.2.1,y.2.2.2.2.2.2.2)else bif decide (c.1=(9:Int))then(bN n ([([102]:List UInt8),([103]:List UInt8),([104]:List UInt8)]:List (List UInt8)) c.2.1 c.2.2.1 c.2.2.2).bind fun t=>bif decide (t.1=([103]:List UInt8))then(loopN (vC n a f d) n ((0:Int),(8:Int),(0:Int),t.1,([]:List aB),([]:List aC),t.2.1,t.2.2.1,t.2.2.2)).bind fun(k7,k0,h8,h9,i0,i1,i2,e2,e3,e4)=>some (h8,h9,i0,i1,i2,e2,e3,e4)else(loopN (vB n a f d) n ((0:Int),(8:Int),(0:Int),t.1,([]:List aB),([]:List aC),t.2.1,t.2.2.1,t.2.2.2)).bind fun(k8,k1,g0,g1,g2,g3,g4,c1,c2,c3)=>some (g0,g1,g2,g3,g4,c1,c2,c3)else(a (IntKind.wrap .i64 (f - (1:Int))) d c.2.1 c.2.2.1 c.2.2.2).bind fun m=>(aM n (2:Int) m.2.2.2.2.2.1 m.2.2.2.2.2.2.1 m.2.2.2.2.2.2.2).bind fun N=>(loopN (vA n a f d) n ((IntKind.wrap .i64 ((1:Int)+N.1)),(9:Int),(0:Int),([]:List UInt8),([aB.mk m.1 m.2.1 m.2.2.1 m.2.2.2.1 m.2.2.2.2.1]:List aB),([]:List aC),N.2.1,N.2.2.1,N.2.2.2)).bind fun(k4,j8,e5,e6,e7,e8,e9,c4,c5,c6)=>(jI n (2:Int) c4 c5 c6).bind fun u=>bif u.1 then(a (IntKind.wrap .i64 (f - (1:Int))) d u.2.1 u.2.2.1 u.2.2.2).bind fun p=>(dF 160 e9 ([aC.mk (3:Int) (0:Int) ([95]:List UInt8) ([]:List aB) ([]:List aC) p.1 p.2.1 p.2.2.1 p.2.2.2.1 p.2.2.2.2.1]:List aC)).bind fun f5=>some (e5,e6,e7,e8,f5,p.2.2.2.2.2.1,p.2.2.2.2.2.2.1,p.2.2.2.2.2.2.2)else some (e5,e6,e7,e8,e9,u.2.1,u.2.2.1,u.2.2.2)else bif decide (b.1=(0:Int))then(cX n ([(0:Int),(1:Int),(2:Int),(5:Int),(40:Int)]:List Int) b.2.1 b.2.2.1 b.2.2.2).bind fun V=>(cW n V.1).bind fun I=>some (I.1,I.2.1,I.2.2.1,I.2.2.2.1,I.2.2.2.2,V.2.1,V.2.2.1,V.2.2.2)else bif decide (b.1=(1:Int))then(bN n ([([111,107]:List UInt8),([97]:List UInt8),([115,116,111,112]:List UInt8),([116,114,117,101]:List UInt8)]:List (List UInt8)) b.2.1 b.2.2.1 b.2.2.2).bind fun W=>(mO n W.1).bind fun J=>some (J.1,J.2.1,J.2.2.1,J.2.2.2.1,J.2.2.2.2,W.2.1,W.2.2.1,W.2.2.2)else bif decide (b.1=(2:Int))then bif decide ((0:Int)<(d.length:Int))then(aM n (d.length:Int) b.2.1 b.2.2.1 b.2.2.2).bind fun X=>(ix d X.1).bind fun f7=>some ((3:Int),(0:Int),f7,([]:List aB),([]:List aC),X.2.1,X.2.2.1,X.2.2.2)else(aM n (4:Int) b.2.1 b.2.2.1 b.2.2.2).bind fun a0=>(cW n a0.1).bind fun K=>some (K.1,K.2.1,K.2.2.1,K.2.2.2.1,K.2.2.2.2,a0.2.1,a0.2.2.1,a0.2.2.2)else bif decide (b.1=(3:Int))then bif decide ((0:Int)<(d.length:Int))then(aM n (d.length:Int) b.2.1 b.2.2.1 b.2.2.2).bind fun Y=>(ix d Y.1).bind fun f8=>some ((3:Int),(0:Int),f8,([]:List aB),([]:List aC),Y.2.1,Y.2.2.1,Y.2.2.2)else(aM n (4:Int) b.2.1 b.2.2.1 b.2.2.2).bind fun a1=>(cW n a1.1).bind fun L=>some (L.1,L.2.1,L.2.2.1,L.2.2.2.1,L.2.2.2.2,a1.2.1,a1.2.2.1,a1.2.2.2)else bif decide (b.1=(4:Int))then bif decide ((0:Int)<(d.length:Int))then(aM n (d.length:Int) b.2.1 b.2.2.1 b.2.2.2).bind fun Z=>(ix d Z.1).bind fun f9=>some ((3:Int),(0:Int),f9,([]:List aB),([]:List aC),Z.2.1,Z.2.2.1,Z.2.2.2)else(aM n (4:Int) b.2.1 b.2.2.1 b.2.2.2).bind fun a2=>(cW n a2.1).bind fun M=>some (M.1,M.2.1,M.2.2.1,M.2.2.2.1,M.2.2.2.2,a2.2.1,a2.2.2.1,a2.2.2.2)else bif decide (b.1=(5:Int))then(bN n ([([43]:List UInt8),([45]:List UInt8),([42]:List UInt8),([61,61]:List UInt8),([60]:List UInt8),([43]:List UInt8)]:List (List UInt8)) b.2.1 b.2.2.1 b.2.2.2).bind fun a3=>(a (IntKind.wrap .i64 (f - (1:Int))) d a3.2.1 a3.2.2.1 a3.2.2.2).bind fun z=>(a (IntKind.wrap .i64 (f - (1:Int))) d z.2.2.2.2.2.1 z.2.2.2.2.2.2.1 z.2.2.2.2.2.2.2).bind fun B=>some ((7:Int),(0:Int),a3.1,([aB.mk z.1 z.2.1 z.2.2.1 z.2.2.2.1 z.2.2.2.2.1,aB.mk B.1 B.2.1 B.2.2.1 B.2.2.2.1 B.2.2.2.2.1]:List aB),([]:List aC),B.2.2.2.2.2.1,B.2.2.2.2.2.2.1,B.2.2.2.2.2.2.2)else bif decide (b.1=(6:Int))then(bN n ([([43]:List UInt8),([45]:List UInt8),([42]:List UInt8),([61,61]:List UInt8),([60]:List UInt8),([43]:List UInt8)]:List (List UInt8)) b.2.1 b.2.2.1 b.2.2.2).bind fun a4=>(a (IntKind.wrap .i64 (f - (1:Int))) d a4.2.1 a4.2.2.1 a4.2.2.2).bind fun A=>(a (IntKind.wrap .i64 (f - (1:Int))) d A.2.2.2.2.2.1 A.2.2.2.2.2.2.1 A.2.2.2.2.2.2.2).bind fun C=>some ((7:Int),(0:Int),a4.1,([aB.mk A.1 A.2.1 A.2.2.1 A.2.2.2.1 A.2.2.2.2.1,aB.mk C.1 C.2.1 C.2.2.1 C.2.2.2.1 C.2.2.2.2.1]:List aB),([]:List aC),C.2.2.2.2.2.1,C.2.2.2.2.2.2.1,C.2.2.2.2.2.2.2)else bif decide (b.1=(7:Int))then(cX n ([(4:Int),(5:Int)]:List Int) b.2.1 b.2.2.1 b.2.2.2).bind fun a5=>(aM n (3:Int) a5.2.1 a5.2.2.1 a5.2.2.2).bind fun a6=>(loopN (mV n a f d) n (a6.1,a5.1,(0:Int),([]:List UInt8),([]:List aB),([]:List aC),a6.2.1,a6.2.2.1,a6.2.2.2)).bind fun(l0,k6,i3,i4,i5,i6,i7,c7,c8,c9)=>some (i3,i4,i5,i6,i7,c7,c8,c9)else bif decide (b.1=(8:Int))then(a (IntKind.wrap .i64 (f - (1:Int))) d b.2.1 b.2.2.1 b.2.2.2).bind fun j=>(a (IntKind.wrap .i64 (f - (1:Int))) d j.2.2.2.2.2.1 j.2.2.2.2.2.2.1 j.2.2.2.2.2.2.2).bind fun l=>some ((6:Int),(0:Int),([]:List UInt8),([aB.mk j.1 j.2.1 j.2.2.1 j.2.2.2.1 j.2.2.2.2.1,aB.mk (5:Int) (0:Int) ([]:List UInt8) ([aB.mk l.1 l.2.1 l.2.2.1 l.2.2.2.1 l.2.2.2.2.1]:List aB) ([]:List aC)]:List aB),([]:List aC),l.2.2.2.2.2.1,l.2.2.2.2.2.2.1,l.2.2.2.2.2.2.2)else bif decide (b.1=(9:Int))then(bN n ([([102]:List UInt8),([103]:List UInt8),([104]:List UInt8)]:List (List UInt8)) b.2.1 b.2.2.1 b.2.2.2).bind fun g=>bif decide (g.1=([103]:List UInt8))then(loopN (mU n a f d) n ((0:Int),(8:Int),(0:Int),g.1,([]:List aB),([]:List aC),g.2.1,g.2.2.1,g.2.2.2)).bind fun(k2,j6,g5,g6,g7,g8,g9,d0,d1,d2)=>some (g5,g6,g7,g8,g9,d0,d1,d2)else(loopN (mT n a f d) n ((0:Int),(8:Int),(0:Int),g.1,([]:List aB),([]:List aC),g.2.1,g.2.2.1,g.2.2.2)).bind fun(k3,j7,h0,h1,h2,h3,h4,d3,d4,d5)=>some (h0,h1,h2,h3,h4,d3,d4,d5)else(a (IntKind.wrap .i64 (f - (1:Int))) d b.2.1 b.2.2.1 b.2.2.2).bind fun o=>(aM n (2:Int) o.2.2.2.2.2.1 o.2.2.2.2.2.2.1 o.2.2.2.2.2.2.2).bind fun Q=>(loopN (mS n a f d) n ((IntKind.wrap .i64 ((1:Int)+Q.1)),(9:Int),(0:Int),([]:List UInt8),([aB.mk o.1 o.2.1 o.2.2.1 o.2.2.2.1 o.2.2.2.2.1]:List aB),([]:List aC),Q.2.1,Q.2.2.1,Q.2.2.2)).bind fun(k5,j9,f0,f1,f2,f3,f4,d6,d7,d8)=>(jI n (2:Int) d6 d7 d8).bind fun v=>bif v.1 then(a (IntKind.wrap .i64 (f - (1:Int))) d v.2.1 v.2.2.1 v.2.2.2).bind fun s=>(dF 160 f4 ([aC.mk (3:Int) (0:Int) ([95]:List UInt8) ([]:List aB) ([]:List aC) s.1 s.2.1 s.2.2.1 s.2.2.2.1 s.2.2.2.2.1]:List aC)).bind fun f6=>some (f0,f1,f2,f3,f6,s.2.2.2.2.2.1,s.2.2.2.2.2.2.1,s.2.2.2.2.2.2.2)else some (f0,f1,f2,f3,f4,v.2.1,v.2.2.1,v.2.2.2)
theorem Cz{n:Nat}{M:dB}(b:qY M):qY (nP n M):=by
 intro y7 y8 y1 y2 y3 r h; unfold nP at h; refine bF Tryz.func118 rfl rfl<|cRs<|xAz [.int .i64 0, .int .i64 0, .str [], .sl ([].map aH), .sl ([].map aG)] rfl<|goo 4 rfl<|xC1 h (aO ·) rfl (fun x5 h=> ?_)
 refine goc 8 rfl<|cIf h rfl (fun q2 h=> ?_) (fun q2 h=> ?_)
 refine gco 2 rfl<|xC1 h (aO ·) rfl (fun x6 h=> ?_)
 refine goc 13 rfl<|cIf h rfl (fun q4 h=> ?_) (fun q4 h=> ?_)
 refine gco 3 rfl<|cQ (L:=([(0:Int),(1:Int),(2:Int),(5:Int),(40:Int)]:List Int)) (f:=aR) rfl rfl rfl rfl rfl rfl rfl<|xC1 h (dU ·) rfl (fun x7 h=> ?_)
 refine xC0 h (dT ·) rfl (fun x8 h=> ?_)
 exact geo; refine gcc 5 rfl<|cIf h rfl (fun q7 h=> ?_) (fun q7 h=> ?_)
 refine gco 3 rfl<|cQ (L:=([([111,107]:List UInt8),([97]:List UInt8),([115,116,111,112]:List UInt8),([116,114,117,101]:List UInt8)]:List (List UInt8))) (f:=fO) rfl rfl rfl rfl rfl rfl rfl<|xC1 h (cO ·) rfl (fun x9 h=> ?_)
 refine xC0 h (uP ·) rfl (fun y0 h=> ?_)
 exact geo; refine gcc 6 rfl<|cIf h rfl (fun w0 h=> ?_) (fun w0 h=> ?_)
 refine gco 6 rfl<|xLn rfl<|goc 2 rfl<|cIf h rfl (fun w1 h=> ?_) (fun w1 h=> ?_)
 refine gco 5 rfl<|xLn rfl<|xC1 h (aO ·) rfl (fun v0 h=> ?_)
 refine xIx h qL rfl (fun p4 h=> ?_)
 exact xLd rfl<|wBd [.int .i64 3, .int .i64 0, .str p4, .sl ([].map aH), .sl ([].map aG)] rfl rfl rfl rfl rfl rfl<|geo
 refine gco 4 rfl<|xC1 h (aO ·) rfl (fun v3 h=> ?_)
 refine xC0 h (dT ·) rfl (fun v6 h=> ?_)
 exact geo; refine gcc 5 rfl<|cIf h rfl (fun w2 h=> ?_) (fun w2 h=> ?_)
 refine gco 6 rfl<|xLn rfl<|goc 2 rfl<|cIf h rfl (fun w3 h=> ?_) (fun w3 h=> ?_)
 refine gco 5 rfl<|xLn rfl<|xC1 h (aO ·) rfl (fun v1 h=> ?_)
 refine xIx h qL rfl (fun p5 h=> ?_)
 exact xLd rfl<|wBd [.int .i64 3, .int .i64 0, .str p5, .sl ([].map aH), .sl ([].map aG)] rfl rfl rfl rfl rfl rfl<|geo
 refine gco 4 rfl<|xC1 h (aO ·) rfl (fun v4 h=> ?_)
 refine xC0 h (dT ·) rfl (fun v7 h=> ?_)
 exact geo; refine gcc 4 rfl<|cIf h rfl (fun w4 h=> ?_) (fun w4 h=> ?_)
 refine gco 4 rfl<|xLn rfl<|goc 2 rfl<|cIf h rfl (fun w5 h=> ?_) (fun w5 h=> ?_)
 refine gco 5 rfl<|xLn rfl<|xC1 h (aO ·) rfl (fun v2 h=> ?_)
 refine xIx h qL rfl (fun p6 h=> ?_)
 exact xLd rfl<|wBd [.int .i64 3, .int .i64 0, .str p6, .sl ([].map aH), .sl ([].map aG)] rfl rfl rfl rfl rfl rfl<|geo
 refine gco 4 rfl<|xC1 h (aO ·) rfl (fun v5 h=> ?_)
 refine xC0 h (dT ·) rfl (fun v8 h=> ?_)
 exact geo; refine gcc 6 rfl<|cIf h rfl (fun w6 h=> ?_) (fun w6 h=> ?_)
 refine gco 5 rfl<|cQ (L:=([([43]:List UInt8),([45]:List UInt8),([42]:List UInt8),([61,61]:List UInt8),([60]:List UInt8),([43]:List UInt8)]:List (List UInt8))) (f:=fO) rfl rfl rfl rfl rfl rfl rfl<|xC1 h (cO ·) rfl (fun p1 h=> ?_)
 refine goo 4 rfl<|xC1 h (b ·) rfl (fun B h=> ?_)
 refine goo 4 rfl<|xC1 h (b ·) rfl (fun D h=> ?_)
 exact cQ (L:=([aB.mk B.1 B.2.1 B.2.2.1 B.2.2.2.1 B.2.2.2.2.1,aB.mk D.1 D.2.1 D.2.2.1 D.2.2.2.1 D.2.2.2.2.1]:List aB)) (f:=aH) rfl rfl rfl rfl (by simp only[List.map,aY]<;>rfl) rfl rfl<|wBd [.int .i64 7, .int .i64 0, .str p1.1, .sl ([aB.mk B.1 B.2.1 B.2.2.1 B.2.2.2.1 B.2.2.2.2.1,aB.mk D.1 D.2.1 D.2.2.1 D.2.2.2.1 D.2.2.2.2.1].map aH), .sl ([].map aG)] rfl rfl rfl rfl rfl rfl<|geo
 refine gcc 4 rfl<|cIf h rfl (fun w7 h=> ?_) (fun w7 h=> ?_)
 refine gco 3 rfl<|cQ (L:=([([43]:List UInt8),([45]:List UInt8),([42]:List UInt8),([61,61]:List UInt8),([60]:List UInt8),([43]:List UInt8)]:List (List UInt8))) (f:=fO) rfl rfl rfl rfl rfl rfl rfl<|xC1 h (cO ·) rfl (fun p2 h=> ?_)
 refine goo 4 rfl<|xC1 h (b ·) rfl (fun C h=> ?_)
 refine goo 4 rfl<|xC1 h (b ·) rfl (fun E h=> ?_)
 exact cQ (L:=([aB.mk C.1 C.2.1 C.2.2.1 C.2.2.2.1 C.2.2.2.2.1,aB.mk E.1 E.2.1 E.2.2.1 E.2.2.2.1 E.2.2.2.2.1]:List aB)) (f:=aH) rfl rfl rfl rfl (by simp only[List.map,aY]<;>rfl) rfl rfl<|wBd [.int .i64 7, .int .i64 0, .str p2.1, .sl ([aB.mk C.1 C.2.1 C.2.2.1 C.2.2.2.1 C.2.2.2.2.1,aB.mk E.1 E.2.1 E.2.2.1 E.2.2.2.1 E.2.2.2.2.1].map aH), .sl ([].map aG)] rfl rfl rfl rfl rfl rfl<|geo
 refine gcc 5 rfl<|cIf h rfl (fun w8 h=> ?_) (fun w8 h=> ?_)
 refine gco 3 rfl<|cQ (L:=([(4:Int),(5:Int)]:List Int)) (f:=aR) rfl rfl rfl rfl rfl rfl rfl<|xC1 h (dU ·) rfl (fun p3 h=> ?_)
 refine wBd [.int .i64 p3.1, .int .i64 0, .str [], .sl ([].map aH), .sl ([].map aG)] rfl rfl rfl rfl rfl rfl<|xAz [.int .i64 0, .int .i64 0, .str [], .sl ([].map aH), .sl ([].map aG)] rfl<|goo 6 rfl<|xC1 h (aO ·) rfl (fun v9 h=> ?_)
 refine goc 2 rfl<|cLp h [(9,9),(80,93)] [(8,8),(1000000,1000000)] (fun(n2,n4,n5,n6,n7,n8,c4,c5,c6)=>([(9,I64 n2)],[(8,[.int .i64 n4, .int .i64 n5, .str n6, .sl (n7.map aH), .sl (n8.map aG)]),(1000000,[.sl (c4.map rI_u8), .int .i64 c5, .int .i64 c6])])) (fun(n3,k3,n9,o0,o1,o2,o3,c7,c8,c9)=>(.e 1,[(9,I64 n3),(81,Bo k3)],[(8,[.int .i64 n9, .int .i64 o0, .str o1, .sl (o2.map aH), .sl (o3.map aG)]),(1000000,[.sl (c7.map rI_u8), .int .i64 c8, .int .i64 c9])])) rfl (fun st _ h=> ?_) (fun q h=> ?_)
 obtain⟨n2,n4,n5,n6,n7,n8,c4,c5,c6⟩:=st; unfold vD at h; refine gcc 6 rfl<|cIf h rfl (fun w9 h=> ?_) (fun w9 h=> ?_)
 refine gco 10 rfl<|xC1 h (b ·) rfl (fun N h=> ?_)
 refine cQ (L:=([aB.mk N.1 N.2.1 N.2.2.1 N.2.2.2.1 N.2.2.2.2.1]:List aB)) (f:=aH) rfl rfl rfl rfl (by simp only[List.map,aY]<;>rfl) rfl rfl<|wAp (f:=aH) h rfl rfl rfl rfl rfl rfl rfl rfl rfl (fun a=>by rw[bB]; rfl) rfl (fun x4 h=> ?_)
 exact geo; exact gec; obtain⟨n3,k3,n9,o0,o1,o2,o3,c7,c8,c9⟩:=q; exact gec; refine gcc 5 rfl<|cIf h rfl (fun x0 h=> ?_) (fun x0 h=> ?_)
 refine gco 6 rfl<|xC1 h (b ·) rfl (fun v h=> ?_)
 refine goo 4 rfl<|xC1 h (b ·) rfl (fun d h=> ?_)
 exact cQ (L:=([aB.mk d.1 d.2.1 d.2.2.1 d.2.2.2.1 d.2.2.2.2.1]:List aB)) (f:=aH) rfl rfl rfl rfl (by simp only[List.map,aY]<;>rfl) rfl rfl<|wBd [.int .i64 5, .int .i64 0, .str [], .sl ([aB.mk d.1 d.2.1 d.2.2.1 d.2.2.2.1 d.2.2.2.2.1].map aH), .sl ([].map aG)] rfl rfl rfl rfl rfl rfl<|cQ (L:=([aB.mk v.1 v.2.1 v.2.2.1 v.2.2.2.1 v.2.2.2.2.1,aB.mk (5:Int) (0:Int) ([]:List UInt8) ([aB.mk d.1 d.2.1 d.2.2.1 d.2.2.2.1 d.2.2.2.2.1]:List aB) ([]:List aC)]:List aB)) (f:=aH) rfl rfl rfl rfl (by simp only[List.map,aY]<;>rfl) rfl rfl<|wBd [.int .i64 6, .int .i64 0, .str [], .sl ([aB.mk v.1 v.2.1 v.2.2.1 v.2.2.2.1 v.2.2.2.2.1,aB.mk (5:Int) (0:Int) ([]:List UInt8) ([aB.mk d.1 d.2.1 d.2.2.1 d.2.2.2.1 d.2.2.2.2.1]:List aB) ([]:List aC)].map aH), .sl ([].map aG)] rfl rfl rfl rfl rfl rfl<|geo
 refine gcc 5 rfl<|cIf h rfl (fun x1 h=> ?_) (fun x1 h=> ?_)
 refine gco 3 rfl<|cQ (L:=([([102]:List UInt8),([103]:List UInt8),([104]:List UInt8)]:List (List UInt8))) (f:=fO) rfl rfl rfl rfl rfl rfl rfl<|xC1 h (cO ·) rfl (fun o4 h=> ?_)
 refine wBd [.int .i64 8, .int .i64 0, .str o4.1, .sl ([].map aH), .sl ([].map aG)] rfl rfl rfl rfl rfl rfl<|xAz [.int .i64 0, .int .i64 0, .str [], .sl ([].map aH), .sl ([].map aG)] rfl<|goc 13 rfl<|cIf h rfl (fun x2 h=> ?_) (fun x2 h=> ?_)
 refine gcc 8 rfl<|cLp h [(12,12),(120,134)] [(10,10),(1000000,1000000)] (fun(j9,k6,k7,k8,k9,l0,d0,d1,d2)=>([(12,I64 j9)],[(10,[.int .i64 k6, .int .i64 k7, .str k8, .sl (k9.map aH), .sl (l0.map aG)]),(1000000,[.sl (d0.map rI_u8), .int .i64 d1, .int .i64 d2])])) (fun(k0,e3,l1,l2,l3,l4,l5,d3,d4,d5)=>(.e 3,[(12,I64 k0),(122,Bo e3)],[(10,[.int .i64 l1, .int .i64 l2, .str l3, .sl (l4.map aH), .sl (l5.map aG)]),(1000000,[.sl (d3.map rI_u8), .int .i64 d4, .int .i64 d5])])) rfl (fun st _ h=> ?_) (fun q h=> ?_)
 obtain⟨j9,k6,k7,k8,k9,l0,d0,d1,d2⟩:=st; unfold vC at h; refine gcc 7 rfl<|cIf h rfl (fun x3 h=> ?_) (fun x3 h=> ?_)
 refine gco 10 rfl<|xC1 h (b ·) rfl (fun J h=> ?_)
 refine cQ (L:=([aB.mk J.1 J.2.1 J.2.2.1 J.2.2.2.1 J.2.2.2.2.1]:List aB)) (f:=aH) rfl rfl rfl rfl (by simp only[List.map,aY]<;>rfl) rfl rfl<|wAp (f:=aH) h rfl rfl rfl rfl rfl rfl rfl rfl rfl (fun a=>by rw[bB]; rfl) rfl (fun u8 h=> ?_)
 exact geo; exact gec; obtain⟨k0,e3,l1,l2,l3,l4,l5,d3,d4,d5⟩:=q; exact gec; refine gcc 6 rfl<|cLp h [(12,12),(120,134)] [(10,10),(1000000,1000000)] (fun(k1,l6,l7,l8,l9,m0,d6,d7,d8)=>([(12,I64 k1)],[(10,[.int .i64 l6, .int .i64 l7, .str l8, .sl (l9.map aH), .sl (m0.map aG)]),(1000000,[.sl (d6.map rI_u8), .int .i64 d7, .int .i64 d8])])) (fun(k2,e4,f4,f5,f6,f7,f8,Q,R,T)=>(.e 3,[(12,I64 k2),(122,Bo e4)],[(10,[.int .i64 f4, .int .i64 f5, .str f6, .sl (f7.map aH), .sl (f8.map aG)]),(1000000,[.sl (Q.map rI_u8), .int .i64 R, .int .i64 T])])) rfl (fun st _ h=> ?_) (fun q h=> ?_)
 obtain⟨k1,l6,l7,l8,l9,m0,d6,d7,d8⟩:=st; unfold vB at h; refine gcc 7 rfl<|cIf h rfl (fun q1 h=> ?_) (fun q1 h=> ?_)
 refine gco 10 rfl<|xC1 h (b ·) rfl (fun G h=> ?_)
 refine cQ (L:=([aB.mk G.1 G.2.1 G.2.2.1 G.2.2.2.1 G.2.2.2.2.1]:List aB)) (f:=aH) rfl rfl rfl rfl (by simp only[List.map,aY]<;>rfl) rfl rfl<|wAp (f:=aH) h rfl rfl rfl rfl rfl rfl rfl rfl rfl (fun a=>by rw[bB]; rfl) rfl (fun s3 h=> ?_)
 exact geo; exact gec; obtain⟨k2,e4,f4,f5,f6,f7,f8,Q,R,T⟩:=q; exact gec; refine gco 7 rfl<|xC1 h (b ·) rfl (fun j h=> ?_)
 refine cQ (L:=([aB.mk j.1 j.2.1 j.2.2.1 j.2.2.2.1 j.2.2.2.2.1]:List aB)) (f:=aH) rfl rfl rfl rfl (by simp only[List.map,aY]<;>rfl) rfl rfl<|wBd [.int .i64 9, .int .i64 0, .str [], .sl ([aB.mk j.1 j.2.1 j.2.2.1 j.2.2.2.1 j.2.2.2.2.1].map aH), .sl ([].map aG)] rfl rfl rfl rfl rfl rfl<|xAz [.int .i64 0, .int .i64 0, .str [], .sl ([].map aH), .sl ([].map aG)] rfl<|goo 6 rfl<|xC1 h (aO ·) rfl (fun p7 h=> ?_)
 refine goc 3 rfl<|cLp h [(14,16),(146,168)] [(13,13),(15,16),(1000000,1000000)] (fun(e9,h9,i0,i1,i2,i3,U,V,W)=>([(14,I64 e9)],[(13,[.int .i64 h9, .int .i64 i0, .str i1, .sl (i2.map aH), .sl (i3.map aG)]),(1000000,[.sl (U.map rI_u8), .int .i64 V, .int .i64 W])])) (fun(f0,e1,i4,i5,i6,i7,i8,X,Y,Z)=>(.e 5,[(14,I64 f0),(147,Bo e1)],[(13,[.int .i64 i4, .int .i64 i5, .str i6, .sl (i7.map aH), .sl (i8.map aG)]),(1000000,[.sl (X.map rI_u8), .int .i64 Y, .int .i64 Z])])) rfl (fun st _ h=> ?_) (fun q h=> ?_)
 obtain⟨e9,h9,i0,i1,i2,i3,U,V,W⟩:=st; unfold vA at h; refine gcc 6 rfl<|cIf h rfl (fun q2 h=> ?_) (fun q2 h=> ?_)
 refine gco 5 rfl<|cQ (L:=([]:List (List UInt8))) (f:=fO) rfl rfl rfl rfl rfl rfl rfl<|xAz [.sl ([].map fO)] rfl<|goo 5 rfl<|xCk h (yR ·) rfl (fun m h=> ?_)
 refine xAz [.int .i64 0, .int .i64 0, .str [], .sl ([].map aH), .sl ([].map aG)] rfl<|goo 9 rfl<|cQ (L:=([]:List (List UInt8))) (f:=fO) rfl rfl rfl rfl rfl rfl rfl<|xMv rfl<|wAp (f:=fO) h rfl rfl rfl rfl rfl rfl rfl rfl rfl (fun _=>rfl) rfl (fun s6 h=> ?_)
 refine xLd rfl<|wAp (f:=fO) h rfl rfl rfl rfl rfl rfl rfl rfl rfl (fun _=>rfl) rfl (fun s8 h=> ?_)
 refine xC1 h (b ·) rfl (fun p h=> ?_)
 refine wBd [.int .i64 m.1, .int .i64 m.2.1, .str m.2.2.1, .sl (m.2.2.2.1.map aH), .sl (m.2.2.2.2.1.map aG), .int .i64 p.1, .int .i64 p.2.1, .str p.2.2.1, .sl (p.2.2.2.1.map aH), .sl (p.2.2.2.2.1.map aG)] rfl rfl rfl rfl rfl rfl<|cQ (L:=([aC.mk m.1 m.2.1 m.2.2.1 m.2.2.2.1 m.2.2.2.2.1 p.1 p.2.1 p.2.2.1 p.2.2.2.1 p.2.2.2.2.1]:List aC)) (f:=aG) rfl rfl rfl rfl (by simp only[List.map,lN]<;>rfl) rfl rfl<|wAp (f:=aG) h rfl rfl rfl rfl rfl rfl rfl rfl rfl (fun a=>by rw[cP]; rfl) rfl (fun t0 h=> ?_)
 exact geo; exact gec; obtain⟨f0,e1,i4,i5,i6,i7,i8,X,Y,Z⟩:=q; refine gco 4 rfl<|xC1 h (rW ·) rfl (fun p9 h=> ?_)
 refine oNl<|cIf h rfl (fun q3 h=> ?_) (fun q3 h=> ?_)
 refine gco 3 rfl<|wBd [.int .i64 3, .int .i64 0, .str [95], .sl ([].map aH), .sl ([].map aG)] rfl rfl rfl rfl rfl rfl<|goo 4 rfl<|xC1 h (b ·) rfl (fun t h=> ?_)
 refine wBd [.int .i64 3, .int .i64 0, .str [95], .sl ([].map aH), .sl ([].map aG), .int .i64 t.1, .int .i64 t.2.1, .str t.2.2.1, .sl (t.2.2.2.1.map aH), .sl (t.2.2.2.2.1.map aG)] rfl rfl rfl rfl rfl rfl<|cQ (L:=([aC.mk (3:Int) (0:Int) ([95]:List UInt8) ([]:List aB) ([]:List aC) t.1 t.2.1 t.2.2.1 t.2.2.2.1 t.2.2.2.2.1]:List aC)) (f:=aG) rfl rfl rfl rfl (by simp only[List.map,lN]<;>rfl) rfl rfl<|wAp (f:=aG) h rfl rfl rfl rfl rfl rfl rfl rfl rfl (fun a=>by rw[cP]; rfl) rfl (fun t2 h=> ?_)
 exact geo; exact gec; refine gcc 12 rfl<|cIf h rfl (fun q4 h=> ?_) (fun q4 h=> ?_)
 refine gco 3 rfl<|cQ (L:=([(0:Int),(1:Int),(2:Int),(5:Int),(40:Int)]:List Int)) (f:=aR) rfl rfl rfl rfl rfl rfl rfl<|xC1 h (dU ·) rfl (fun t4 h=> ?_)
 refine xC0 h (dT ·) rfl (fun t5 h=> ?_)
 exact geo; refine gcc 5 rfl<|cIf h rfl (fun q5 h=> ?_) (fun q5 h=> ?_)
 refine gco 3 rfl<|cQ (L:=([([111,107]:List UInt8),([97]:List UInt8),([115,116,111,112]:List UInt8),([116,114,117,101]:List UInt8)]:List (List UInt8))) (f:=fO) rfl rfl rfl rfl rfl rfl rfl<|xC1 h (cO ·) rfl (fun t6 h=> ?_)
 refine xC0 h (uP ·) rfl (fun t7 h=> ?_)
 exact geo; refine gcc 6 rfl<|cIf h rfl (fun q6 h=> ?_) (fun q6 h=> ?_)
 refine gco 6 rfl<|xLn rfl<|goc 2 rfl<|cIf h rfl (fun q7 h=> ?_) (fun q7 h=> ?_)
 refine gco 5 rfl<|xLn rfl<|xC1 h (aO ·) rfl (fun t8 h=> ?_)
 refine xIx h qL rfl (fun o8 h=> ?_)
 exact xLd rfl<|wBd [.int .i64 3, .int .i64 0, .str o8, .sl ([].map aH), .sl ([].map aG)] rfl rfl rfl rfl rfl rfl<|geo
 refine gco 4 rfl<|xC1 h (aO ·) rfl (fun u1 h=> ?_)
 refine xC0 h (dT ·) rfl (fun u4 h=> ?_)
 exact geo; refine gcc 5 rfl<|cIf h rfl (fun q8 h=> ?_) (fun q8 h=> ?_)
 refine gco 6 rfl<|xLn rfl<|goc 2 rfl<|cIf h rfl (fun q9 h=> ?_) (fun q9 h=> ?_)
 refine gco 5 rfl<|xLn rfl<|xC1 h (aO ·) rfl (fun t9 h=> ?_)
 refine xIx h qL rfl (fun o9 h=> ?_)
 exact xLd rfl<|wBd [.int .i64 3, .int .i64 0, .str o9, .sl ([].map aH), .sl ([].map aG)] rfl rfl rfl rfl rfl rfl<|geo
 refine gco 4 rfl<|xC1 h (aO ·) rfl (fun u2 h=> ?_)
 refine xC0 h (dT ·) rfl (fun u5 h=> ?_)
 exact geo; refine gcc 4 rfl<|cIf h rfl (fun r0 h=> ?_) (fun r0 h=> ?_)
 refine gco 4 rfl<|xLn rfl<|goc 2 rfl<|cIf h rfl (fun r1 h=> ?_) (fun r1 h=> ?_)
 refine gco 5 rfl<|xLn rfl<|xC1 h (aO ·) rfl (fun u0 h=> ?_)
 refine xIx h qL rfl (fun p0 h=> ?_)
 exact xLd rfl<|wBd [.int .i64 3, .int .i64 0, .str p0, .sl ([].map aH), .sl ([].map aG)] rfl rfl rfl rfl rfl rfl<|geo
 refine gco 4 rfl<|xC1 h (aO ·) rfl (fun u3 h=> ?_)
 refine xC0 h (dT ·) rfl (fun u6 h=> ?_)
 exact geo; refine gcc 6 rfl<|cIf h rfl (fun r2 h=> ?_) (fun r2 h=> ?_)
 refine gco 5 rfl<|cQ (L:=([([43]:List UInt8),([45]:List UInt8),([42]:List UInt8),([61,61]:List UInt8),([60]:List UInt8),([43]:List UInt8)]:List (List UInt8))) (f:=fO) rfl rfl rfl rfl rfl rfl rfl<|xC1 h (cO ·) rfl (fun o5 h=> ?_)
 refine goo 4 rfl<|xC1 h (b ·) rfl (fun w h=> ?_)
 refine goo 4 rfl<|xC1 h (b ·) rfl (fun z h=> ?_)
 exact cQ (L:=([aB.mk w.1 w.2.1 w.2.2.1 w.2.2.2.1 w.2.2.2.2.1,aB.mk z.1 z.2.1 z.2.2.1 z.2.2.2.1 z.2.2.2.2.1]:List aB)) (f:=aH) rfl rfl rfl rfl (by simp only[List.map,aY]<;>rfl) rfl rfl<|wBd [.int .i64 7, .int .i64 0, .str o5.1, .sl ([aB.mk w.1 w.2.1 w.2.2.1 w.2.2.2.1 w.2.2.2.2.1,aB.mk z.1 z.2.1 z.2.2.1 z.2.2.2.1 z.2.2.2.2.1].map aH), .sl ([].map aG)] rfl rfl rfl rfl rfl rfl<|geo
 refine gcc 4 rfl<|cIf h rfl (fun r3 h=> ?_) (fun r3 h=> ?_)
 refine gco 3 rfl<|cQ (L:=([([43]:List UInt8),([45]:List UInt8),([42]:List UInt8),([61,61]:List UInt8),([60]:List UInt8),([43]:List UInt8)]:List (List UInt8))) (f:=fO) rfl rfl rfl rfl rfl rfl rfl<|xC1 h (cO ·) rfl (fun o6 h=> ?_)
 refine goo 4 rfl<|xC1 h (b ·) rfl (fun y h=> ?_)
 refine goo 4 rfl<|xC1 h (b ·) rfl (fun A h=> ?_)
 exact cQ (L:=([aB.mk y.1 y.2.1 y.2.2.1 y.2.2.2.1 y.2.2.2.2.1,aB.mk A.1 A.2.1 A.2.2.1 A.2.2.2.1 A.2.2.2.2.1]:List aB)) (f:=aH) rfl rfl rfl rfl (by simp only[List.map,aY]<;>rfl) rfl rfl<|wBd [.int .i64 7, .int .i64 0, .str o6.1, .sl ([aB.mk y.1 y.2.1 y.2.2.1 y.2.2.2.1 y.2.2.2.2.1,aB.mk A.1 A.2.1 A.2.2.1 A.2.2.2.1 A.2.2.2.2.1].map aH), .sl ([].map aG)] rfl rfl rfl rfl rfl rfl<|geo
 refine gcc 5 rfl<|cIf h rfl (fun r4 h=> ?_) (fun r4 h=> ?_)
 refine gco 3 rfl<|cQ (L:=([(4:Int),(5:Int)]:List Int)) (f:=aR) rfl rfl rfl rfl rfl rfl rfl<|xC1 h (dU ·) rfl (fun o7 h=> ?_)
 refine wBd [.int .i64 o7.1, .int .i64 0, .str [], .sl ([].map aH), .sl ([].map aG)] rfl rfl rfl rfl rfl rfl<|xAz [.int .i64 0, .int .i64 0, .str [], .sl ([].map aH), .sl ([].map aG)] rfl<|goo 6 rfl<|xC1 h (aO ·) rfl (fun u7 h=> ?_)
 refine goc 2 rfl<|cLp h [(9,9),(80,93)] [(8,8),(1000000,1000000)] (fun(k4,m1,m2,m3,m4,m5,a0,a1,a2)=>([(9,I64 k4)],[(8,[.int .i64 m1, .int .i64 m2, .str m3, .sl (m4.map aH), .sl (m5.map aG)]),(1000000,[.sl (a0.map rI_u8), .int .i64 a1, .int .i64 a2])])) (fun(k5,f3,m6,m7,m8,m9,n0,a3,a4,a5)=>(.e 1,[(9,I64 k5),(81,Bo f3)],[(8,[.int .i64 m6, .int .i64 m7, .str m8, .sl (m9.map aH), .sl (n0.map aG)]),(1000000,[.sl (a3.map rI_u8), .int .i64 a4, .int .i64 a5])])) rfl (fun st _ h=> ?_) (fun q h=> ?_)
 obtain⟨k4,m1,m2,m3,m4,m5,a0,a1,a2⟩:=st; unfold mV at h; refine gcc 6 rfl<|cIf h rfl (fun r5 h=> ?_) (fun r5 h=> ?_)
 refine gco 10 rfl<|xC1 h (b ·) rfl (fun K h=> ?_)
 refine cQ (L:=([aB.mk K.1 K.2.1 K.2.2.1 K.2.2.2.1 K.2.2.2.2.1]:List aB)) (f:=aH) rfl rfl rfl rfl (by simp only[List.map,aY]<;>rfl) rfl rfl<|wAp (f:=aH) h rfl rfl rfl rfl rfl rfl rfl rfl rfl (fun a=>by rw[bB]; rfl) rfl (fun u9 h=> ?_)
 exact geo; exact gec; obtain⟨k5,f3,m6,m7,m8,m9,n0,a3,a4,a5⟩:=q; exact gec; refine gcc 5 rfl<|cIf h rfl (fun r6 h=> ?_) (fun r6 h=> ?_)
 refine gco 6 rfl<|xC1 h (b ·) rfl (fun g h=> ?_)
 refine goo 4 rfl<|xC1 h (b ·) rfl (fun c h=> ?_)
 exact cQ (L:=([aB.mk c.1 c.2.1 c.2.2.1 c.2.2.2.1 c.2.2.2.2.1]:List aB)) (f:=aH) rfl rfl rfl rfl (by simp only[List.map,aY]<;>rfl) rfl rfl<|wBd [.int .i64 5, .int .i64 0, .str [], .sl ([aB.mk c.1 c.2.1 c.2.2.1 c.2.2.2.1 c.2.2.2.2.1].map aH), .sl ([].map aG)] rfl rfl rfl rfl rfl rfl<|cQ (L:=([aB.mk g.1 g.2.1 g.2.2.1 g.2.2.2.1 g.2.2.2.2.1,aB.mk (5:Int) (0:Int) ([]:List UInt8) ([aB.mk c.1 c.2.1 c.2.2.1 c.2.2.2.1 c.2.2.2.2.1]:List aB) ([]:List aC)]:List aB)) (f:=aH) rfl rfl rfl rfl (by simp only[List.map,aY]<;>rfl) rfl rfl<|wBd [.int .i64 6, .int .i64 0, .str [], .sl ([aB.mk g.1 g.2.1 g.2.2.1 g.2.2.2.1 g.2.2.2.2.1,aB.mk (5:Int) (0:Int) ([]:List UInt8) ([aB.mk c.1 c.2.1 c.2.2.1 c.2.2.2.1 c.2.2.2.2.1]:List aB) ([]:List aC)].map aH), .sl ([].map aG)] rfl rfl rfl rfl rfl rfl<|geo
 refine gcc 5 rfl<|cIf h rfl (fun r7 h=> ?_) (fun r7 h=> ?_)
 refine gco 3 rfl<|cQ (L:=([([102]:List UInt8),([103]:List UInt8),([104]:List UInt8)]:List (List UInt8))) (f:=fO) rfl rfl rfl rfl rfl rfl rfl<|xC1 h (cO ·) rfl (fun n1 h=> ?_)
 refine wBd [.int .i64 8, .int .i64 0, .str n1.1, .sl ([].map aH), .sl ([].map aG)] rfl rfl rfl rfl rfl rfl<|xAz [.int .i64 0, .int .i64 0, .str [], .sl ([].map aH), .sl ([].map aG)] rfl<|goc 13 rfl<|cIf h rfl (fun r8 h=> ?_) (fun r8 h=> ?_)
 refine gcc 8 rfl<|cLp h [(12,12),(120,134)] [(10,10),(1000000,1000000)] (fun(e5,f9,g0,g1,g2,g3,a6,a7,a8)=>([(12,I64 e5)],[(10,[.int .i64 f9, .int .i64 g0, .str g1, .sl (g2.map aH), .sl (g3.map aG)]),(1000000,[.sl (a6.map rI_u8), .int .i64 a7, .int .i64 a8])])) (fun(e6,d9,g4,g5,g6,g7,g8,a9,b0,b1)=>(.e 3,[(12,I64 e6),(122,Bo d9)],[(10,[.int .i64 g4, .int .i64 g5, .str g6, .sl (g7.map aH), .sl (g8.map aG)]),(1000000,[.sl (a9.map rI_u8), .int .i64 b0, .int .i64 b1])])) rfl (fun st _ h=> ?_) (fun q h=> ?_)
 obtain⟨e5,f9,g0,g1,g2,g3,a6,a7,a8⟩:=st; unfold mU at h; refine gcc 7 rfl<|cIf h rfl (fun r9 h=> ?_) (fun r9 h=> ?_)
 refine gco 10 rfl<|xC1 h (b ·) rfl (fun H h=> ?_)
 refine cQ (L:=([aB.mk H.1 H.2.1 H.2.2.1 H.2.2.2.1 H.2.2.2.2.1]:List aB)) (f:=aH) rfl rfl rfl rfl (by simp only[List.map,aY]<;>rfl) rfl rfl<|wAp (f:=aH) h rfl rfl rfl rfl rfl rfl rfl rfl rfl (fun a=>by rw[bB]; rfl) rfl (fun s4 h=> ?_)
 exact geo; exact gec; obtain⟨e6,d9,g4,g5,g6,g7,g8,a9,b0,b1⟩:=q; exact gec; refine gcc 6 rfl<|cLp h [(12,12),(120,134)] [(10,10),(1000000,1000000)] (fun(e7,g9,h0,h1,h2,h3,b2,b3,b4)=>([(12,I64 e7)],[(10,[.int .i64 g9, .int .i64 h0, .str h1, .sl (h2.map aH), .sl (h3.map aG)]),(1000000,[.sl (b2.map rI_u8), .int .i64 b3, .int .i64 b4])])) (fun(e8,e0,h4,h5,h6,h7,h8,b5,b6,b7)=>(.e 3,[(12,I64 e8),(122,Bo e0)],[(10,[.int .i64 h4, .int .i64 h5, .str h6, .sl (h7.map aH), .sl (h8.map aG)]),(1000000,[.sl (b5.map rI_u8), .int .i64 b6, .int .i64 b7])])) rfl (fun st _ h=> ?_) (fun q h=> ?_)
 obtain⟨e7,g9,h0,h1,h2,h3,b2,b3,b4⟩:=st; unfold mT at h; refine gcc 7 rfl<|cIf h rfl (fun s0 h=> ?_) (fun s0 h=> ?_)
 refine gco 10 rfl<|xC1 h (b ·) rfl (fun I h=> ?_)
 refine cQ (L:=([aB.mk I.1 I.2.1 I.2.2.1 I.2.2.2.1 I.2.2.2.2.1]:List aB)) (f:=aH) rfl rfl rfl rfl (by simp only[List.map,aY]<;>rfl) rfl rfl<|wAp (f:=aH) h rfl rfl rfl rfl rfl rfl rfl rfl rfl (fun a=>by rw[bB]; rfl) rfl (fun s5 h=> ?_)
 exact geo; exact gec; obtain⟨e8,e0,h4,h5,h6,h7,h8,b5,b6,b7⟩:=q; exact gec; refine gco 7 rfl<|xC1 h (b ·) rfl (fun l h=> ?_)
 refine cQ (L:=([aB.mk l.1 l.2.1 l.2.2.1 l.2.2.2.1 l.2.2.2.2.1]:List aB)) (f:=aH) rfl rfl rfl rfl (by simp only[List.map,aY]<;>rfl) rfl rfl<|wBd [.int .i64 9, .int .i64 0, .str [], .sl ([aB.mk l.1 l.2.1 l.2.2.1 l.2.2.2.1 l.2.2.2.2.1].map aH), .sl ([].map aG)] rfl rfl rfl rfl rfl rfl<|xAz [.int .i64 0, .int .i64 0, .str [], .sl ([].map aH), .sl ([].map aG)] rfl<|goo 6 rfl<|xC1 h (aO ·) rfl (fun p8 h=> ?_)
 refine goc 3 rfl<|cLp h [(14,16),(146,168)] [(13,13),(15,16),(1000000,1000000)] (fun(f1,i9,j0,j1,j2,j3,b8,b9,c0)=>([(14,I64 f1)],[(13,[.int .i64 i9, .int .i64 j0, .str j1, .sl (j2.map aH), .sl (j3.map aG)]),(1000000,[.sl (b8.map rI_u8), .int .i64 b9, .int .i64 c0])])) (fun(f2,e2,j4,j5,j6,j7,j8,c1,c2,c3)=>(.e 5,[(14,I64 f2),(147,Bo e2)],[(13,[.int .i64 j4, .int .i64 j5, .str j6, .sl (j7.map aH), .sl (j8.map aG)]),(1000000,[.sl (c1.map rI_u8), .int .i64 c2, .int .i64 c3])])) rfl (fun st _ h=> ?_) (fun q h=> ?_)
 obtain⟨f1,i9,j0,j1,j2,j3,b8,b9,c0⟩:=st; unfold mS at h; refine gcc 6 rfl<|cIf h rfl (fun s1 h=> ?_) (fun s1 h=> ?_)
 refine gco 5 rfl<|cQ (L:=([]:List (List UInt8))) (f:=fO) rfl rfl rfl rfl rfl rfl rfl<|xAz [.sl ([].map fO)] rfl<|goo 5 rfl<|xCk h (yR ·) rfl (fun o h=> ?_)
 refine xAz [.int .i64 0, .int .i64 0, .str [], .sl ([].map aH), .sl ([].map aG)] rfl<|goo 9 rfl<|cQ (L:=([]:List (List UInt8))) (f:=fO) rfl rfl rfl rfl rfl rfl rfl<|xMv rfl<|wAp (f:=fO) h rfl rfl rfl rfl rfl rfl rfl rfl rfl (fun _=>rfl) rfl (fun s7 h=> ?_)
 refine xLd rfl<|wAp (f:=fO) h rfl rfl rfl rfl rfl rfl rfl rfl rfl (fun _=>rfl) rfl (fun s9 h=> ?_)
 refine xC1 h (b ·) rfl (fun s h=> ?_)
 refine wBd [.int .i64 o.1, .int .i64 o.2.1, .str o.2.2.1, .sl (o.2.2.2.1.map aH), .sl (o.2.2.2.2.1.map aG), .int .i64 s.1, .int .i64 s.2.1, .str s.2.2.1, .sl (s.2.2.2.1.map aH), .sl (s.2.2.2.2.1.map aG)] rfl rfl rfl rfl rfl rfl<|cQ (L:=([aC.mk o.1 o.2.1 o.2.2.1 o.2.2.2.1 o.2.2.2.2.1 s.1 s.2.1 s.2.2.1 s.2.2.2.1 s.2.2.2.2.1]:List aC)) (f:=aG) rfl rfl rfl rfl (by simp only[List.map,lN]<;>rfl) rfl rfl<|wAp (f:=aG) h rfl rfl rfl rfl rfl rfl rfl rfl rfl (fun a=>by rw[cP]; rfl) rfl (fun t1 h=> ?_)
 exact geo; exact gec; obtain⟨f2,e2,j4,j5,j6,j7,j8,c1,c2,c3⟩:=q; refine gco 4 rfl<|xC1 h (rW ·) rfl (fun q0 h=> ?_)
 refine oNl<|cIf h rfl (fun s2 h=> ?_) (fun s2 h=> ?_)
 refine gco 3 rfl<|wBd [.int .i64 3, .int .i64 0, .str [95], .sl ([].map aH), .sl ([].map aG)] rfl rfl rfl rfl rfl rfl<|goo 4 rfl<|xC1 h (b ·) rfl (fun u h=> ?_)
 refine wBd [.int .i64 3, .int .i64 0, .str [95], .sl ([].map aH), .sl ([].map aG), .int .i64 u.1, .int .i64 u.2.1, .str u.2.2.1, .sl (u.2.2.2.1.map aH), .sl (u.2.2.2.2.1.map aG)] rfl rfl rfl rfl rfl rfl<|cQ (L:=([aC.mk (3:Int) (0:Int) ([95]:List UInt8) ([]:List aB) ([]:List aC) u.1 u.2.1 u.2.2.1 u.2.2.2.1 u.2.2.2.2.1]:List aC)) (f:=aG) rfl rfl rfl rfl (by simp only[List.map,lN]<;>rfl) rfl rfl<|wAp (f:=aG) h rfl rfl rfl rfl rfl rfl rfl rfl rfl (fun a=>by rw[cP]; rfl) rfl (fun t3 h=> ?_)
 exact geo; exact gec
def Ah:Nat→(dB)
  | 0=>(fun _ _ _ _ _=>none)
  | n+1=>nP n (Ah n)
def bT(n:Nat):dB:=Ah n
theorem DH(n:Nat):qY (bT n):=by
  induction n with
  | zero=>exact(fun h=>nomatch h)
  | succ n ih=>exact Cz (n:=n) ih
theorem FI{n:Nat}:qY (bT n):=(DH n)
theorem BA(n:Nat):bT (n+1)=nP n (bT n):=rfl
abbrev Lq(p:Int→Int→Int→Option (Bool)):Prop:= ∀ {a b d:Int} {r:Bool},p a b d=some r→Big Tryz.prog τ An (.fn 99 [.one (.c (.int .i64 a)), .one (.c (.int .i64 b)), .one (.c (.int .i64 d))] [] (.one (.c (.bool r))) none [] none)
def aW(n:Nat)(a:Int)(b:Int)(c:Int):Option (Bool):=
  (bif decide (b≤a)then some (decide (a≤c))else some false).bind fun d=>some d
theorem aZ{n:Nat}:Lq (aW n):=by
 intro c d f r h; unfold aW at h; refine bF Tryz.func99 rfl rfl<|gco 6 rfl<|oJn h [(6,14)] [] (fun a=>(.n,[(6,Bo a)],[])) (fun _ h=> ?_) (fun a h=> ?_)
 refine goo 4 rfl<|oIf 10 h rfl (fun b h=> ?_) (fun b h=> ?_)
 exact geo; exact geo; exact gec
abbrev IQ(p:(List UInt8)→Option (Bool)):Prop:= ∀ {a:List UInt8} {r:Bool},p a=some r→Big Tryz.prog τ An (.fn 100 [.one (.c (.str a))] [] (.one (.c (.bool r))) none [] none)
def mX(n:Nat)(d:List UInt8):(Int)→Option ((Int)⊕((Bool)⊕(Int×Bool)))
  | a=>bif decide (a<(d.length:Int))then(ixs d a).bind fun b=>(aW n (IntKind.wrap .i64 b) (97:Int) (122:Int)).bind fun f=>(bif !f then bif decide (a=(0:Int))then some true else(aW n (IntKind.wrap .i64 b) (48:Int) (57:Int)).bind fun c=>bif !c then some (!decide ((IntKind.wrap .i64 b)=(95:Int)))else some false else some false).bind fun g=>bif g then some (.inr (.inl false))else some (.inl (IntKind.wrap .i64 (a+(1:Int))))else some (.inr (.inr (a,false)))
def nY(n:Nat)(b:List UInt8):Option (Bool):=
  (loopN (mX n b) n (0:Int)).bind fun q=>(match q with | .inl c=>some c | .inr (d,f)=>(aW n (b.length:Int) (1:Int) (20:Int)).bind fun a=>some a)
theorem FL{n:Nat}:IQ (nY n):=by
 intro v r h; unfold nY at h; refine bF Tryz.func100 rfl rfl<|gcc 9 rfl<|cLp h [(2,32)] [] (fun c=>([(3,I64 c)],[])) (fun q=>match q with | .inl b=>(.r,[(2,Bo b)],[]) | .inr (d,f)=>(.e 0,[(3,I64 d),(9,Bo f)],[])) rfl (fun c _ h=> ?_) (fun q h=> ?_)
 unfold mX at h; refine gco 5 rfl<|xLs rfl<|goc 2 rfl<|cIf h rfl (fun t h=> ?_) (fun t h=> ?_)
 refine gco 7 rfl<|Ny h rfl rfl rfl rfl rfl (fun s h=> ?_)
 refine goo 6 rfl<|xC0 h (aZ ·) rfl (fun p h=> ?_)
 refine goo 4 rfl<|oJn h [(18,32)] [] (fun a=>(.n,[(32,Bo a)],[])) (fun _ h=> ?_) (fun a h=> ?_)
 refine goo 3 rfl<|oIf 20 h rfl (fun u h=> ?_) (fun u h=> ?_)
 refine goo 3 rfl<|oIf 23 h rfl (fun l h=> ?_) (fun l h=> ?_)
 exact geo; refine xMv rfl<|xC0 h (aZ ·) rfl (fun g h=> ?_)
 refine goo 2 rfl<|oIf 27 h rfl (fun m h=> ?_) (fun m h=> ?_)
 exact geo; exact geo; exact geo; refine cIf h rfl (fun o h=> ?_) (fun o h=> ?_)
 exact gec; exact gec; exact gec; rcases q with b | ⟨d,f⟩; exact en; refine gco 3 rfl<|xLs rfl<|xC0 h (aZ ·) rfl (fun j h=> ?_)
 exact geo
abbrev By(p:(List UInt8)→Option (Bool)):Prop:= ∀ {a:List UInt8} {r:Bool},p a=some r→Big Tryz.prog τ An (.fn 144 [.one (.c (.str a))] [] (.one (.c (.bool r))) none [] none)
def lO(n:Nat)(a:List UInt8):Option (Bool):=
  (bif decide (a=([99,97,115,101]:List UInt8))then some true else bif decide (a=([111,102]:List UInt8))then some true else some (decide (a=([101,110,100]:List UInt8)))).bind fun b=>some b
theorem zX{n:Nat}:By (lO n):=by
 intro d r h; unfold lO at h; refine bF Tryz.func144 rfl rfl<|gco 6 rfl<|oJn h [(2,12)] [] (fun a=>(.n,[(2,Bo a)],[])) (fun _ h=> ?_) (fun a h=> ?_)
 refine goo 3 rfl<|oIf 5 h rfl (fun b h=> ?_) (fun b h=> ?_)
 exact geo; refine goo 4 rfl<|oIf 9 h rfl (fun c h=> ?_) (fun c h=> ?_)
 exact geo; exact geo; exact gec
abbrev IJ(p:(List UInt8)→Option (Bool)):Prop:= ∀ {a:List UInt8} {r:Bool},p a=some r→Big Tryz.prog τ An (.fn 108 [.one (.c (.str a))] [] (.one (.c (.bool r))) none [] none)
def eZ(n:Nat)(a:List UInt8):Option (Bool):=
  ((nY n a).bind fun b=>bif b then(lO n a).bind fun c=>some (!c)else some false).bind fun d=>some d
theorem lC{n:Nat}:IJ (eZ n):=by
 intro f r h; unfold eZ at h; refine bF Tryz.func108 rfl rfl<|gco 6 rfl<|oJn h [(2,9)] [] (fun a=>(.n,[(2,Bo a)],[])) (fun _ h=> ?_) (fun a h=> ?_)
 refine xMv rfl<|xC0 h (FL ·) rfl (fun b h=> ?_)
 refine xMv rfl<|oIf 5 h rfl (fun d h=> ?_) (fun d h=> ?_)
 refine xMv rfl<|xC0 h (zX ·) rfl (fun c h=> ?_)
 exact geo; exact geo; exact gec
abbrev Lo(p:(List UInt8)→Option (Bool)):Prop:= ∀ {a:List UInt8} {r:Bool},p a=some r→Big Tryz.prog τ An (.fn 145 [.one (.c (.str a))] [] (.one (.c (.bool r))) none [] none)
def oW(n:Nat)(a:List UInt8):Option (Bool):=
  (bif decide (a=([43]:List UInt8))then some true else bif decide (a=([45]:List UInt8))then some true else bif decide (a=([42]:List UInt8))then some true else bif decide (a=([61,61]:List UInt8))then some true else some (decide (a=([60]:List UInt8)))).bind fun b=>some b
theorem Al{n:Nat}:Lo (oW n):=by
 intro g r h; unfold oW at h; refine bF Tryz.func145 rfl rfl<|gco 6 rfl<|oJn h [(2,20)] [] (fun a=>(.n,[(2,Bo a)],[])) (fun _ h=> ?_) (fun a h=> ?_)
 refine goo 3 rfl<|oIf 5 h rfl (fun b h=> ?_) (fun b h=> ?_)
 exact geo; refine goo 4 rfl<|oIf 9 h rfl (fun c h=> ?_) (fun c h=> ?_)
 exact geo; refine goo 4 rfl<|oIf 13 h rfl (fun d h=> ?_) (fun d h=> ?_)
 exact geo; refine goo 4 rfl<|oIf 17 h rfl (fun f h=> ?_) (fun f h=> ?_)
 exact geo; exact geo; exact gec
abbrev GG(p:Int→Option (Bool)):Prop:= ∀ {a:Int} {r:Bool},p a=some r→Big Tryz.prog τ An (.fn 203 [.one (.c (.int .u8 a))] [] (.one (.c (.bool r))) none [] none)
def mH(n:Nat)(b:Int):Option (Bool):=
  (aW n (IntKind.wrap .i64 b) (48:Int) (57:Int)).bind fun a=>some a
theorem DU{n:Nat}:GG (mH n):=by
 intro b r h; unfold mH at h; refine bF Tryz.func203 rfl rfl<|gco 8 rfl<|xC0 h (aZ ·) rfl (fun a h=> ?_)
 exact geo
abbrev GE(p:Int→Option (Bool)):Prop:= ∀ {a:Int} {r:Bool},p a=some r→Big Tryz.prog τ An (.fn 206 [.one (.c (.int .u8 a))] [] (.one (.c (.bool r))) none [] none)
def mF(n:Nat)(b:Int):Option (Bool):=
  (aW n (IntKind.wrap .i64 b) (97:Int) (122:Int)).bind fun a=>some a
theorem DS{n:Nat}:GE (mF n):=by
 intro b r h; unfold mF at h; refine bF Tryz.func206 rfl rfl<|gco 8 rfl<|xC0 h (aZ ·) rfl (fun a h=> ?_)
 exact geo
abbrev GF(p:Int→Option (Bool)):Prop:= ∀ {a:Int} {r:Bool},p a=some r→Big Tryz.prog τ An (.fn 207 [.one (.c (.int .u8 a))] [] (.one (.c (.bool r))) none [] none)
def mG(n:Nat)(a:Int):Option (Bool):=
  ((aW n (IntKind.wrap .i64 a) (65:Int) (90:Int)).bind fun b=>bif b then some true else some (decide (a=(95:Int)))).bind fun c=>some c
theorem DT{n:Nat}:GF (mG n):=by
 intro d r h; unfold mG at h; refine bF Tryz.func207 rfl rfl<|gco 6 rfl<|oJn h [(2,9)] [] (fun a=>(.n,[(2,Bo a)],[])) (fun _ h=> ?_) (fun a h=> ?_)
 refine goo 2 rfl<|xC0 h (aZ ·) rfl (fun b h=> ?_)
 refine xMv rfl<|oIf 6 h rfl (fun c h=> ?_) (fun c h=> ?_)
 exact geo; exact geo; exact gec
abbrev GD(p:(List UInt8)→Option (Bool)):Prop:= ∀ {a:List UInt8} {r:Bool},p a=some r→Big Tryz.prog τ An (.fn 198 [.one (.c (.str a))] [] (.one (.c (.bool r))) none [] none)
def lP(n:Nat)(b:List UInt8):(Int)→Option ((Int)⊕((Bool)⊕(Int×Bool)))
  | a=>bif decide (a<(b.length:Int))then((ixs b a).bind fun l=>(mG n l).bind fun j=>bif !j then bif decide (a=(0:Int))then some true else(ixs b a).bind fun f=>(mF n f).bind fun c=>bif !c then(ixs b a).bind fun g=>(mH n g).bind fun d=>some (!d)else some false else some false).bind fun m=>bif m then some (.inr (.inl false))else some (.inl (IntKind.wrap .i64 (a+(1:Int))))else some (.inr (.inr (a,false)))
def mE(n:Nat)(b:List UInt8):Option (Bool):=
  (loopN (lP n b) n (0:Int)).bind fun q=>(match q with | .inl c=>some c | .inr (d,f)=>(aW n (b.length:Int) (1:Int) (20:Int)).bind fun a=>some a)
theorem DQ{n:Nat}:GD (mE n):=by
 intro z r h; unfold mE at h; refine bF Tryz.func198 rfl rfl<|gcc 9 rfl<|cLp h [(2,32)] [] (fun c=>([(3,I64 c)],[])) (fun q=>match q with | .inl b=>(.r,[(2,Bo b)],[]) | .inr (d,f)=>(.e 0,[(3,I64 d),(7,Bo f)],[])) rfl (fun c _ h=> ?_) (fun q h=> ?_)
 unfold lP at h; refine gco 5 rfl<|xLs rfl<|goc 2 rfl<|cIf h rfl (fun w h=> ?_) (fun w h=> ?_)
 refine gco 5 rfl<|oJn h [(10,32)] [] (fun a=>(.n,[(32,Bo a)],[])) (fun _ h=> ?_) (fun a h=> ?_)
 refine goo 2 rfl<|Ny h rfl rfl rfl rfl rfl (fun v h=> ?_)
 refine xC0 h (DT ·) rfl (fun u h=> ?_)
 refine goo 2 rfl<|oIf 15 h rfl (fun y h=> ?_) (fun y h=> ?_)
 refine goo 3 rfl<|oIf 18 h rfl (fun p h=> ?_) (fun p h=> ?_)
 exact geo; refine goo 2 rfl<|Ny h rfl rfl rfl rfl rfl (fun m h=> ?_)
 refine xC0 h (DS ·) rfl (fun g h=> ?_)
 refine goo 2 rfl<|oIf 24 h rfl (fun s h=> ?_) (fun s h=> ?_)
 refine goo 2 rfl<|Ny h rfl rfl rfl rfl rfl (fun o h=> ?_)
 refine xC0 h (DU ·) rfl (fun j h=> ?_)
 exact geo; exact geo; exact geo; refine cIf h rfl (fun t h=> ?_) (fun t h=> ?_)
 exact gec; exact gec; exact gec; rcases q with b | ⟨d,f⟩; exact en; refine gco 3 rfl<|xLs rfl<|xC0 h (aZ ·) rfl (fun l h=> ?_)
 exact geo
abbrev GB(p:Int→Int→(List UInt8)→(List aB)→(List aC)→Bool→Option (Bool)):Prop:= ∀ {a b:Int} {d:List UInt8} {f:List aB} {g:List aC} {j:Bool} {r:Bool},p a b d f g j=some r→Big Tryz.prog τ An (.fn 178 [.one (.ag [.int .i64 a, .int .i64 b, .str d, .sl (f.map aH), .sl (g.map aG)]), .one (.c (.bool j))] [] (.one (.c (.bool r))) none [] none)
def mD(n:Nat)(a:Int)(f:Int)(b:List UInt8)(c:List aB)(s:List aC)(d:Bool):Option (Bool):=
  (bif !decide (a=(9:Int))then bif decide ((0:Int)<(s.length:Int))then some true else bif !decide (a=(1:Int))then some (!decide (f=(0:Int)))else some false else bif !decide (a=(1:Int))then some (!decide (f=(0:Int)))else some false).bind fun u=>bif u then some false else bif decide (a=(1:Int))then((aW n f (0:Int) (1000000000000:Int)).bind fun t=>bif t then bif decide (b=([]:List UInt8))then some (decide ((c.length:Int)=(0:Int)))else some false else some false).bind fun E=>some E else bif decide (a=(2:Int))then((eZ n b).bind fun l=>bif l then some (decide ((c.length:Int)=(0:Int)))else some false).bind fun v=>some v else bif decide (a=(3:Int))then((mE n b).bind fun m=>bif m then bif decide ((c.length:Int)=(0:Int))then bif d then some true else some (!decide (b=([95]:List UInt8)))else some false else some false).bind fun w=>some w else bif decide (a=(4:Int))then(bif decide (b=([]:List UInt8))then some (decide ((c.length:Int)≤(20:Int)))else some false).bind fun y=>some y else bif decide (a=(5:Int))then(bif decide (b=([]:List UInt8))then some (decide ((c.length:Int)≤(20:Int)))else some false).bind fun z=>some z else bif decide (a=(6:Int))then(bif decide (b=([]:List UInt8))then(aW n (c.length:Int) (2:Int) (6:Int)).bind fun o=>some o else some false).bind fun A=>some A else bif decide (a=(7:Int))then(bif !d then(oW n b).bind fun p=>bif p then some (decide ((c.length:Int)=(2:Int)))else some false else some false).bind fun B=>some B else bif decide (a=(8:Int))then(bif !d then(eZ n b).bind fun g=>bif g then some (decide ((c.length:Int)≤(4:Int)))else some false else some false).bind fun C=>some C else bif decide (a=(9:Int))then(bif !d then bif decide (b=([]:List UInt8))then bif decide ((c.length:Int)=(1:Int))then(aW n (s.length:Int) (1:Int) (6:Int)).bind fun j=>some j else some false else some false else some false).bind fun D=>some D else some false
theorem DN{n:Nat}:GB (mD n):=by
 intro a7 a8 a9 b0 b1 b2 r h; unfold mD at h; refine bF Tryz.func178 rfl rfl<|gco 9 rfl<|xLn rfl<|goo 5 rfl<|oJn h [(9,27)] [] (fun a=>(.n,[(27,Bo a)],[])) (fun _ h=> ?_) (fun a h=> ?_)
 refine goo 4 rfl<|oIf 12 h rfl (fun q2 h=> ?_) (fun q2 h=> ?_)
 refine goo 2 rfl<|xLn rfl<|goo 3 rfl<|oIf 18 h rfl (fun q3 h=> ?_) (fun q3 h=> ?_)
 exact geo; refine goo 4 rfl<|oIf 22 h rfl (fun q4 h=> ?_) (fun q4 h=> ?_)
 exact geo; exact geo; refine goo 10 rfl<|oIf 22 h rfl (fun q5 h=> ?_) (fun q5 h=> ?_)
 exact geo; exact geo; refine cIf h rfl (fun q6 h=> ?_) (fun q6 h=> ?_)
 exact gec; refine gcc 13 rfl<|cIf h rfl (fun q7 h=> ?_) (fun q7 h=> ?_)
 refine cRs<|oJn h [(4,4),(32,43)] [] (fun o=>(.n,[(4,Bo o)],[])) (fun _ h=> ?_) (fun o h=> ?_)
 refine goo 2 rfl<|xC0 h (aZ ·) rfl (fun a0 h=> ?_)
 refine xMv rfl<|oIf 35 h rfl (fun y h=> ?_) (fun y h=> ?_)
 refine goo 5 rfl<|oIf 40 h rfl (fun z h=> ?_) (fun z h=> ?_)
 exact geo; exact geo; exact geo; exact gec; refine gcc 5 rfl<|cIf h rfl (fun A h=> ?_) (fun A h=> ?_)
 refine cRs<|oJn h [(4,4),(46,52)] [] (fun b=>(.n,[(4,Bo b)],[])) (fun _ h=> ?_) (fun b h=> ?_)
 refine goo 2 rfl<|xC0 h (lC ·) rfl (fun t h=> ?_)
 refine xMv rfl<|oIf 49 h rfl (fun B h=> ?_) (fun B h=> ?_)
 exact geo; exact geo; exact gec; refine gcc 5 rfl<|cIf h rfl (fun C h=> ?_) (fun C h=> ?_)
 refine cRs<|oJn h [(4,4),(55,69)] [] (fun c=>(.n,[(4,Bo c)],[])) (fun _ h=> ?_) (fun c h=> ?_)
 refine goo 2 rfl<|xC0 h (DQ ·) rfl (fun u h=> ?_)
 refine xMv rfl<|oIf 58 h rfl (fun D h=> ?_) (fun D h=> ?_)
 refine goo 4 rfl<|oIf 62 h rfl (fun E h=> ?_) (fun E h=> ?_)
 refine goo 2 rfl<|oIf 64 h rfl (fun G h=> ?_) (fun G h=> ?_)
 exact geo; exact geo; exact geo; exact geo; exact gec; refine gcc 6 rfl<|cIf h rfl (fun H h=> ?_) (fun H h=> ?_)
 refine gco 4 rfl<|oJn h [(4,4),(73,79)] [] (fun d=>(.n,[(4,Bo d)],[])) (fun _ h=> ?_) (fun d h=> ?_)
 refine goo 4 rfl<|oIf 76 h rfl (fun I h=> ?_) (fun I h=> ?_)
 exact geo; exact geo; exact gec; refine gcc 4 rfl<|cIf h rfl (fun J h=> ?_) (fun J h=> ?_)
 refine cRs<|oJn h [(4,4),(73,79)] [] (fun f=>(.n,[(4,Bo f)],[])) (fun _ h=> ?_) (fun f h=> ?_)
 refine goo 4 rfl<|oIf 76 h rfl (fun K h=> ?_) (fun K h=> ?_)
 exact geo; exact geo; exact gec; refine gcc 5 rfl<|cIf h rfl (fun L h=> ?_) (fun L h=> ?_)
 refine cRs<|oJn h [(4,4),(82,88)] [] (fun g=>(.n,[(4,Bo g)],[])) (fun _ h=> ?_) (fun g h=> ?_)
 refine goo 4 rfl<|oIf 85 h rfl (fun M h=> ?_) (fun M h=> ?_)
 refine xMv rfl<|xC0 h (aZ ·) rfl (fun v h=> ?_)
 exact geo; exact geo; exact gec; refine gcc 5 rfl<|cIf h rfl (fun N h=> ?_) (fun N h=> ?_)
 refine cRs<|oJn h [(4,4),(91,101)] [] (fun j=>(.n,[(4,Bo j)],[])) (fun _ h=> ?_) (fun j h=> ?_)
 refine goo 3 rfl<|oIf 93 h rfl (fun Q h=> ?_) (fun Q h=> ?_)
 refine goo 2 rfl<|xC0 h (Al ·) rfl (fun w h=> ?_)
 refine goo 2 rfl<|oIf 98 h rfl (fun R h=> ?_) (fun R h=> ?_)
 exact geo; exact geo; exact geo; exact gec; refine gcc 5 rfl<|cIf h rfl (fun T h=> ?_) (fun T h=> ?_)
 refine cRs<|oJn h [(4,4),(104,114)] [] (fun l=>(.n,[(4,Bo l)],[])) (fun _ h=> ?_) (fun l h=> ?_)
 refine goo 3 rfl<|oIf 106 h rfl (fun U h=> ?_) (fun U h=> ?_)
 refine goo 2 rfl<|xC0 h (lC ·) rfl (fun p h=> ?_)
 refine goo 2 rfl<|oIf 111 h rfl (fun V h=> ?_) (fun V h=> ?_)
 exact geo; exact geo; exact geo; exact gec; refine gcc 5 rfl<|cIf h rfl (fun W h=> ?_) (fun W h=> ?_)
 refine cRs<|oJn h [(4,4),(117,133)] [] (fun m=>(.n,[(4,Bo m)],[])) (fun _ h=> ?_) (fun m h=> ?_)
 refine goo 3 rfl<|oIf 119 h rfl (fun X h=> ?_) (fun X h=> ?_)
 refine goo 5 rfl<|oIf 124 h rfl (fun Y h=> ?_) (fun Y h=> ?_)
 refine goo 4 rfl<|oIf 128 h rfl (fun Z h=> ?_) (fun Z h=> ?_)
 refine goo 2 rfl<|xLn rfl<|xC0 h (aZ ·) rfl (fun s h=> ?_)
 exact geo; exact geo; exact geo; exact geo; exact gec; exact gec
abbrev II(p:(List (List UInt8))→Option (Bool)):Prop:= ∀ {a:List (List UInt8)} {r:Bool},p a=some r→Big Tryz.prog τ An (.fn 179 [.one (.c (.sl (a.map fO)))] [] (.one (.c (.bool r))) none [] none)
def mR(n:Nat)(b:List (List UInt8)):(Int)→Option ((Int)⊕((Bool)⊕(Int×Bool)))
  | a=>bif decide (a<(b.length:Int))then(sub b none (some a)).bind fun f=>(ix b a).bind fun d=>(gY n f d).bind fun c=>bif c then some (.inr (.inl false))else some (.inl (IntKind.wrap .i64 (a+(1:Int))))else some (.inr (.inr (a,false)))
def nX(n:Nat)(a:List (List UInt8)):Option (Bool):=
  (loopN (mR n a) n (0:Int)).bind fun q=>(match q with | .inl b=>some b | .inr (c,d)=>some true)
theorem FG{n:Nat}:II (nX n):=by
 intro o r h; unfold nX at h; refine bF Tryz.func179 rfl rfl<|gcc 9 rfl<|cLp h [(2,17)] [] (fun b=>([(3,I64 b)],[])) (fun q=>match q with | .inl a=>(.r,[(2,Bo a)],[]) | .inr (c,d)=>(.e 0,[(3,I64 c),(7,Bo d)],[])) rfl (fun b _ h=> ?_) (fun q h=> ?_)
 unfold mR at h; refine gco 5 rfl<|xLn rfl<|goc 2 rfl<|cIf h rfl (fun l h=> ?_) (fun l h=> ?_)
 refine gco 7 rfl<|wSl (rf:=fO) h rfl rfl rfl rfl .no (.so rfl) (fun _=>rfl) rfl (fun j h=> ?_)
 refine goo 2 rfl<|xIx h qL rfl (fun g h=> ?_)
 refine xLd rfl<|xC0 h (pK ·) rfl (fun f h=> ?_)
 refine oNl<|cIf h rfl (fun m h=> ?_) (fun m h=> ?_)
 exact gec; exact gec; exact gec; rcases q with a | ⟨c,d⟩; exact en; exact gec
abbrev lK:Type:=Int→Int→(List UInt8)→(List aB)→(List aC)→Option ((List (List UInt8)))
abbrev qZ(p:lK):Prop:= ∀ {a b:Int} {d:List UInt8} {f:List aB} {g:List aC} {r:(List (List UInt8))},p a b d f g=some r→Big Tryz.prog τ An (.fn 180 [.one (.ag [.int .i64 a, .int .i64 b, .str d, .sl (f.map aH), .sl (g.map aG)])] [] (.one (.c (.sl (r.map fO)))) none [] none)
def kB(n:Nat)(b:lK)(f:List aB):((List (List UInt8))×Int)→Option (((List (List UInt8))×Int)⊕(((List (List UInt8))×Int×Bool)))
  | (j,c)=>bif decide (c<(f.length:Int))then(ix f c).bind fun a=>(b a.f0 a.f1 a.f2 a.f3 a.f4).bind fun d=>(dF 16 j d).bind fun g=>some (.inl (g,(IntKind.wrap .i64 (c+(1:Int)))))else some (.inr (j,c,false))
def nQ(n:Nat)(a:lK)(d:Int)(l:Int)(b:List UInt8)(f:List aB)(m:List aC):Option ((List (List UInt8))):=
  bif decide (d=(3:Int))then bif !decide (b=([95]:List UInt8))then(dF 16 ([]:List (List UInt8)) ([b]:List (List UInt8))).bind fun c=>some c else some ([]:List (List UInt8))else(loopN (kB n a f) n (([]:List (List UInt8)),(0:Int))).bind fun(g,o,j)=>some g
theorem DB{n:Nat}{a:lK}(b:qZ a):qZ (nQ n a):=by
 intro y z m A B r h; unfold nQ at h; refine bF Tryz.func180 rfl rfl<|gco 3 rfl<|wAe (Li fO []) rfl rfl rfl rfl<|oRs<|cQ (L:=([]:List (List UInt8))) (f:=fO) rfl rfl rfl rfl rfl rfl rfl<|goc 9 rfl<|cIf h rfl (fun u h=> ?_) (fun u h=> ?_)
 refine gcc 7 rfl<|cIf h rfl (fun v h=> ?_) (fun v h=> ?_)
 refine gco 4 rfl<|cQ (L:=([m]:List (List UInt8))) (f:=fO) rfl rfl rfl rfl rfl rfl rfl<|wAp (f:=fO) h rfl rfl rfl rfl rfl rfl rfl rfl rfl (fun _=>rfl) rfl (fun t h=> ?_)
 exact geo; exact gec; refine gcc 6 rfl<|cLp h [(3,4),(18,32)] [] (fun(d,j)=>([(3,Li fO d),(4,I64 j)],[])) (fun(g,l,c)=>(.e 0,[(3,Li fO g),(4,I64 l),(22,Bo c)],[])) rfl (fun st _ h=> ?_) (fun q h=> ?_)
 obtain⟨d,j⟩:=st; unfold kB at h; refine gco 6 rfl<|xLn rfl<|goc 2 rfl<|cIf h rfl (fun w h=> ?_) (fun w h=> ?_)
 refine gco 8 rfl<|xIx h bB rfl (fun p h=> ?_)
 refine xLd rfl<|xC0 h (b ·) rfl (fun o h=> ?_)
 refine wAp (f:=fO) h rfl rfl rfl rfl rfl rfl rfl rfl rfl (fun _=>rfl) rfl (fun s h=> ?_)
 exact geo; exact gec; obtain⟨g,l,c⟩:=q; exact gec
def Ai:Nat→(lK)
  | 0=>(fun _ _ _ _ _=>none)
  | n+1=>nQ n (Ai n)
def iD(n:Nat):lK:=Ai n
theorem DI(n:Nat):qZ (iD n):=by
  induction n with
  | zero=>exact(fun h=>nomatch h)
  | succ n ih=>exact DB (n:=n) ih
theorem FJ{n:Nat}:qZ (iD n):=(DI n)
theorem BB(n:Nat):iD (n+1)=nQ n (iD n):=rfl
abbrev jM:Type:=Int→Int→(List UInt8)→(List aB)→(List aC)→Bool→Int→Int→Option (Int)
abbrev qX(p:jM):Prop:= ∀ {a b:Int} {d:List UInt8} {f:List aB} {g:List aC} {j:Bool} {l m:Int} {r:Int},p a b d f g j l m=some r→Big Tryz.prog τ An (.fn 155 [.one (.ag [.int .i64 a, .int .i64 b, .str d, .sl (f.map aH), .sl (g.map aG)]), .one (.c (.bool j)), .one (.c (.int .i64 l)), .one (.c (.int .i64 m))] [] (.one (.c (.int .i64 r))) none [] none)
def fU(n:Nat)(b:jM)(l:Bool)(m:Int)(g:List aB):(Int×Int)→Option ((Int×Int)⊕((Int×Int×Bool)))
  | (d,c)=>(bif decide (c<(g.length:Int))then some (decide ((0:Int)≤d))else some false).bind fun j=>bif j then(ix g c).bind fun a=>(b a.f0 a.f1 a.f2 a.f3 a.f4 l (IntKind.wrap .i64 (m - (1:Int))) d).bind fun f=>some (.inl (f,(IntKind.wrap .i64 (c+(1:Int)))))else some (.inr (d,c,false))
def fT(n:Nat)(b:jM)(s:Int)(j:List aC):(Int×Int)→Option ((Int×Int)⊕((Int)⊕(Int×Int×Bool)))
  | (l,a)=>(bif decide (a<(j.length:Int))then some (decide ((0:Int)≤l))else some false).bind fun t=>bif t then(((ix j a).bind fun c=>(iD n c.f0 c.f1 c.f2 c.f3 c.f4).bind fun m=>(nX n m).bind fun o=>bif !o then some (.inl ((-1):Int))else(ix j a).bind fun d=>(b d.f0 d.f1 d.f2 d.f3 d.f4 true (IntKind.wrap .i64 (s - (1:Int))) l).bind fun g=>bif decide ((0:Int)≤g)then(ix j a).bind fun f=>(b f.f5 f.f6 f.f7 f.f8 f.f9 false (IntKind.wrap .i64 (s - (1:Int))) g).bind fun p=>some (.inr p)else some (.inr g):Option ((Int)⊕(Int)))).bind fun q=>(match q with | .inl v=>some (.inr (.inl v)) | .inr u=>some (.inl (u,(IntKind.wrap .i64 (a+(1:Int))))))else some (.inr (.inr (l,a,false)))
def nO(n:Nat)(a:jM)(p:Int)(s:Int)(t:List UInt8)(c:List aB)(d:List aC)(f:Bool)(b:Int)(g:Int):Option (Int):=
  (bif decide (b<(1:Int))then some true else bif decide (g<(1:Int))then some true else(mD n p s t c d f).bind fun j=>some (!j)).bind fun l=>bif l then some ((-1):Int)else(loopN (fU n a f b c) n ((IntKind.wrap .i64 (g - (1:Int))),(0:Int))).bind fun(u,z,w)=>(loopN (fT n a b d) n (u,(0:Int))).bind fun q=>(match q with | .inl o=>some o | .inr (m,v,y)=>some m)
theorem Cy{n:Nat}{b:jM}(a:qX b):qX (nO n b):=by
 intro X Y Z a0 a1 a2 a3 a4 r h; unfold nO at h; refine bF Tryz.func155 rfl rfl<|gco 8 rfl<|oJn h [(11,22)] [] (fun m=>(.n,[(22,Bo m)],[])) (fun _ h=> ?_) (fun m h=> ?_)
 refine goo 3 rfl<|oIf 13 h rfl (fun U h=> ?_) (fun U h=> ?_)
 exact geo; refine goo 4 rfl<|oIf 17 h rfl (fun V h=> ?_) (fun V h=> ?_)
 exact geo; refine goo 2 rfl<|xC0 h (DN ·) rfl (fun T h=> ?_)
 exact geo; refine cIf h rfl (fun W h=> ?_) (fun W h=> ?_)
 exact gec; refine gcc 12 rfl<|cLp h [(3,3),(9,9),(25,45)] [] (fun(v,y)=>([(3,I64 v),(9,I64 y)],[])) (fun(w,z,f)=>(.e 0,[(3,I64 w),(9,I64 z),(33,Bo f)],[])) rfl (fun st _ h=> ?_) (fun q h=> ?_)
 obtain⟨v,y⟩:=st; unfold fU at h; refine gco 3 rfl<|oJn h [(25,33)] [] (fun g=>(.n,[(33,Bo g)],[])) (fun _ h=> ?_) (fun g h=> ?_)
 refine goo 3 rfl<|xLn rfl<|goo 2 rfl<|oIf 30 h rfl (fun K h=> ?_) (fun K h=> ?_)
 exact geo; exact geo; refine cIf h rfl (fun L h=> ?_) (fun L h=> ?_)
 refine gco 7 rfl<|xIx h bB rfl (fun G h=> ?_)
 refine goo 5 rfl<|xC0 h (a ·) rfl (fun A h=> ?_)
 exact geo; exact gec; obtain⟨w,z,f⟩:=q; refine gcc 5 rfl<|cLp h [(3,3),(8,8),(10,10),(46,87)] [] (fun(o,c)=>([(3,I64 o),(10,I64 c)],[])) (fun q=>match q with | .inl t=>(.r,[(8,I64 t)],[]) | .inr (p,d,j)=>(.e 2,[(3,I64 p),(10,I64 d),(54,Bo j)],[])) rfl (fun st _ h=> ?_) (fun q h=> ?_)
 obtain⟨o,c⟩:=st; unfold fT at h; refine gco 3 rfl<|oJn h [(46,54)] [] (fun l=>(.n,[(54,Bo l)],[])) (fun _ h=> ?_) (fun l h=> ?_)
 refine goo 3 rfl<|xLn rfl<|goo 2 rfl<|oIf 51 h rfl (fun M h=> ?_) (fun M h=> ?_)
 exact geo; exact geo; refine cIf h rfl (fun N h=> ?_) (fun N h=> ?_)
 refine gcc 2 rfl<|cJn h [(3,3),(8,8),(57,87)] [] (fun q=>match q with | .inl u=>(.r,[(8,I64 u)],[]) | .inr s=>(.n,[(3,I64 s)],[])) (fun _ h=> ?_) (fun q h=> ?_)
 refine gco 7 rfl<|xIx h cP rfl (fun H h=> ?_)
 refine goo 2 rfl<|xC0 h (FJ ·) rfl (fun B h=> ?_)
 refine xC0 h (FG ·) rfl (fun C h=> ?_)
 refine goc 2 rfl<|cIf h rfl (fun Q h=> ?_) (fun Q h=> ?_)
 exact gec; refine gco 6 rfl<|xIx h cP rfl (fun I h=> ?_)
 refine goo 5 rfl<|xC0 h (a ·) rfl (fun D h=> ?_)
 refine goc 7 rfl<|cIf h rfl (fun R h=> ?_) (fun R h=> ?_)
 refine gco 4 rfl<|xIx h cP rfl (fun J h=> ?_)
 refine goo 5 rfl<|xC0 h (a ·) rfl (fun E h=> ?_)
 exact geo; exact gec; rcases q with u | s; exact en; exact gec; exact gec; rcases q with t | ⟨p,d,j⟩; exact en; exact gec
def Af:Nat→(jM)
  | 0=>(fun _ _ _ _ _ _ _ _=>none)
  | n+1=>nO n (Af n)
def dA(n:Nat):jM:=Af n
theorem DG(n:Nat):qX (dA n):=by
  induction n with
  | zero=>exact(fun h=>nomatch h)
  | succ n ih=>exact Cy (n:=n) ih
theorem FH{n:Nat}:qX (dA n):=(DG n)
theorem Az(n:Nat):dA (n+1)=nO n (dA n):=rfl
abbrev IN(p:Int→Int→(List UInt8)→(List aB)→(List aC)→Option (Bool)):Prop:= ∀ {a b:Int} {d:List UInt8} {f:List aB} {g:List aC} {r:Bool},p a b d f g=some r→Big Tryz.prog τ An (.fn 119 [.one (.ag [.int .i64 a, .int .i64 b, .str d, .sl (f.map aH), .sl (g.map aG)])] [] (.one (.c (.bool r))) none [] none)
def qS(n:Nat)(b:Int)(c:Int)(d:List UInt8)(f:List aB)(g:List aC):Option (Bool):=
  (dA n b c d f g false (10:Int) (300:Int)).bind fun a=>some (decide ((0:Int)≤a))
theorem FK{n:Nat}:IN (qS n):=by
 intro b c d f g r h; unfold qS at h; refine bF Tryz.func119 rfl rfl<|gco 8 rfl<|xC0 h (FH ·) rfl (fun a h=> ?_)
 exact geo
abbrev GC(p:(List (List UInt8))→(List Int)→Int→Int→Option (Int×Int×(List UInt8)×(List aB)×(List aC)×(List Int)×Int×Int)):Prop:= ∀ {f:List (List UInt8)} {a:List Int} {b d:Int} {r:Int×Int×(List UInt8)×(List aB)×(List aC)×(List Int)×Int×Int},p f a b d=some r→Big Tryz.prog τ An (.fn 74 [.one (.ptr 1000000 0), .one (.c (.sl (f.map fO)))] [[.sl (a.map rI_u8), .int .i64 b, .int .i64 d]] (.one (.ag [.int .i64 r.1, .int .i64 r.2.1, .str r.2.2.1, .sl (r.2.2.2.1.map aH), .sl (r.2.2.2.2.1.map aG)])) none [[.sl (r.2.2.2.2.2.1.map rI_u8), .int .i64 r.2.2.2.2.2.2.1, .int .i64 r.2.2.2.2.2.2.2]] none)
def kE(n:Nat)(j:List (List UInt8))(d:List Int)(f:Int)(g:Int):Option (Int×Int×(List UInt8)×(List aB)×(List aC)×(List Int)×Int×Int):=
  (bT n (3:Int) j d f g).bind fun a=>(qS n a.1 a.2.1 a.2.2.1 a.2.2.2.1 a.2.2.2.2.1).bind fun c=>bif !c then(cW n (1:Int)).bind fun b=>some (b.1,b.2.1,b.2.2.1,b.2.2.2.1,b.2.2.2.2,a.2.2.2.2.2.1,a.2.2.2.2.2.2.1,a.2.2.2.2.2.2.2)else some (a.1,a.2.1,a.2.2.1,a.2.2.2.1,a.2.2.2.2.1,a.2.2.2.2.2.1,a.2.2.2.2.2.2.1,a.2.2.2.2.2.2.2)
theorem vF{n:Nat}:GC (kE n):=by
 intro l d f g r h; unfold kE at h; refine bF Tryz.func74 rfl rfl<|cRs<|xAz [.int .i64 0, .int .i64 0, .str [], .sl ([].map aH), .sl ([].map aG)] rfl<|goo 5 rfl<|xC1 h (FI ·) rfl (fun c h=> ?_)
 refine xAz [.int .i64 0, .int .i64 0, .str [], .sl ([].map aH), .sl ([].map aG)] rfl<|goo 6 rfl<|xC0 h (FK ·) rfl (fun a h=> ?_)
 refine goc 2 rfl<|cIf h rfl (fun j h=> ?_) (fun j h=> ?_)
 refine cRs<|xC0 h (dT ·) rfl (fun b h=> ?_)
 exact geo; exact gec
abbrev IH(p:(List Int)→Int→Int→Option ((List bJ)×(List Int)×Int×Int)):Prop:= ∀ {a:List Int} {b c:Int} {r:(List bJ)×(List Int)×Int×Int},p a b c=some r→Big Tryz.prog τ An (.fn 27 [.one (.ptr 1000000 0)] [[.sl (a.map rI_u8), .int .i64 b, .int .i64 c]] (.one (.ag [.sl (r.1.map eE)])) none [[.sl (r.2.1.map rI_u8), .int .i64 r.2.2.1, .int .i64 r.2.2.2]] none)
def qA(n:Nat):(Int×(List bJ)×(List Int)×Int×Int)→Option ((Int×(List bJ)×(List Int)×Int×Int)⊕((Int×Bool×(List bJ)×(List Int)×Int×Int)))
  | (j,p,c,d,f)=>bif decide (j<(3:Int))then(((ix ([([102]:List UInt8),([103]:List UInt8),([104]:List UInt8)]:List (List UInt8)) j).bind fun g=>bif decide (j=(1:Int))then(kE n ([([88]:List UInt8),([89]:List UInt8)]:List (List UInt8)) c d f).bind fun a=>(dF 120 p ([bJ.mk g ([([88]:List UInt8),([89]:List UInt8)]:List (List UInt8)) a.1 a.2.1 a.2.2.1 a.2.2.2.1 a.2.2.2.2.1]:List bJ)).bind fun s=>some (s,g,([([88]:List UInt8),([89]:List UInt8)]:List (List UInt8)),a.1,a.2.1,a.2.2.1,a.2.2.2.1,a.2.2.2.2.1,a.2.2.2.2.2.1,a.2.2.2.2.2.2.1,a.2.2.2.2.2.2.2)else(kE n ([([88]:List UInt8)]:List (List UInt8)) c d f).bind fun b=>(dF 120 p ([bJ.mk g ([([88]:List UInt8)]:List (List UInt8)) b.1 b.2.1 b.2.2.1 b.2.2.2.1 b.2.2.2.2.1]:List bJ)).bind fun t=>some (t,g,([([88]:List UInt8)]:List (List UInt8)),b.1,b.2.1,b.2.2.1,b.2.2.2.1,b.2.2.2.2.1,b.2.2.2.2.2.1,b.2.2.2.2.2.2.1,b.2.2.2.2.2.2.2):Option (((List bJ)×(List UInt8)×(List (List UInt8))×Int×Int×(List UInt8)×(List aB)×(List aC)×(List Int)×Int×Int)))).bind fun(u,v,w,y,z,A,B,C,l,m,o)=>some (.inl ((IntKind.wrap .i64 (j+(1:Int))),u,l,m,o))else some (.inr (j,false,p,c,d,f))
def nW(n:Nat)(d:List Int)(f:Int)(g:Int):Option ((List bJ)×(List Int)×Int×Int):=
  (loopN (qA n) n ((0:Int),([]:List bJ),d,f,g)).bind fun(l,m,j,c,a,b)=>some (j,c,a,b)
theorem FF{n:Nat}:IH (nW n):=by
 intro Q R T r h; unfold nW at h; refine bF Tryz.func27 rfl rfl<|cRs<|xAz [.sl ([].map eE)] rfl<|oRs<|wBd [.sl ([].map eE)] rfl rfl rfl rfl rfl rfl<|xAz [.sl ([].map eE)] rfl<|goc 7 rfl<|cLp h [(4,5),(7,31)] [(3,3),(5,5),(1000000,1000000)] (fun(D,H,m,o,p)=>([(4,I64 D)],[(3,[.sl (H.map eE)]),(1000000,[.sl (m.map rI_u8), .int .i64 o, .int .i64 p])])) (fun(E,G,I,s,c,d)=>(.e 0,[(4,I64 E),(8,Bo G)],[(3,[.sl (I.map eE)]),(1000000,[.sl (s.map rI_u8), .int .i64 c, .int .i64 d])])) rfl (fun st _ h=> ?_) (fun q h=> ?_)
 obtain⟨D,H,m,o,p⟩:=st; unfold qA at h; refine gcc 6 rfl<|cIf h rfl (fun J h=> ?_) (fun J h=> ?_)
 refine gcc 2 rfl<|cJn h [(5,5),(11,31)] [(3,3),(5,5),(1000000,1000000)] (fun(u,v,w,y,z,A,B,C,g,j,l)=>(.n,[],[(3,[.sl (u.map eE)]),(5,[.str v, .sl (w.map fO), .int .i64 y, .int .i64 z, .str A, .sl (B.map aH), .sl (C.map aG)]),(1000000,[.sl (g.map rI_u8), .int .i64 j, .int .i64 l])])) (fun _ h=> ?_) (fun q h=> ?_)
 refine gco 3 rfl<|cQ (L:=([([102]:List UInt8),([103]:List UInt8),([104]:List UInt8)]:List (List UInt8))) (f:=fO) rfl rfl rfl rfl rfl rfl rfl<|xMv rfl<|xIx h qL rfl (fun t h=> ?_)
 refine xLd rfl<|cQ (L:=([([88]:List UInt8)]:List (List UInt8))) (f:=fO) rfl rfl rfl rfl rfl rfl rfl<|wBd [.str t, .sl ([([88]:List UInt8)].map fO), .int .i64 0, .int .i64 0, .str [], .sl ([].map aH), .sl ([].map aG)] rfl rfl rfl rfl rfl rfl<|xAz [.str [], .sl ([].map fO), .int .i64 0, .int .i64 0, .str [], .sl ([].map aH), .sl ([].map aG)] rfl<|goc 8 rfl<|cIf h rfl (fun K h=> ?_) (fun K h=> ?_)
 refine cRg<|cQ (L:=([([88]:List UInt8),([89]:List UInt8)]:List (List UInt8))) (f:=fO) rfl rfl rfl rfl rfl rfl rfl<|goo 8 rfl<|xC1 h (vF ·) rfl (fun a h=> ?_)
 refine goo 7 rfl<|cQ (L:=([bJ.mk t ([([88]:List UInt8),([89]:List UInt8)]:List (List UInt8)) a.1 a.2.1 a.2.2.1 a.2.2.2.1 a.2.2.2.2.1]:List bJ)) (f:=eE) rfl rfl rfl rfl rfl rfl rfl<|wAp (f:=eE) h rfl rfl rfl rfl rfl rfl rfl rfl rfl (fun _=>rfl) rfl (fun M h=> ?_)
 exact geo; refine gco 6 rfl<|xC1 h (vF ·) rfl (fun b h=> ?_)
 refine goo 7 rfl<|cQ (L:=([bJ.mk t ([([88]:List UInt8)]:List (List UInt8)) b.1 b.2.1 b.2.2.1 b.2.2.2.1 b.2.2.2.2.1]:List bJ)) (f:=eE) rfl rfl rfl rfl rfl rfl rfl<|wAp (f:=eE) h rfl rfl rfl rfl rfl rfl rfl rfl rfl (fun _=>rfl) rfl (fun N h=> ?_)
 exact geo; obtain⟨u,v,w,y,z,A,B,C,g,j,l⟩:=q; exact gec; exact gec; obtain⟨E,G,I,s,c,d⟩:=q; exact gec
abbrev IB(p:Int→Int→(List UInt8)→Int→(List aE)→(List aA)→Int→Option ((List aE)×(List aA)×Int)):Prop:= ∀ {d f:Int} {g:List UInt8} {j:Int} {a:List aE} {b:List aA} {c:Int} {r:(List aE)×(List aA)×Int},p d f g j a b c=some r→Big Tryz.prog τ An (.fn 171 [.one (.ptr 1000000 0), .one (.ag [.int .i64 d, .int .i64 f, .str g, .int .i64 j])] [[.sl (a.map aL), .sl (b.map aF), .int .i64 c]] (.tup []) none [[.sl (r.1.map aL), .sl (r.2.1.map aF), .int .i64 r.2.2]] none)
def bS(n:Nat)(f:Int)(g:Int)(j:List UInt8)(l:Int)(b:List aE)(c:List aA)(d:Int):Option ((List aE)×(List aA)×Int):=
  (dF 40 b ([aE.mk f g j l]:List aE)).bind fun a=>some (a,c,d)
theorem cH{n:Nat}:IB (bS n):=by
 intro a b c d j l m r h; unfold bS at h; refine bF Tryz.func171 rfl rfl<|gco 11 rfl<|cQ (L:=([aE.mk a b c d]:List aE)) (f:=aL) rfl rfl rfl rfl rfl rfl rfl<|wAp (f:=aL) h rfl rfl rfl rfl rfl rfl rfl rfl rfl (fun _=>rfl) rfl (fun g h=> ?_)
 exact geo
abbrev FV(p:(List (List UInt8))→(List Int)→(List UInt8)→Option (Int)):Prop:= ∀ {a:List (List UInt8)} {b:List Int} {d:List UInt8} {r:Int},p a b d=some r→Big Tryz.prog τ An (.fn 195 [.one (.c (.sl (a.map fO))), .one (.c (.sl (b.map aR))), .one (.c (.str d))] [] (.one (.c (.int .i64 r))) none [] none)
def oO(n:Nat)(d:List (List UInt8))(f:List Int)(g:List UInt8):(Int)→Option ((Int)⊕((Int)⊕(Int×Bool)))
  | a=>bif decide ((0:Int)≤a)then(ix d a).bind fun b=>bif decide (b=g)then(ix f a).bind fun c=>some (.inr (.inl c))else some (.inl (IntKind.wrap .i64 (a - (1:Int))))else some (.inr (.inr (a,false)))
def kZ(n:Nat)(a:List (List UInt8))(b:List Int)(c:List UInt8):Option (Int):=
  (loopN (oO n a b c) n (IntKind.wrap .i64 ((a.length:Int) - (1:Int)))).bind fun q=>(match q with | .inl d=>some d | .inr (g,f)=>some (0:Int))
theorem Bv{n:Nat}:FV (kZ n):=by
 intro m o p r h; unfold kZ at h; refine bF Tryz.func195 rfl rfl<|gco 8 rfl<|xLn rfl<|goc 3 rfl<|cLp h [(6,7),(11,24)] [] (fun c=>([(7,I64 c)],[])) (fun q=>match q with | .inl b=>(.r,[(6,I64 b)],[]) | .inr (d,a)=>(.e 0,[(7,I64 d),(12,Bo a)],[])) rfl (fun c _ h=> ?_) (fun q h=> ?_)
 unfold oO at h; refine gcc 6 rfl<|cIf h rfl (fun j h=> ?_) (fun j h=> ?_)
 refine gco 7 rfl<|xIx h qL rfl (fun f h=> ?_)
 refine goc 4 rfl<|cIf h rfl (fun l h=> ?_) (fun l h=> ?_)
 refine gco 4 rfl<|xIx h gW rfl (fun g h=> ?_)
 exact geo; exact gec; exact gec; rcases q with b | ⟨d,a⟩; exact en; exact gec
abbrev jG:Type:=Int→Int→(List UInt8)→(List aB)→(List aC)→(List aE)→(List aA)→Int→(List (List UInt8))→(List Int)→Option (Int×Int×(List UInt8)×(List aA)×(List aE)×(List aA)×Int×(List (List UInt8))×(List Int))
abbrev sO(p:jG):Prop:= ∀ {g j:Int} {l:List UInt8} {m:List aB} {o:List aC} {a:List aE} {b:List aA} {c:Int} {d:List (List UInt8)} {f:List Int} {r:Int×Int×(List UInt8)×(List aA)×(List aE)×(List aA)×Int×(List (List UInt8))×(List Int)},p g j l m o a b c d f=some r→Big Tryz.prog τ An (.fn 211 [.one (.ptr 1000000 0), .one (.ag [.int .i64 g, .int .i64 j, .str l, .sl (m.map aH), .sl (o.map aG)]), .one (.ptr 1000001 0), .one (.ptr 1000002 0)] [[.sl (a.map aL), .sl (b.map aF), .int .i64 c],[.sl (d.map fO)],[.sl (f.map aR)]] (.one (.ag [.int .i64 r.1, .int .i64 r.2.1, .str r.2.2.1, .sl (r.2.2.2.1.map aF)])) none [[.sl (r.2.2.2.2.1.map aL), .sl (r.2.2.2.2.2.1.map aF), .int .i64 r.2.2.2.2.2.2.1],[.sl (r.2.2.2.2.2.2.2.1.map fO)],[.sl (r.2.2.2.2.2.2.2.2.map aR)]] none)
def fF(n:Nat)(m:jG)(o:List aB):(Int×Int×Int×(List UInt8)×(List aA)×(List aE)×(List aA)×Int×(List (List UInt8))×(List Int))→Option ((Int×Int×Int×(List UInt8)×(List aA)×(List aE)×(List aA)×Int×(List (List UInt8))×(List Int))⊕((Int×Bool×Int×Int×(List UInt8)×(List aA)×(List aE)×(List aA)×Int×(List (List UInt8))×(List Int))))
  | (l,s,t,u,v,c,d,f,g,j)=>bif decide (l<(o.length:Int))then(ix o l).bind fun b=>(m b.f0 b.f1 b.f2 b.f3 b.f4 c d f g j).bind fun a=>(dF 56 v ([aA.mk a.1 a.2.1 a.2.2.1 a.2.2.2.1]:List aA)).bind fun p=>some (.inl ((IntKind.wrap .i64 (l+(1:Int))),s,t,u,p,a.2.2.2.2.1,a.2.2.2.2.2.1,a.2.2.2.2.2.2.1,a.2.2.2.2.2.2.2.1,a.2.2.2.2.2.2.2.2))else some (.inr (l,false,s,t,u,v,c,d,f,g,j))
def rU(n:Nat)(m:jG)(u:List aB):(Int×Int×Int×(List UInt8)×(List aA)×(List aE)×(List aA)×Int×(List (List UInt8))×(List Int))→Option ((Int×Int×Int×(List UInt8)×(List aA)×(List aE)×(List aA)×Int×(List (List UInt8))×(List Int))⊕((Int×Bool×Int×Int×(List UInt8)×(List aA)×(List aE)×(List aA)×Int×(List (List UInt8))×(List Int))))
  | (l,o,p,s,t,c,d,f,g,j)=>bif decide (l<(u.length:Int))then(ix u l).bind fun b=>(m b.f0 b.f1 b.f2 b.f3 b.f4 c d f g j).bind fun a=>(dF 56 t ([aA.mk a.1 a.2.1 a.2.2.1 a.2.2.2.1]:List aA)).bind fun v=>some (.inl ((IntKind.wrap .i64 (l+(1:Int))),o,p,s,v,a.2.2.2.2.1,a.2.2.2.2.2.1,a.2.2.2.2.2.2.1,a.2.2.2.2.2.2.2.1,a.2.2.2.2.2.2.2.2))else some (.inr (l,false,o,p,s,t,c,d,f,g,j))
def rT(n:Nat)(m:jG)(u:List aB):(Int×Int×Int×(List UInt8)×(List aA)×(List aE)×(List aA)×Int×(List (List UInt8))×(List Int))→Option ((Int×Int×Int×(List UInt8)×(List aA)×(List aE)×(List aA)×Int×(List (List UInt8))×(List Int))⊕((Int×Bool×Int×Int×(List UInt8)×(List aA)×(List aE)×(List aA)×Int×(List (List UInt8))×(List Int))))
  | (l,o,p,s,t,c,d,f,g,j)=>bif decide (l<(u.length:Int))then(ix u l).bind fun b=>(m b.f0 b.f1 b.f2 b.f3 b.f4 c d f g j).bind fun a=>(dF 56 t ([aA.mk a.1 a.2.1 a.2.2.1 a.2.2.2.1]:List aA)).bind fun v=>some (.inl ((IntKind.wrap .i64 (l+(1:Int))),o,p,s,v,a.2.2.2.2.1,a.2.2.2.2.2.1,a.2.2.2.2.2.2.1,a.2.2.2.2.2.2.2.1,a.2.2.2.2.2.2.2.2))else some (.inr (l,false,o,p,s,t,c,d,f,g,j))
def pM(n:Nat)(a:jG)(z:Int)(Y:Int)(E:List UInt8)(G:List aB)(a5:List aC)(A:List aE)(B:List aA)(b:Int)(C:List (List UInt8))(D:List Int):Option (Int×Int×(List UInt8)×(List aA)×(List aE)×(List aA)×Int×(List (List UInt8))×(List Int)):=
  bif decide (z=(3:Int))then bif !decide (E=([95]:List UInt8))then(dF 16 C ([E]:List (List UInt8))).bind fun H=>(dF 8 D ([b]:List Int)).bind fun I=>(loopN (fF n a G) n ((0:Int),z,b,([]:List UInt8),([]:List aA),A,B,(IntKind.wrap .i64 (b+(1:Int))),H,I)).bind fun(Z,a2,J,K,L,M,c,d,f,s,v)=>some (J,K,L,M,c,d,f,s,v)else(loopN (rU n a G) n ((0:Int),z,((-1):Int),([]:List UInt8),([]:List aA),A,B,b,C,D)).bind fun(a0,a3,N,Q,R,T,g,j,l,t,w)=>some (N,Q,R,T,g,j,l,t,w)else(loopN (rT n a G) n ((0:Int),z,Y,E,([]:List aA),A,B,b,C,D)).bind fun(a1,a4,U,V,W,X,m,o,p,u,y)=>some (U,V,W,X,m,o,p,u,y)
theorem Et{n:Nat}{c:jG}(b:sO c):sO (pM n c):=by
 intro d3 d4 c7 f2 f3 e6 e7 d2 e8 e9 r h; unfold pM at h; refine bF Tryz.func211 rfl rfl<|gco 3 rfl<|xAz [.int .i64 0, .int .i64 0, .str [], .sl ([].map aF)] rfl<|goo 9 rfl<|wBd [.int .i64 d3, .int .i64 d4, .str c7, .sl ([].map aF)] rfl rfl rfl rfl rfl rfl<|xAz [.int .i64 0, .int .i64 0, .str [], .sl ([].map aF)] rfl<|goc 9 rfl<|cIf h rfl (fun q1 h=> ?_) (fun q1 h=> ?_)
 refine gcc 16 rfl<|cIf h rfl (fun q2 h=> ?_) (fun q2 h=> ?_)
 refine gco 28 rfl<|cQ (L:=([c7]:List (List UInt8))) (f:=fO) rfl rfl rfl rfl rfl rfl rfl<|wAp (f:=fO) h rfl rfl rfl rfl rfl rfl rfl rfl rfl (fun _=>rfl) rfl (fun e4 h=> ?_)
 refine goo 10 rfl<|cQ (L:=([d2]:List Int)) (f:=aR) rfl rfl rfl rfl rfl rfl rfl<|wAp (f:=aR) h rfl rfl rfl rfl rfl rfl rfl rfl rfl (fun _=>rfl) rfl (fun e5 h=> ?_)
 refine goc 8 rfl<|cLp h [(10,10),(56,76)] [(9,9),(1000000,1000002)] (fun(a6,c8,c9,d0,d1,d,g,j,E,M)=>([(10,I64 a6)],[(9,[.int .i64 c8, .int .i64 c9, .str d0, .sl (d1.map aF)]),(1000000,[.sl (d.map aL), .sl (g.map aF), .int .i64 j]),(1000001,[.sl (E.map fO)]),(1000002,[.sl (M.map aR)])])) (fun(Y,a3,a7,a8,a9,b0,l,m,o,G,N)=>(.e 0,[(10,I64 Y),(60,Bo a3)],[(9,[.int .i64 a7, .int .i64 a8, .str a9, .sl (b0.map aF)]),(1000000,[.sl (l.map aL), .sl (m.map aF), .int .i64 o]),(1000001,[.sl (G.map fO)]),(1000002,[.sl (N.map aR)])])) rfl (fun st _ h=> ?_) (fun q h=> ?_)
 obtain⟨a6,c8,c9,d0,d1,d,g,j,E,M⟩:=st; unfold fF at h; refine gco 6 rfl<|xLn rfl<|goc 2 rfl<|cIf h rfl (fun d8 h=> ?_) (fun d8 h=> ?_)
 refine gco 10 rfl<|xIx h bB rfl (fun d5 h=> ?_)
 refine goo 3 rfl<|xCk h (b ·) rfl (fun V h=> ?_)
 refine cQ (L:=([aA.mk V.1 V.2.1 V.2.2.1 V.2.2.2.1]:List aA)) (f:=aF) rfl rfl rfl rfl (by simp only[List.map,dG]<;>rfl) rfl rfl<|wAp (f:=aF) h rfl rfl rfl rfl rfl rfl rfl rfl rfl (fun a=>by rw[aQ]; rfl) rfl (fun e1 h=> ?_)
 exact geo; exact gec; obtain⟨Y,a3,a7,a8,a9,b0,l,m,o,G,N⟩:=q; exact gec; refine gcc 6 rfl<|cLp h [(10,10),(56,76)] [(9,9),(1000000,1000002)] (fun(Z,b1,b2,b3,b4,p,s,t,H,Q)=>([(10,I64 Z)],[(9,[.int .i64 b1, .int .i64 b2, .str b3, .sl (b4.map aF)]),(1000000,[.sl (p.map aL), .sl (s.map aF), .int .i64 t]),(1000001,[.sl (H.map fO)]),(1000002,[.sl (Q.map aR)])])) (fun(a0,a4,b5,b6,b7,b8,u,v,w,I,R)=>(.e 0,[(10,I64 a0),(60,Bo a4)],[(9,[.int .i64 b5, .int .i64 b6, .str b7, .sl (b8.map aF)]),(1000000,[.sl (u.map aL), .sl (v.map aF), .int .i64 w]),(1000001,[.sl (I.map fO)]),(1000002,[.sl (R.map aR)])])) rfl (fun st _ h=> ?_) (fun q h=> ?_)
 obtain⟨Z,b1,b2,b3,b4,p,s,t,H,Q⟩:=st; unfold rU at h; refine gco 6 rfl<|xLn rfl<|goc 2 rfl<|cIf h rfl (fun d9 h=> ?_) (fun d9 h=> ?_)
 refine gco 10 rfl<|xIx h bB rfl (fun d6 h=> ?_)
 refine goo 3 rfl<|xCk h (b ·) rfl (fun W h=> ?_)
 refine cQ (L:=([aA.mk W.1 W.2.1 W.2.2.1 W.2.2.2.1]:List aA)) (f:=aF) rfl rfl rfl rfl (by simp only[List.map,dG]<;>rfl) rfl rfl<|wAp (f:=aF) h rfl rfl rfl rfl rfl rfl rfl rfl rfl (fun a=>by rw[aQ]; rfl) rfl (fun e2 h=> ?_)
 exact geo; exact gec; obtain⟨a0,a4,b5,b6,b7,b8,u,v,w,I,R⟩:=q; exact gec; refine gcc 6 rfl<|cLp h [(10,10),(56,76)] [(9,9),(1000000,1000002)] (fun(a1,b9,c0,c1,c2,y,z,A,J,T)=>([(10,I64 a1)],[(9,[.int .i64 b9, .int .i64 c0, .str c1, .sl (c2.map aF)]),(1000000,[.sl (y.map aL), .sl (z.map aF), .int .i64 A]),(1000001,[.sl (J.map fO)]),(1000002,[.sl (T.map aR)])])) (fun(a2,a5,c3,c4,c5,c6,B,C,D,K,U)=>(.e 0,[(10,I64 a2),(60,Bo a5)],[(9,[.int .i64 c3, .int .i64 c4, .str c5, .sl (c6.map aF)]),(1000000,[.sl (B.map aL), .sl (C.map aF), .int .i64 D]),(1000001,[.sl (K.map fO)]),(1000002,[.sl (U.map aR)])])) rfl (fun st _ h=> ?_) (fun q h=> ?_)
 obtain⟨a1,b9,c0,c1,c2,y,z,A,J,T⟩:=st; unfold rT at h; refine gco 6 rfl<|xLn rfl<|goc 2 rfl<|cIf h rfl (fun e0 h=> ?_) (fun e0 h=> ?_)
 refine gco 10 rfl<|xIx h bB rfl (fun d7 h=> ?_)
 refine goo 3 rfl<|xCk h (b ·) rfl (fun X h=> ?_)
 refine cQ (L:=([aA.mk X.1 X.2.1 X.2.2.1 X.2.2.2.1]:List aA)) (f:=aF) rfl rfl rfl rfl (by simp only[List.map,dG]<;>rfl) rfl rfl<|wAp (f:=aF) h rfl rfl rfl rfl rfl rfl rfl rfl rfl (fun a=>by rw[aQ]; rfl) rfl (fun e3 h=> ?_)
 exact geo; exact gec; obtain⟨a2,a5,c3,c4,c5,c6,B,C,D,K,U⟩:=q; exact gec
def CL:Nat→(jG)
  | 0=>(fun _ _ _ _ _ _ _ _ _ _=>none)
  | n+1=>pM n (CL n)
def gE(n:Nat):jG:=CL n
theorem Ew(n:Nat):sO (gE n):=by
  induction n with
  | zero=>exact(fun h=>nomatch h)
  | succ n ih=>exact Et (n:=n) ih
theorem Ft{n:Nat}:sO (gE n):=(Ew n)
theorem Br(n:Nat):gE (n+1)=pM n (gE n):=rfl
abbrev jL:Type:=Int→Int→(List UInt8)→(List aB)→(List aC)→(List (List UInt8))→(List Int)→(List aE)→(List aA)→Int→Option ((List aE)×(List aA)×Int)
abbrev oD(p:jL):Prop:= ∀ {f g:Int} {j:List UInt8} {l:List aB} {m:List aC} {o:List (List UInt8)} {s:List Int} {a:List aE} {b:List aA} {d:Int} {r:(List aE)×(List aA)×Int},p f g j l m o s a b d=some r→Big Tryz.prog τ An (.fn 196 [.one (.ptr 1000000 0), .one (.ag [.int .i64 f, .int .i64 g, .str j, .sl (l.map aH), .sl (m.map aG)]), .one (.c (.sl (o.map fO))), .one (.c (.sl (s.map aR)))] [[.sl (a.map aL), .sl (b.map aF), .int .i64 d]] (.tup []) none [[.sl (r.1.map aL), .sl (r.2.1.map aF), .int .i64 r.2.2]] none)
abbrev gD:Type:=Int→Int→(List UInt8)→(List aB)→(List aC)→(List (List UInt8))→(List Int)→(List aE)→(List aA)→Int→Option ((List aE)×(List aA)×Int)
abbrev oC(p:gD):Prop:= ∀ {f g:Int} {j:List UInt8} {l:List aB} {m:List aC} {o:List (List UInt8)} {s:List Int} {a:List aE} {b:List aA} {d:Int} {r:(List aE)×(List aA)×Int},p f g j l m o s a b d=some r→Big Tryz.prog τ An (.fn 170 [.one (.ptr 1000000 0), .one (.ag [.int .i64 f, .int .i64 g, .str j, .sl (l.map aH), .sl (m.map aG)]), .one (.c (.sl (o.map fO))), .one (.c (.sl (s.map aR)))] [[.sl (a.map aL), .sl (b.map aF), .int .i64 d]] (.tup []) none [[.sl (r.1.map aL), .sl (r.2.1.map aF), .int .i64 r.2.2]] none)
def kA(n:Nat)(o:gD)(C:List (List UInt8))(D:List Int)(v:List aC):((List Int)×Int×(List aE)×(List aA)×Int)→Option (((List Int)×Int×(List aE)×(List aA)×Int)⊕(((List Int)×Int×Bool×(List aE)×(List aA)×Int)))
  | (B,s,j,l,m)=>bif decide (s<(v.length:Int))then(dF 16 ([]:List (List UInt8)) C).bind fun y=>(dF 8 ([]:List Int) D).bind fun z=>(ix v s).bind fun d=>(gE n d.f0 d.f1 d.f2 d.f3 d.f4 j l m y z).bind fun a=>(bS n (9:Int) (a.2.2.2.2.2.1.length:Int) ([]:List UInt8) (0:Int) a.2.2.2.2.1 a.2.2.2.2.2.1 a.2.2.2.2.2.2.1).bind fun b=>(dF 56 b.2.1 ([aA.mk (0:Int) (0:Int) ([]:List UInt8) ([]:List aA)]:List aA)).bind fun u=>(ix u (b.2.1.length:Int)).bind fun E=>(some (u.set (Int.toNat (b.2.1.length:Int)) (aA.mk a.1 a.2.1 a.2.2.1 a.2.2.2.1))).bind fun w=>(ix v s).bind fun f=>(o f.f5 f.f6 f.f7 f.f8 f.f9 a.2.2.2.2.2.2.2.1 a.2.2.2.2.2.2.2.2 b.1 w b.2.2).bind fun g=>(dF 8 B ([(g.1.length:Int)]:List Int)).bind fun A=>(bS n (10:Int) (0:Int) ([]:List UInt8) (0:Int) g.1 g.2.1 g.2.2).bind fun c=>(ix c.1 (a.2.2.2.2.1.length:Int)).bind fun p=>(some (c.1.set (Int.toNat (a.2.2.2.2.1.length:Int)) (aE.mk p.f0 p.f1 p.f2 (c.1.length:Int)))).bind fun t=>some (.inl (A,(IntKind.wrap .i64 (s+(1:Int))),t,c.2.1,c.2.2))else some (.inr (B,s,false,j,l,m))
def jZ(n:Nat)(l:List Int):(Int×(List aE)×(List aA)×Int)→Option ((Int×(List aE)×(List aA)×Int)⊕((Int×Bool×(List aE)×(List aA)×Int)))
  | (d,a,b,c)=>bif decide (d<(l.length:Int))then(ix l d).bind fun j=>(ix a j).bind fun f=>(some (a.set (Int.toNat j) (aE.mk f.f0 f.f1 f.f2 (a.length:Int)))).bind fun g=>some (.inl ((IntKind.wrap .i64 (d+(1:Int))),g,b,c))else some (.inr (d,false,a,b,c))
def nN(n:Nat)(a:gD)(m:jL)(B:Int)(C:Int)(D:List UInt8)(E:List aB)(t:List aC)(u:List (List UInt8))(v:List Int)(o:List aE)(p:List aA)(s:Int):Option ((List aE)×(List aA)×Int):=
  (loopN (kA n a u v t) n (([]:List Int),(0:Int),o,p,s)).bind fun(w,G,A,l,c,d)=>(bS n (11:Int) (0:Int) ([]:List UInt8) (0:Int) l c d).bind fun b=>(loopN (jZ n w) n ((0:Int),b.1,b.2.1,b.2.2)).bind fun(z,y,f,g,j)=>some (f,g,j)
theorem Cx{n:Nat}{d:gD}(A:oC d){c:jL}(H:oD c):oD (nN n d c):=by
 intro b0 b1 b2 b3 b4 b5 b6 a7 a8 a9 r h; unfold nN at h; refine bF Tryz.func196 rfl rfl<|gco 6 rfl<|cQ (L:=([]:List Int)) (f:=aR) rfl rfl rfl rfl rfl rfl rfl<|goc 7 rfl<|cLp h [(8,13),(16,93)] [(10,12),(1000000,1000000)] (fun(K,N,u,v,w)=>([(8,Li aR K),(9,I64 N)],[(1000000,[.sl (u.map aL), .sl (v.map aF), .int .i64 w])])) (fun(M,Q,G,y,j,l)=>(.e 0,[(8,Li aR M),(9,I64 Q),(20,Bo G)],[(1000000,[.sl (y.map aL), .sl (j.map aF), .int .i64 l])])) rfl (fun st _ h=> ?_) (fun q h=> ?_)
 obtain⟨K,N,u,v,w⟩:=st; unfold kA at h; refine gco 6 rfl<|xLn rfl<|goc 2 rfl<|cIf h rfl (fun a0 h=> ?_) (fun a0 h=> ?_)
 refine gco 5 rfl<|cQ (L:=([]:List (List UInt8))) (f:=fO) rfl rfl rfl rfl rfl rfl rfl<|xMv rfl<|wAp (f:=fO) h rfl rfl rfl rfl rfl rfl rfl rfl rfl (fun _=>rfl) rfl (fun a3 h=> ?_)
 refine xAz [.sl ([].map fO)] rfl<|goo 4 rfl<|cQ (L:=([]:List Int)) (f:=aR) rfl rfl rfl rfl rfl rfl rfl<|xMv rfl<|wAp (f:=aR) h rfl rfl rfl rfl rfl rfl rfl rfl rfl (fun _=>rfl) rfl (fun a4 h=> ?_)
 refine xAz [.sl ([].map aR)] rfl<|goo 8 rfl<|xIx h cP rfl (fun X h=> ?_)
 refine goo 2 rfl<|xCk h (Ft ·) rfl (fun g h=> ?_)
 refine xAz [.int .i64 0, .int .i64 0, .str [], .sl ([].map aF)] rfl<|goo 8 rfl<|xLn rfl<|goo 9 rfl<|xLn rfl<|wBd [.int .i64 9, .int .i64 (g.2.2.2.2.2.1.length:Int), .str [], .int .i64 0] rfl rfl rfl rfl rfl rfl<|xC1 h (cH ·) rfl (fun V h=> ?_)
 refine goo 8 rfl<|xLn rfl<|cQ (L:=([aA.mk (0:Int) (0:Int) ([]:List UInt8) ([]:List aA)]:List aA)) (f:=aF) rfl rfl rfl rfl (by simp only[List.map,dG]<;>rfl) rfl rfl<|wAp (f:=aF) h rfl rfl rfl rfl rfl rfl rfl rfl rfl (fun a=>by rw[aQ]; rfl) rfl (fun a5 h=> ?_)
 refine wIs (f:=aF) h rfl rfl rfl rfl (fun a=>by rw[aQ]; rfl) rfl (fun Y ke58_19 h=> ?_)
 refine Lv (f:=aF) (v':=aA.mk g.1 g.2.1 g.2.2.1 g.2.2.2.1) h ke58_19 rfl rfl rfl rfl rfl rfl rfl (by rw[aQ]; rfl) (by rw[aQ,dG]; rfl) (fun a2 h=> ?_)
 refine goo 10 rfl<|xIx h cP rfl (fun Z h=> ?_)
 refine goo 4 rfl<|xC1 h (A ·) rfl (fun I h=> ?_)
 refine goo 8 rfl<|xLn rfl<|cQ (L:=([(I.1.length:Int)]:List Int)) (f:=aR) rfl rfl rfl rfl rfl rfl rfl<|wAp (f:=aR) h rfl rfl rfl rfl rfl rfl rfl rfl rfl (fun _=>rfl) rfl (fun a6 h=> ?_)
 refine goo 5 rfl<|wBd [.int .i64 10, .int .i64 0, .str [], .int .i64 0] rfl rfl rfl rfl rfl rfl<|xC1 h (cH ·) rfl (fun J h=> ?_)
 refine goo 5 rfl<|wLa rfl rfl rfl rfl rfl rfl rfl<|goo 5 rfl<|xLn rfl<|wIp (f:=aL) h rfl rfl rfl rfl rfl rfl (fun _=>rfl) rfl (fun B ke92_25 h=> ?_)
 refine xFd rfl<|Lv (f:=aL) (v':=aE.mk B.f0 B.f1 B.f2 (J.1.length:Int)) h ke92_25 rfl rfl rfl rfl rfl rfl rfl rfl rfl (fun R h=> ?_)
 exact geo; exact gec; obtain⟨M,Q,G,y,j,l⟩:=q; refine gco 3 rfl<|wBd [.int .i64 11, .int .i64 0, .str [], .int .i64 0] rfl rfl rfl rfl rfl rfl<|xC1 h (cH ·) rfl (fun W h=> ?_)
 refine goc 5 rfl<|cLp h [(14,14),(97,117)] [(1000000,1000000)] (fun(D,b,m,o)=>([(14,I64 D)],[(1000000,[.sl (b.map aL), .sl (m.map aF), .int .i64 o])])) (fun(E,C,p,s,t)=>(.e 2,[(14,I64 E),(100,Bo C)],[(1000000,[.sl (p.map aL), .sl (s.map aF), .int .i64 t])])) rfl (fun st _ h=> ?_) (fun q h=> ?_)
 obtain⟨D,b,m,o⟩:=st; unfold jZ at h; refine gco 5 rfl<|xLn rfl<|goc 2 rfl<|cIf h rfl (fun a1 h=> ?_) (fun a1 h=> ?_)
 refine gco 7 rfl<|wLa rfl rfl rfl rfl rfl rfl rfl<|goo 2 rfl<|xIx h gW rfl (fun U h=> ?_)
 refine goo 5 rfl<|xLn rfl<|wIp (f:=aL) h rfl rfl rfl rfl rfl rfl (fun _=>rfl) rfl (fun z ke116_39 h=> ?_)
 refine xFd rfl<|Lv (f:=aL) (v':=aE.mk z.f0 z.f1 z.f2 (b.length:Int)) h ke116_39 rfl rfl rfl rfl rfl rfl rfl rfl rfl (fun T h=> ?_)
 exact geo; exact gec; obtain⟨E,C,p,s,t⟩:=q; exact en
def jV(n:Nat)(f:gD)(m:List (List UInt8))(o:List Int)(l:List aB):(Int×(List aE)×(List aA)×Int)→Option ((Int×(List aE)×(List aA)×Int)⊕((Int×Bool×(List aE)×(List aA)×Int)))
  | (j,b,c,d)=>bif decide (j<(l.length:Int))then(ix l j).bind fun a=>(f a.f0 a.f1 a.f2 a.f3 a.f4 m o b c d).bind fun g=>some (.inl ((IntKind.wrap .i64 (j+(1:Int))),g.1,g.2.1,g.2.2))else some (.inr (j,false,b,c,d))
def nL(n:Nat)(j:gD)(g:jL)(d:Int)(C:Int)(y:List UInt8)(f:List aB)(H:List aC)(z:List (List UInt8))(A:List Int)(D:List aE)(E:List aA)(G:Int):Option ((List aE)×(List aA)×Int):=
  (loopN (jV n j z A f) n ((0:Int),D,E,G)).bind fun(J,I,a,b,c)=>bif decide (d=(1:Int))then(bS n (1:Int) C ([]:List UInt8) (0:Int) a b c).bind fun l=>some (l.1,l.2.1,l.2.2)else bif decide (d=(2:Int))then(bS n (2:Int) (0:Int) y (0:Int) a b c).bind fun m=>some (m.1,m.2.1,m.2.2)else bif decide (d=(3:Int))then(kZ n z A y).bind fun B=>(bS n (3:Int) B ([]:List UInt8) (0:Int) a b c).bind fun o=>some (o.1,o.2.1,o.2.2)else bif decide (d=(4:Int))then(bS n (4:Int) (f.length:Int) ([]:List UInt8) (0:Int) a b c).bind fun p=>some (p.1,p.2.1,p.2.2)else bif decide (d=(5:Int))then(bS n (5:Int) (f.length:Int) ([]:List UInt8) (0:Int) a b c).bind fun s=>some (s.1,s.2.1,s.2.2)else bif decide (d=(6:Int))then(bS n (6:Int) (f.length:Int) ([]:List UInt8) (0:Int) a b c).bind fun t=>some (t.1,t.2.1,t.2.2)else bif decide (d=(7:Int))then(bS n (7:Int) (0:Int) y (0:Int) a b c).bind fun u=>some (u.1,u.2.1,u.2.2)else bif decide (d=(8:Int))then(bS n (8:Int) (f.length:Int) y (0:Int) a b c).bind fun v=>some (v.1,v.2.1,v.2.2)else bif decide (d=(9:Int))then(g d C y f H z A a b c).bind fun w=>some (w.1,w.2.1,w.2.2)else some (a,b,c)
theorem Cu{n:Nat}{b:gD}(o:oC b){a:jL}(m:oD a):oC (nL n b a):=by
 intro a1 y s p a2 a3 a4 Y Z a0 r h; unfold nL at h; refine bF Tryz.func170 rfl rfl<|gcc 9 rfl<|cLp h [(8,8),(10,25)] [(1000000,1000000)] (fun(v,c,d,f)=>([(8,I64 v)],[(1000000,[.sl (c.map aL), .sl (d.map aF), .int .i64 f])])) (fun(w,t,g,j,l)=>(.e 0,[(8,I64 w),(14,Bo t)],[(1000000,[.sl (g.map aL), .sl (j.map aF), .int .i64 l])])) rfl (fun st _ h=> ?_) (fun q h=> ?_)
 obtain⟨v,c,d,f⟩:=st; unfold jV at h; refine gco 6 rfl<|xLn rfl<|goc 2 rfl<|cIf h rfl (fun L h=> ?_) (fun L h=> ?_)
 refine gco 8 rfl<|xIx h bB rfl (fun K h=> ?_)
 refine goo 3 rfl<|xC1 h (o ·) rfl (fun z h=> ?_)
 exact geo; exact gec; obtain⟨w,t,g,j,l⟩:=q; refine gco 4 rfl<|xLn rfl<|goc 13 rfl<|cIf h rfl (fun M h=> ?_) (fun M h=> ?_)
 refine gco 4 rfl<|wBd [.int .i64 1, .int .i64 y, .str [], .int .i64 0] rfl rfl rfl rfl rfl rfl<|xC1 h (cH ·) rfl (fun A h=> ?_)
 exact geo; refine gcc 5 rfl<|cIf h rfl (fun N h=> ?_) (fun N h=> ?_)
 refine gco 4 rfl<|wBd [.int .i64 2, .int .i64 0, .str s, .int .i64 0] rfl rfl rfl rfl rfl rfl<|xC1 h (cH ·) rfl (fun B h=> ?_)
 exact geo; refine gcc 5 rfl<|cIf h rfl (fun Q h=> ?_) (fun Q h=> ?_)
 refine gco 6 rfl<|xC0 h (Bv ·) rfl (fun u h=> ?_)
 refine wBd [.int .i64 3, .int .i64 u, .str [], .int .i64 0] rfl rfl rfl rfl rfl rfl<|xC1 h (cH ·) rfl (fun C h=> ?_)
 exact geo; refine gcc 5 rfl<|cIf h rfl (fun R h=> ?_) (fun R h=> ?_)
 refine gco 3 rfl<|wBd [.int .i64 4, .int .i64 (p.length:Int), .str [], .int .i64 0] rfl rfl rfl rfl rfl rfl<|xC1 h (cH ·) rfl (fun D h=> ?_)
 exact geo; refine gcc 5 rfl<|cIf h rfl (fun T h=> ?_) (fun T h=> ?_)
 refine gco 3 rfl<|wBd [.int .i64 5, .int .i64 (p.length:Int), .str [], .int .i64 0] rfl rfl rfl rfl rfl rfl<|xC1 h (cH ·) rfl (fun E h=> ?_)
 exact geo; refine gcc 5 rfl<|cIf h rfl (fun U h=> ?_) (fun U h=> ?_)
 refine gco 3 rfl<|wBd [.int .i64 6, .int .i64 (p.length:Int), .str [], .int .i64 0] rfl rfl rfl rfl rfl rfl<|xC1 h (cH ·) rfl (fun G h=> ?_)
 exact geo; refine gcc 5 rfl<|cIf h rfl (fun V h=> ?_) (fun V h=> ?_)
 refine gco 4 rfl<|wBd [.int .i64 7, .int .i64 0, .str s, .int .i64 0] rfl rfl rfl rfl rfl rfl<|xC1 h (cH ·) rfl (fun H h=> ?_)
 exact geo; refine gcc 5 rfl<|cIf h rfl (fun W h=> ?_) (fun W h=> ?_)
 refine gco 5 rfl<|wBd [.int .i64 8, .int .i64 (p.length:Int), .str s, .int .i64 0] rfl rfl rfl rfl rfl rfl<|xC1 h (cH ·) rfl (fun I h=> ?_)
 exact geo; refine gcc 5 rfl<|cIf h rfl (fun X h=> ?_) (fun X h=> ?_)
 refine gco 5 rfl<|xC1 h (m ·) rfl (fun J h=> ?_)
 exact geo; exact gec
def lE:Nat→(gD)×(jL)
  | 0=>((fun _ _ _ _ _ _ _ _ _ _=>none),(fun _ _ _ _ _ _ _ _ _ _=>none))
  | n+1=>(nL n ((lE n).1) ((lE n).2),nN n ((lE n).1) ((lE n).2))
def gA(n:Nat):gD:=(lE n).1
def lF(n:Nat):jL:=(lE n).2
theorem vE(n:Nat):oC (gA n)∧oD (lF n):=by
  induction n with
  | zero=>exact⟨(fun h=>nomatch h),(fun h=>nomatch h)⟩
  | succ n ih=>exact⟨Cu (n:=n) (ih.1) (ih.2),Cx (n:=n) (ih.1) (ih.2)⟩
theorem Ey{n:Nat}:oC (gA n):=(vE n).1
theorem Qo{n:Nat}:oD (lF n):=(vE n).2
theorem Aw(n:Nat):gA (n+1)=nL n (gA n) (lF n):=rfl
theorem Ay(n:Nat):lF (n+1)=nN n (gA n) (lF n):=rfl
abbrev Dc(p:(List bJ)→Option ((List aD)×(List aA))):Prop:= ∀ {a:List bJ} {r:(List aD)×(List aA)},p a=some r→Big Tryz.prog τ An (.fn 135 [.one (.ag [.sl (a.map eE)])] [] (.one (.ag [.sl (r.1.map aJ), .sl (r.2.map aF)])) none [] none)
def gM(n:Nat)(d:bJ):((List Int)×Int)→Option (((List Int)×Int)⊕(((List Int)×Int×Bool)))
  | (b,a)=>bif decide (a<(d.f1.length:Int))then(dF 8 b ([a]:List Int)).bind fun c=>some (.inl (c,(IntKind.wrap .i64 (a+(1:Int)))))else some (.inr (b,a,false))
def jN(n:Nat)(f:List bJ):(Int×(List aD)×(List aA))→Option ((Int×(List aD)×(List aA))⊕((Int×Bool×(List aD)×(List aA))))
  | (d,j,l)=>bif decide (d<(f.length:Int))then(ix f d).bind fun a=>(loopN (gM n a) n (([]:List Int),(0:Int))).bind fun(m,p,o)=>(gA n a.f2 a.f3 a.f4 a.f5 a.f6 a.f1 m ([]:List aE) l (a.f1.length:Int)).bind fun b=>(bS n (12:Int) (0:Int) ([]:List UInt8) (0:Int) b.1 b.2.1 b.2.2).bind fun c=>(dF 56 j ([aD.mk a.f0 (a.f1.length:Int) c.2.2 c.1]:List aD)).bind fun g=>some (.inl ((IntKind.wrap .i64 (d+(1:Int))),g,c.2.1))else some (.inr (d,false,j,l))
def jY(n:Nat)(a:List bJ):Option ((List aD)×(List aA)):=
  (loopN (jN n a) n ((0:Int),([]:List aD),([]:List aA))).bind fun(f,d,b,c)=>some (b,c)
theorem BE{n:Nat}:Dc (jY n):=by
 intro C r h; unfold jY at h; refine bF Tryz.func135 rfl rfl<|gco 3 rfl<|xAz [.sl ([].map aJ), .sl ([].map aF)] rfl<|oRs<|wBd [.sl ([].map aJ), .sl ([].map aF)] rfl rfl rfl rfl rfl rfl<|xAz [.sl ([].map aJ), .sl ([].map aF)] rfl<|goc 7 rfl<|cLp h [(4,8),(10,74)] [(3,3),(5,5),(28,28)] (fun(p,t,g)=>([(4,I64 p)],[(3,[.sl (t.map aJ), .sl (g.map aF)])])) (fun(s,j,u,v)=>(.e 0,[(4,I64 s),(14,Bo j)],[(3,[.sl (u.map aJ), .sl (v.map aF)])])) rfl (fun st _ h=> ?_) (fun q h=> ?_)
 obtain⟨p,t,g⟩:=st; unfold jN at h; refine gco 6 rfl<|xLn rfl<|goc 2 rfl<|cIf h rfl (fun B h=> ?_) (fun B h=> ?_)
 refine gco 8 rfl<|xIx h Fq rfl (fun b h=> ?_)
 refine xLd rfl<|xAz [.str [], .sl ([].map fO), .int .i64 0, .int .i64 0, .str [], .sl ([].map aH), .sl ([].map aG)] rfl<|goo 8 rfl<|xLn rfl<|wBd [.sl ([].map aL), .sl (g.map aF), .int .i64 (b.f1.length:Int)] rfl rfl rfl rfl rfl rfl<|goo 5 rfl<|cQ (L:=([]:List Int)) (f:=aR) rfl rfl rfl rfl rfl rfl rfl<|goc 7 rfl<|cLp h [(7,8),(30,40)] [] (fun(l,c)=>([(7,Li aR l),(8,I64 c)],[])) (fun(m,o,d)=>(.e 2,[(7,Li aR m),(8,I64 o),(34,Bo d)],[])) rfl (fun st _ h=> ?_) (fun q h=> ?_)
 obtain⟨l,c⟩:=st; unfold gM at h; refine gco 6 rfl<|xLn rfl<|goc 2 rfl<|cIf h rfl (fun y h=> ?_) (fun y h=> ?_)
 refine gco 6 rfl<|cQ (L:=([c]:List Int)) (f:=aR) rfl rfl rfl rfl rfl rfl rfl<|wAp (f:=aR) h rfl rfl rfl rfl rfl rfl rfl rfl rfl (fun _=>rfl) rfl (fun z h=> ?_)
 exact geo; exact gec; obtain⟨m,o,d⟩:=q; refine gco 8 rfl<|xC1 h (Ey ·) rfl (fun w h=> ?_)
 refine goo 4 rfl<|wBd [.int .i64 12, .int .i64 0, .str [], .int .i64 0] rfl rfl rfl rfl rfl rfl<|xC1 h (cH ·) rfl (fun a h=> ?_)
 refine goo 17 rfl<|xLn rfl<|goo 8 rfl<|wBd [.str b.f0, .int .i64 (b.f1.length:Int), .int .i64 a.2.2, .sl (a.1.map aL)] rfl rfl rfl rfl rfl rfl<|cQ (L:=([aD.mk b.f0 (b.f1.length:Int) a.2.2 a.1]:List aD)) (f:=aJ) rfl rfl rfl rfl rfl rfl rfl<|wAp (f:=aJ) h rfl rfl rfl rfl rfl rfl rfl rfl rfl (fun _=>rfl) rfl (fun A h=> ?_)
 exact geo; exact gec; obtain⟨s,j,u,v⟩:=q; exact gec
abbrev IC(p:(List Int)→Int→Int→Option ((List aD)×(List aA)×(List Int)×Int×Int)):Prop:= ∀ {a:List Int} {b c:Int} {r:(List aD)×(List aA)×(List Int)×Int×Int},p a b c=some r→Big Tryz.prog τ An (.fn 104 [.one (.ptr 1000000 0)] [[.sl (a.map rI_u8), .int .i64 b, .int .i64 c]] (.one (.ag [.sl (r.1.map aJ), .sl (r.2.1.map aF)])) none [[.sl (r.2.2.1.map rI_u8), .int .i64 r.2.2.2.1, .int .i64 r.2.2.2.2]] none)
def nT(n:Nat)(c:List Int)(d:Int)(f:Int):Option ((List aD)×(List aA)×(List Int)×Int×Int):=
  (nW n c d f).bind fun a=>(jY n a.1).bind fun b=>some (b.1,b.2,a.2.1,a.2.2.1,a.2.2.2)
theorem FC{n:Nat}:IC (nT n):=by
 intro c d f r h; unfold nT at h; refine bF Tryz.func104 rfl rfl<|cRs<|xAz [.sl ([].map aJ), .sl ([].map aF)] rfl<|goo 4 rfl<|xC1 h (FF ·) rfl (fun a h=> ?_)
 refine xC0 h (BE ·) rfl (fun b h=> ?_)
 exact geo
abbrev iA:Type:=Int→Int→(List UInt8)→(List aA)→Option (Int×Int×(List UInt8)×(List aA))
abbrev nA(p:iA):Prop:= ∀ {a b:Int} {c:List UInt8} {d:List aA} {r:Int×Int×(List UInt8)×(List aA)},p a b c d=some r→Big Tryz.prog τ An (.fn 166 [.one (.ag [.int .i64 a, .int .i64 b, .str c, .sl (d.map aF)])] [] (.one (.ag [.int .i64 r.1, .int .i64 r.2.1, .str r.2.2.1, .sl (r.2.2.2.map aF)])) none [] none)
def eT(n:Nat)(a:iA)(f:List aA):(Int×Int×Int×(List UInt8)×(List aA))→Option ((Int×Int×Int×(List UInt8)×(List aA))⊕((Int×Bool×Int×Int×(List UInt8)×(List aA))))
  | (d,j,l,m,o)=>bif decide (d<(f.length:Int))then(ix f d).bind fun c=>(a c.f0 c.f1 c.f2 c.f3).bind fun b=>(dF 56 o ([aA.mk b.1 b.2.1 b.2.2.1 b.2.2.2]:List aA)).bind fun g=>some (.inl ((IntKind.wrap .i64 (d+(1:Int))),j,l,m,g))else some (.inr (d,false,j,l,m,o))
def jT(n:Nat)(a:iA)(d:Int)(f:Int)(g:List UInt8)(j:List aA):Option (Int×Int×(List UInt8)×(List aA)):=
  (loopN (eT n a j) n ((0:Int),d,f,g,([]:List aA))).bind fun(p,o,l,m,b,c)=>some (l,m,b,c)
theorem zQ{n:Nat}{b:iA}(c:nA b):nA (jT n b):=by
 intro B C D E r h; unfold jT at h; refine bF Tryz.func166 rfl rfl<|gco 3 rfl<|xAz [.int .i64 0, .int .i64 0, .str [], .sl ([].map aF)] rfl<|goo 4 rfl<|xAz [.int .i64 0, .int .i64 0, .str [], .sl ([].map aF)] rfl<|goo 4 rfl<|cQ (L:=([]:List aA)) (f:=aF) rfl rfl rfl rfl rfl rfl rfl<|goc 8 rfl<|cLp h [(4,4),(8,25)] [(3,3)] (fun(m,p,s,t,u)=>([(4,I64 m)],[(3,[.int .i64 p, .int .i64 s, .str t, .sl (u.map aF)])])) (fun(o,g,v,w,j,l)=>(.e 0,[(4,I64 o),(12,Bo g)],[(3,[.int .i64 v, .int .i64 w, .str j, .sl (l.map aF)])])) rfl (fun st _ h=> ?_) (fun q h=> ?_)
 obtain⟨m,p,s,t,u⟩:=st; unfold eT at h; refine gco 6 rfl<|xLn rfl<|goc 2 rfl<|cIf h rfl (fun z h=> ?_) (fun z h=> ?_)
 refine gco 9 rfl<|xIx h aQ rfl (fun y h=> ?_)
 refine xLd rfl<|xC0 h (c ·) rfl (fun d h=> ?_)
 refine cQ (L:=([aA.mk d.1 d.2.1 d.2.2.1 d.2.2.2]:List aA)) (f:=aF) rfl rfl rfl rfl (by simp only[List.map,dG]<;>rfl) rfl rfl<|wAp (f:=aF) h rfl rfl rfl rfl rfl rfl rfl rfl rfl (fun a=>by rw[aQ]; rfl) rfl (fun A h=> ?_)
 exact geo; exact gec; obtain⟨o,g,v,w,j,l⟩:=q; exact gec
def uY:Nat→(iA)
  | 0=>(fun _ _ _ _=>none)
  | n+1=>jT n (uY n)
def eD(n:Nat):iA:=uY n
theorem zV(n:Nat):nA (eD n):=by
  induction n with
  | zero=>exact(fun h=>nomatch h)
  | succ n ih=>exact zQ (n:=n) ih
theorem BD{n:Nat}:nA (eD n):=(zV n)
theorem xL(n:Nat):eD (n+1)=jT n (eD n):=rfl
abbrev ID(p:(List aD)→(List aA)→Option ((List aD)×(List aA))):Prop:= ∀ {a:List aD} {b:List aA} {r:(List aD)×(List aA)},p a b=some r→Big Tryz.prog τ An (.fn 132 [.one (.ag [.sl (a.map aJ), .sl (b.map aF)])] [] (.one (.ag [.sl (r.1.map aJ), .sl (r.2.map aF)])) none [] none)
def hG(n:Nat)(c:List aD):(Int×(List aD)×(List aA))→Option ((Int×(List aD)×(List aA))⊕((Int×Bool×(List aD)×(List aA))))
  | (b,g,j)=>bif decide (b<(c.length:Int))then(ix c b).bind fun a=>(dF 40 ([]:List aE) a.f3).bind fun d=>(dF 56 g ([aD.mk a.f0 a.f1 a.f2 d]:List aD)).bind fun f=>some (.inl ((IntKind.wrap .i64 (b+(1:Int))),f,j))else some (.inr (b,false,g,j))
def gZ(n:Nat)(g:List aA):(Int×(List aD)×(List aA))→Option ((Int×(List aD)×(List aA))⊕((Int×Bool×(List aD)×(List aA))))
  | (c,d,f)=>bif decide (c<(g.length:Int))then(ix g c).bind fun b=>(eD n b.f0 b.f1 b.f2 b.f3).bind fun a=>(dF 56 f ([aA.mk a.1 a.2.1 a.2.2.1 a.2.2.2]:List aA)).bind fun j=>some (.inl ((IntKind.wrap .i64 (c+(1:Int))),d,j))else some (.inr (c,false,d,f))
def nU(n:Nat)(c:List aD)(d:List aA):Option ((List aD)×(List aA)):=
  (loopN (hG n c) n ((0:Int),([]:List aD),([]:List aA))).bind fun(o,l,f,g)=>(loopN (gZ n d) n ((0:Int),f,g)).bind fun(m,j,a,b)=>some (a,b)
theorem FD{n:Nat}:ID (nU n):=by
 intro H I r h; unfold nU at h; refine bF Tryz.func132 rfl rfl<|gco 3 rfl<|xAz [.sl ([].map aJ), .sl ([].map aF)] rfl<|oRs<|wBd [.sl ([].map aJ), .sl ([].map aF)] rfl rfl rfl rfl rfl rfl<|xAz [.sl ([].map aJ), .sl ([].map aF)] rfl<|goc 7 rfl<|cLp h [(4,5),(8,30)] [(3,3),(5,5)] (fun(u,w,y)=>([(4,I64 u)],[(3,[.sl (w.map aJ), .sl (y.map aF)])])) (fun(v,g,z,A)=>(.e 0,[(4,I64 v),(12,Bo g)],[(3,[.sl (z.map aJ), .sl (A.map aF)])])) rfl (fun st _ h=> ?_) (fun q h=> ?_)
 obtain⟨u,w,y⟩:=st; unfold hG at h; refine gco 6 rfl<|xLn rfl<|goc 2 rfl<|cIf h rfl (fun G h=> ?_) (fun G h=> ?_)
 refine gco 8 rfl<|xIx h dI rfl (fun c h=> ?_)
 refine xLd rfl<|xAz [.str [], .int .i64 0, .int .i64 0, .sl ([].map aL)] rfl<|goo 4 rfl<|cQ (L:=([]:List aE)) (f:=aL) rfl rfl rfl rfl rfl rfl rfl<|goo 2 rfl<|wAp (f:=aL) h rfl rfl rfl rfl rfl rfl rfl rfl rfl (fun _=>rfl) rfl (fun t h=> ?_)
 refine goo 7 rfl<|cQ (L:=([aD.mk c.f0 c.f1 c.f2 t]:List aD)) (f:=aJ) rfl rfl rfl rfl rfl rfl rfl<|wAp (f:=aJ) h rfl rfl rfl rfl rfl rfl rfl rfl rfl (fun _=>rfl) rfl (fun D h=> ?_)
 exact geo; exact gec; obtain⟨v,g,z,A⟩:=q; refine gcc 5 rfl<|cLp h [(6,6),(31,48)] [(3,3)] (fun(j,m,o)=>([(6,I64 j)],[(3,[.sl (m.map aJ), .sl (o.map aF)])])) (fun(l,d,p,s)=>(.e 2,[(6,I64 l),(35,Bo d)],[(3,[.sl (p.map aJ), .sl (s.map aF)])])) rfl (fun st _ h=> ?_) (fun q h=> ?_)
 obtain⟨j,m,o⟩:=st; unfold gZ at h; refine gco 6 rfl<|xLn rfl<|goc 2 rfl<|cIf h rfl (fun C h=> ?_) (fun C h=> ?_)
 refine gco 9 rfl<|xIx h aQ rfl (fun B h=> ?_)
 refine xLd rfl<|xC0 h (BD ·) rfl (fun b h=> ?_)
 refine cQ (L:=([aA.mk b.1 b.2.1 b.2.2.1 b.2.2.2]:List aA)) (f:=aF) rfl rfl rfl rfl (by simp only[List.map,dG]<;>rfl) rfl rfl<|wAp (f:=aF) h rfl rfl rfl rfl rfl rfl rfl rfl rfl (fun a=>by rw[aQ]; rfl) rfl (fun E h=> ?_)
 exact geo; exact gec; obtain⟨l,d,p,s⟩:=q; exact gec
abbrev IG(p:(List aD)→(List aA)→(List Int)→Int→Int→Option ((List aD)×(List aA)×(List Int)×Int×Int)):Prop:= ∀ {d:List aD} {f:List aA} {a:List Int} {b c:Int} {r:(List aD)×(List aA)×(List Int)×Int×Int},p d f a b c=some r→Big Tryz.prog τ An (.fn 105 [.one (.ptr 1000000 0), .one (.ag [.sl (d.map aJ), .sl (f.map aF)])] [[.sl (a.map rI_u8), .int .i64 b, .int .i64 c]] (.one (.ag [.sl (r.1.map aJ), .sl (r.2.1.map aF)])) none [[.sl (r.2.2.1.map rI_u8), .int .i64 r.2.2.2.1, .int .i64 r.2.2.2.2]] none)
def nV(n:Nat)(L:List aD)(M:List aA)(y:List Int)(z:Int)(A:Int):Option ((List aD)×(List aA)×(List Int)×Int×Int):=
  (nU n L M).bind fun c=>bif decide ((c.1.length:Int)=(0:Int))then some (c.1,c.2,y,z,A)else(aM n (c.1.length:Int) y z A).bind fun d=>(ix c.1 d.1).bind fun b=>bif decide ((b.f3.length:Int)=(0:Int))then some (c.1,c.2,d.2.1,d.2.2.1,d.2.2.2)else(aM n (b.f3.length:Int) d.2.1 d.2.2.1 d.2.2.2).bind fun f=>(aM n (9:Int) f.2.1 f.2.2.1 f.2.2.2).bind fun a=>bif decide (a.1=(0:Int))then(aM n (14:Int) a.2.1 a.2.2.1 a.2.2.2).bind fun t=>(ix b.f3 f.1).bind fun u=>(some (c.1.set (Int.toNat d.1) (aD.mk b.f0 b.f1 b.f2 (b.f3.set (Int.toNat f.1) (aE.mk t.1 u.f1 u.f2 u.f3))))).bind fun C=>some (C,c.2,t.2.1,t.2.2.1,t.2.2.2)else bif decide (a.1=(1:Int))then(cX n ([((-1):Int),(0:Int),(1:Int),(7:Int),(500:Int)]:List Int) a.2.1 a.2.2.1 a.2.2.2).bind fun o=>(ix b.f3 f.1).bind fun v=>(some (c.1.set (Int.toNat d.1) (aD.mk b.f0 b.f1 b.f2 (b.f3.set (Int.toNat f.1) (aE.mk v.f0 o.1 v.f2 v.f3))))).bind fun D=>some (D,c.2,o.2.1,o.2.2.1,o.2.2.2)else bif decide (a.1=(2:Int))then(cX n ([(0:Int),f.1,(IntKind.wrap .i64 (f.1+(1:Int))),(b.f3.length:Int)]:List Int) a.2.1 a.2.2.1 a.2.2.2).bind fun p=>(ix b.f3 f.1).bind fun w=>(some (c.1.set (Int.toNat d.1) (aD.mk b.f0 b.f1 b.f2 (b.f3.set (Int.toNat f.1) (aE.mk w.f0 w.f1 w.f2 p.1))))).bind fun E=>some (E,c.2,p.2.1,p.2.2.1,p.2.2.2)else bif decide (a.1=(3:Int))then(sub b.f3 none (some f.1)).bind fun B=>(some (c.1.set (Int.toNat d.1) (aD.mk b.f0 b.f1 b.f2 B))).bind fun G=>some (G,c.2,a.2.1,a.2.2.1,a.2.2.2)else bif decide (a.1=(4:Int))then(bN n ([([102]:List UInt8),([99,97,115,101]:List UInt8),([65]:List UInt8),([122]:List UInt8)]:List (List UInt8)) a.2.1 a.2.2.1 a.2.2.2).bind fun s=>(some (c.1.set (Int.toNat d.1) (aD.mk s.1 b.f1 b.f2 b.f3))).bind fun H=>some (H,c.2,s.2.1,s.2.2.1,s.2.2.2)else bif decide (a.1=(5:Int))then(cX n ([(0:Int),(400:Int),(401:Int)]:List Int) a.2.1 a.2.2.1 a.2.2.2).bind fun g=>(some (c.1.set (Int.toNat d.1) (aD.mk b.f0 b.f1 g.1 b.f3))).bind fun I=>some (I,c.2,g.2.1,g.2.2.1,g.2.2.2)else bif decide (a.1=(6:Int))then(cX n ([((-1):Int),(0:Int),(2:Int),(5:Int)]:List Int) a.2.1 a.2.2.1 a.2.2.2).bind fun j=>(some (c.1.set (Int.toNat d.1) (aD.mk b.f0 j.1 b.f2 b.f3))).bind fun J=>some (J,c.2,j.2.1,j.2.2.1,j.2.2.2)else bif decide (a.1=(7:Int))then bif decide ((0:Int)<(c.2.length:Int))then(aM n (8:Int) a.2.1 a.2.2.1 a.2.2.2).bind fun l=>(cX n ([((-1):Int),(0:Int),(50:Int)]:List Int) l.2.1 l.2.2.1 l.2.2.2).bind fun m=>(ix c.2 (0:Int)).bind fun N=>(some (c.2.set (Int.toNat (0:Int)) (aA.mk l.1 m.1 ([]:List UInt8) ([]:List aA)))).bind fun K=>some (c.1,K,m.2.1,m.2.2.1,m.2.2.2)else some (c.1,c.2,a.2.1,a.2.2.1,a.2.2.2)else some (c.1,c.2,a.2.1,a.2.2.1,a.2.2.2)
theorem FE{n:Nat}:IG (nV n):=by
 intro a3 a4 X Y Z r h; unfold nV at h; refine bF Tryz.func105 rfl rfl<|gco 3 rfl<|xAz [.sl ([].map aJ), .sl ([].map aF)] rfl<|goo 4 rfl<|xC0 h (FD ·) rfl (fun W h=> ?_)
 refine goo 7 rfl<|xLn rfl<|goc 2 rfl<|cIf h rfl (fun q2 h=> ?_) (fun q2 h=> ?_)
 exact gec; refine gco 4 rfl<|wLa rfl rfl rfl rfl rfl rfl rfl<|goo 3 rfl<|xLn rfl<|xC1 h (aO ·) rfl (fun I h=> ?_)
 refine wIp (f:=aJ) h rfl rfl rfl rfl rfl rfl (fun _=>rfl) rfl (fun b ke21_4 h=> ?_)
 refine goo 8 rfl<|wLp (f:=aJ) ke21_4 rfl rfl rfl rfl rfl rfl rfl rfl rfl rfl<|xLn rfl<|goc 2 rfl<|cIf h rfl (fun q5 h=> ?_) (fun q5 h=> ?_)
 exact gec; refine gco 7 rfl<|wLp (f:=aJ) ke21_4 rfl rfl rfl rfl rfl rfl rfl rfl rfl rfl<|xLn rfl<|xC1 h (aO ·) rfl (fun j h=> ?_)
 refine goo 6 rfl<|xC1 h (aO ·) rfl (fun J h=> ?_)
 refine goc 7 rfl<|cIf h rfl (fun q8 h=> ?_) (fun q8 h=> ?_)
 refine gco 4 rfl<|wLq (f:=aJ) ke21_4 rfl rfl rfl rfl rfl rfl rfl rfl rfl rfl<|goo 2 rfl<|xC1 h (aO ·) rfl (fun s h=> ?_)
 refine wIpP (f:=aL) h (Tj (f:=aJ) ke21_4 rfl) rfl rfl rfl rfl rfl rfl (fun _=>rfl) rfl (fun c ke47_10 h=> ?_)
 refine xFd rfl<|wSpP (f:=aL) (rf:=aJ) (v':=aE.mk s.1 c.f1 c.f2 c.f3) h ke47_10 (Tj (f:=aJ) ke21_4 rfl) (OM (f:=aJ) (a':=aD.mk b.f0 b.f1 b.f2 (b.f3.set (Int.toNat j.1) (aE.mk s.1 c.f1 c.f2 c.f3))) ke21_4 rfl rfl) rfl rfl rfl rfl rfl rfl rfl rfl rfl (fun K h=> ?_)
 exact geo; refine gcc 5 rfl<|cIf h rfl (fun z h=> ?_) (fun z h=> ?_)
 refine gco 4 rfl<|wLq (f:=aJ) ke21_4 rfl rfl rfl rfl rfl rfl rfl rfl rfl rfl<|goo 2 rfl<|cQ (L:=([((-1):Int),(0:Int),(1:Int),(7:Int),(500:Int)]:List Int)) (f:=aR) rfl rfl rfl rfl rfl rfl rfl<|xC1 h (dU ·) rfl (fun o h=> ?_)
 refine wIpP (f:=aL) h (Tj (f:=aJ) ke21_4 rfl) rfl rfl rfl rfl rfl rfl (fun _=>rfl) rfl (fun d ke59_14 h=> ?_)
 refine xFd rfl<|wSpP (f:=aL) (rf:=aJ) (v':=aE.mk d.f0 o.1 d.f2 d.f3) h ke59_14 (Tj (f:=aJ) ke21_4 rfl) (OM (f:=aJ) (a':=aD.mk b.f0 b.f1 b.f2 (b.f3.set (Int.toNat j.1) (aE.mk d.f0 o.1 d.f2 d.f3))) ke21_4 rfl rfl) rfl rfl rfl rfl rfl rfl rfl rfl rfl (fun M h=> ?_)
 exact geo; refine gcc 5 rfl<|cIf h rfl (fun A h=> ?_) (fun A h=> ?_)
 refine gco 4 rfl<|wLq (f:=aJ) ke21_4 rfl rfl rfl rfl rfl rfl rfl rfl rfl rfl<|goo 8 rfl<|wLp (f:=aJ) ke21_4 rfl rfl rfl rfl rfl rfl rfl rfl rfl rfl<|xLn rfl<|cQ (L:=([(0:Int),j.1,(IntKind.wrap .i64 (j.1+(1:Int))),(b.f3.length:Int)]:List Int)) (f:=aR) rfl rfl rfl rfl rfl rfl rfl<|xC1 h (dU ·) rfl (fun p h=> ?_)
 refine wIpP (f:=aL) h (Tj (f:=aJ) ke21_4 rfl) rfl rfl rfl rfl rfl rfl (fun _=>rfl) rfl (fun g ke79_18 h=> ?_)
 refine xFd rfl<|wSpP (f:=aL) (rf:=aJ) (v':=aE.mk g.f0 g.f1 g.f2 p.1) h ke79_18 (Tj (f:=aJ) ke21_4 rfl) (OM (f:=aJ) (a':=aD.mk b.f0 b.f1 b.f2 (b.f3.set (Int.toNat j.1) (aE.mk g.f0 g.f1 g.f2 p.1))) ke21_4 rfl rfl) rfl rfl rfl rfl rfl rfl rfl rfl rfl (fun N h=> ?_)
 exact geo; refine gcc 5 rfl<|cIf h rfl (fun B h=> ?_) (fun B h=> ?_)
 refine gco 5 rfl<|wLtk (f:=aJ) ke21_4 rfl rfl rfl rfl rfl rfl rfl rfl rfl rfl rfl rfl<|xMv rfl<|wSl (rf:=aL) h rfl rfl rfl rfl .no (.so rfl) (fun _=>rfl) rfl (fun w h=> ?_)
 refine goo 2 rfl<|wStH (f:=aJ) (v':=aD.mk b.f0 b.f1 b.f2 w) h ke21_4 rfl rfl rfl rfl rfl rfl rfl rfl rfl (fun Q h=> ?_)
 exact geo; refine gcc 5 rfl<|cIf h rfl (fun C h=> ?_) (fun C h=> ?_)
 refine gco 3 rfl<|cQ (L:=([([102]:List UInt8),([99,97,115,101]:List UInt8),([65]:List UInt8),([122]:List UInt8)]:List (List UInt8))) (f:=fO) rfl rfl rfl rfl rfl rfl rfl<|xC1 h (cO ·) rfl (fun v h=> ?_)
 refine goo 2 rfl<|Lv (f:=aJ) (v':=aD.mk v.1 b.f1 b.f2 b.f3) h ke21_4 rfl rfl rfl rfl rfl rfl rfl rfl rfl (fun R h=> ?_)
 exact geo; refine gcc 5 rfl<|cIf h rfl (fun D h=> ?_) (fun D h=> ?_)
 refine gco 3 rfl<|cQ (L:=([(0:Int),(400:Int),(401:Int)]:List Int)) (f:=aR) rfl rfl rfl rfl rfl rfl rfl<|xC1 h (dU ·) rfl (fun t h=> ?_)
 refine goo 2 rfl<|Lv (f:=aJ) (v':=aD.mk b.f0 b.f1 t.1 b.f3) h ke21_4 rfl rfl rfl rfl rfl rfl rfl rfl rfl (fun T h=> ?_)
 exact geo; refine gcc 5 rfl<|cIf h rfl (fun E h=> ?_) (fun E h=> ?_)
 refine gco 3 rfl<|cQ (L:=([((-1):Int),(0:Int),(2:Int),(5:Int)]:List Int)) (f:=aR) rfl rfl rfl rfl rfl rfl rfl<|xC1 h (dU ·) rfl (fun u h=> ?_)
 refine goo 2 rfl<|Lv (f:=aJ) (v':=aD.mk b.f0 u.1 b.f2 b.f3) h ke21_4 rfl rfl rfl rfl rfl rfl rfl rfl rfl (fun U h=> ?_)
 exact geo; refine gcc 5 rfl<|cIf h rfl (fun G h=> ?_) (fun G h=> ?_)
 refine gco 4 rfl<|xLn rfl<|goc 2 rfl<|cIf h rfl (fun H h=> ?_) (fun H h=> ?_)
 refine gco 2 rfl<|wLa rfl rfl rfl rfl rfl rfl rfl<|xMv rfl<|xC1 h (aO ·) rfl (fun l h=> ?_)
 refine xMv rfl<|cQ (L:=([((-1):Int),(0:Int),(50:Int)]:List Int)) (f:=aR) rfl rfl rfl rfl rfl rfl rfl<|xC1 h (dU ·) rfl (fun m h=> ?_)
 refine wBd [.int .i64 l.1, .int .i64 m.1, .str [], .sl ([].map aF)] rfl rfl rfl rfl rfl rfl<|wIp (f:=aF) h rfl rfl rfl rfl rfl rfl (fun a=>by rw[aQ]; rfl) rfl (fun y ke130_36 h=> ?_)
 refine Lv (f:=aF) (v':=aA.mk l.1 m.1 ([]:List UInt8) ([]:List aA)) h ke130_36 rfl rfl rfl rfl rfl rfl rfl (by rw[aQ]; rfl) (by rw[aQ,dG]; rfl) (fun V h=> ?_)
 exact geo; exact gec; exact gec
abbrev KH(p:(List Int)→Int→Int→Option ((List aD)×(List aA)×(List Int)×Int×Int)):Prop:= ∀ {a:List Int} {b c:Int} {r:(List aD)×(List aA)×(List Int)×Int×Int},p a b c=some r→Big Tryz.prog τ An (.fn 53 [.one (.ptr 1000000 0)] [[.sl (a.map rI_u8), .int .i64 b, .int .i64 c]] (.one (.ag [.sl (r.1.map aJ), .sl (r.2.1.map aF)])) none [[.sl (r.2.2.1.map rI_u8), .int .i64 r.2.2.2.1, .int .i64 r.2.2.2.2]] none)
def pQ(n:Nat)(d:List Int)(f:Int)(g:Int):Option ((List aD)×(List aA)×(List Int)×Int×Int):=
  (nT n d f g).bind fun a=>(jI n (4:Int) a.2.2.1 a.2.2.2.1 a.2.2.2.2).bind fun b=>bif b.1 then(nV n a.1 a.2.1 b.2.1 b.2.2.1 b.2.2.2).bind fun c=>some (c.1,c.2.1,c.2.2.1,c.2.2.2.1,c.2.2.2.2)else some (a.1,a.2.1,b.2.1,b.2.2.1,b.2.2.2)
theorem Fv{n:Nat}:KH (pQ n):=by
 intro d f g r h; unfold pQ at h; refine bF Tryz.func53 rfl rfl<|cRs<|xAz [.sl ([].map aJ), .sl ([].map aF)] rfl<|goo 4 rfl<|xC1 h (FC ·) rfl (fun b h=> ?_)
 refine xAz [.sl ([].map aJ), .sl ([].map aF)] rfl<|goo 6 rfl<|xC1 h (rW ·) rfl (fun c h=> ?_)
 refine oNl<|cIf h rfl (fun j h=> ?_) (fun j h=> ?_)
 refine gco 3 rfl<|xC1 h (FE ·) rfl (fun a h=> ?_)
 exact geo; exact gec
abbrev BI(p:(List Int)→Option ((List aD)×(List aA))):Prop:= ∀ {a:List Int} {r:(List aD)×(List aA)},p a=some r→Big Tryz.prog τ An (.fn 19 [.one (.c (.sl (a.map rI_u8)))] [] (.one (.ag [.sl (r.1.map aJ), .sl (r.2.map aF)])) none [] none)
def iH(n:Nat)(c:List Int):Option ((List aD)×(List aA)):=
  (pR n c).bind fun a=>(pQ n a.1 a.2.1 a.2.2).bind fun b=>some (b.1,b.2.1)
theorem yI{n:Nat}:BI (iH n):=by
 intro c r h; unfold iH at h; refine bF Tryz.func19 rfl rfl<|cRs<|xAz [.sl ([].map aJ), .sl ([].map aF)] rfl<|goo 4 rfl<|wCn h (fun _=>(Fw ·)) rfl rfl rfl rfl rfl rfl rfl (fun _=>rfl) (fun a h=> ?_)
 refine goo 5 rfl<|xC1 h (Fv ·) rfl (fun b h=> ?_)
 exact geo
abbrev IS(p:(List UInt8)→Int→Int→(List aE)→(List UInt8)→Option (Bool×(List UInt8))):Prop:= ∀ {b:List UInt8} {d f:Int} {g:List aE} {a:List UInt8} {r:Bool×(List UInt8)},p b d f g a=some r→Big Tryz.prog τ An (.fn 115 [.one (.ag [.str b, .int .i64 d, .int .i64 f, .sl (g.map aL)]), .one (.ptr 1000000 0)] [[.str a]] (.one (.c (.bool r.1))) none [[.str r.2]] none)
def qT(n:Nat)(b:List UInt8)(c:Int)(d:Int)(f:List aE)(a:List UInt8):Option (Bool×(List UInt8)):=
  some ((decide (b=a)),a)
theorem FN{n:Nat}:IS (qT n):=by
 intro b c d f a r h; unfold qT at h; exact bF Tryz.func115 rfl rfl<|gec
abbrev uW(p:(List aD)→(List UInt8)→Option (Int×(List UInt8))):Prop:= ∀ {b:List aD} {a:List UInt8} {r:Int×(List UInt8)},p b a=some r→Big Tryz.prog τ An (.fn 114 [.one (.c (.sl (b.map aJ))), .one (.fn 115 [(1000000,0)])] [[.str a]] (.one (.c (.int .i64 r.1))) none [[.str r.2]] none)
def cD(n:Nat)(f:List aD):(Int×(List UInt8))→Option ((Int×(List UInt8))⊕((Int×(List UInt8))⊕(Int×Bool×(List UInt8))))
  | (d,a)=>bif decide (d<(f.length:Int))then(ix f d).bind fun b=>(qT n b.f0 b.f1 b.f2 b.f3 a).bind fun c=>bif c.1 then some (.inr (.inl (d,c.2)))else some (.inl ((IntKind.wrap .i64 (d+(1:Int))),c.2))else some (.inr (.inr (d,false,a)))
def gI(n:Nat)(d:List aD)(c:List UInt8):Option (Int×(List UInt8)):=
  (loopN (cD n d) n ((0:Int),c)).bind fun q=>(match q with | .inl (f,a)=>some (f,a) | .inr (g,j,b)=>some (((-1):Int),b))
theorem tI{n:Nat}:uW (gI n):=by
 intro t p r h; unfold gI at h; refine bF Tryz.func114 rfl rfl<|gco 8 rfl<|xLn rfl<|goc 2 rfl<|cLp h [(4,5),(8,18)] [(1000000,1000000)] (fun(f,a)=>([(8,I64 f)],[(1000000,[.str a])])) (fun q=>match q with | .inl (d,b)=>(.r,[(4,I64 d)],[(1000000,[.str b])]) | .inr (g,j,c)=>(.e 0,[(8,I64 g),(9,Bo j)],[(1000000,[.str c])])) rfl (fun st _ h=> ?_) (fun q h=> ?_)
 obtain⟨f,a⟩:=st; unfold cD at h; refine gcc 5 rfl<|cIf h rfl (fun s h=> ?_) (fun s h=> ?_)
 refine gco 13 rfl<|xIx h dI rfl (fun o h=> ?_)
 refine xLd rfl<|xC1 h (FN ·) rfl (fun l h=> ?_)
 refine oNl<|cIf h rfl (fun m h=> ?_) (fun m h=> ?_)
 exact gec; exact gec; exact gec; rcases q with⟨d,b⟩ | ⟨g,j,c⟩; exact en; exact gec
abbrev Lt(p:(List UInt8)→(List aD)→(List aA)→Option (Int×(List aD)×(List aA))):Prop:= ∀ {d:List UInt8} {a:List aD} {b:List aA} {r:Int×(List aD)×(List aA)},p d a b=some r→Big Tryz.prog τ An (.fn 72 [.one (.ptr 1000000 0), .one (.c (.str d))] [[.sl (a.map aJ), .sl (b.map aF)]] (.one (.c (.int .i64 r.1))) none [[.sl (r.2.1.map aJ), .sl (r.2.2.map aF)]] none)
def oY(n:Nat)(d:List UInt8)(a:List aD)(c:List aA):Option (Int×(List aD)×(List aA)):=
  (gI n a d).bind fun b=>some (b.1,a,c)
theorem Ao{n:Nat}:Lt (oY n):=by
 intro d b c r h; unfold oY at h; refine bF Tryz.func72 rfl rfl<|gco 11 rfl<|wFn rfl rfl rfl<|xC1 h (tI ·) rfl (fun a h=> ?_)
 exact geo
abbrev GT(p:Int→Int→Int→Option (Bool)):Prop:= ∀ {a b d:Int} {r:Bool},p a b d=some r→Big Tryz.prog τ An (.fn 37 [.one (.c (.int .i64 a)), .one (.c (.int .i64 b)), .one (.c (.int .i64 d))] [] (.one (.c (.bool r))) none [] none)
def aS(n:Nat)(a:Int)(b:Int)(c:Int):Option (Bool):=
  (bif decide (b≤a)then some (decide (a≤c))else some false).bind fun d=>some d
theorem aU{n:Nat}:GT (aS n):=by
 intro c d f r h; unfold aS at h; refine bF Tryz.func37 rfl rfl<|gco 6 rfl<|oJn h [(6,14)] [] (fun a=>(.n,[(6,Bo a)],[])) (fun _ h=> ?_) (fun a h=> ?_)
 refine goo 4 rfl<|oIf 10 h rfl (fun b h=> ?_) (fun b h=> ?_)
 exact geo; exact geo; exact gec
abbrev GR(p:Int→Option (Bool)):Prop:= ∀ {a:Int} {r:Bool},p a=some r→Big Tryz.prog τ An (.fn 102 [.one (.c (.int .u8 a))] [] (.one (.c (.bool r))) none [] none)
def iM(n:Nat)(a:Int):Option (Bool):=
  (bif decide ((97:Int)≤a)then some (decide (a≤(122:Int)))else some false).bind fun b=>some b
theorem vJ{n:Nat}:GR (iM n):=by
 intro c r h; unfold iM at h; refine bF Tryz.func102 rfl rfl<|gco 6 rfl<|oJn h [(2,8)] [] (fun a=>(.n,[(2,Bo a)],[])) (fun _ h=> ?_) (fun a h=> ?_)
 refine goo 3 rfl<|oIf 5 h rfl (fun b h=> ?_) (fun b h=> ?_)
 exact geo; exact geo; exact gec
abbrev FW(p:Int→Option (Bool)):Prop:= ∀ {a:Int} {r:Bool},p a=some r→Big Tryz.prog τ An (.fn 103 [.one (.c (.int .u8 a))] [] (.one (.c (.bool r))) none [] none)
def gL(n:Nat)(a:Int):Option (Bool):=
  (bif decide ((48:Int)≤a)then some (decide (a≤(57:Int)))else some false).bind fun b=>some b
theorem uI{n:Nat}:FW (gL n):=by
 intro c r h; unfold gL at h; refine bF Tryz.func103 rfl rfl<|gco 6 rfl<|oJn h [(2,8)] [] (fun a=>(.n,[(2,Bo a)],[])) (fun _ h=> ?_) (fun a h=> ?_)
 refine goo 3 rfl<|oIf 5 h rfl (fun b h=> ?_) (fun b h=> ?_)
 exact geo; exact geo; exact gec
abbrev IV(p:(List UInt8)→Option (Bool)):Prop:= ∀ {a:List UInt8} {r:Bool},p a=some r→Big Tryz.prog τ An (.fn 52 [.one (.c (.str a))] [] (.one (.c (.bool r))) none [] none)
def mY(n:Nat)(b:List UInt8):(Int)→Option ((Int)⊕((Bool)⊕(Int×Bool)))
  | a=>bif decide (a<(b.length:Int))then((ixs b a).bind fun j=>(iM n j).bind fun g=>bif !g then bif decide (a=(0:Int))then some true else(ixs b a).bind fun d=>(gL n d).bind fun c=>bif !c then(ixs b a).bind fun f=>some (!decide (f=(95:Int)))else some false else some false).bind fun l=>bif l then some (.inr (.inl false))else some (.inl (IntKind.wrap .i64 (a+(1:Int))))else some (.inr (.inr (a,false)))
def nZ(n:Nat)(b:List UInt8):Option (Bool):=
  (loopN (mY n b) n (0:Int)).bind fun q=>(match q with | .inl c=>some c | .inr (d,f)=>(aS n (b.length:Int) (1:Int) (20:Int)).bind fun a=>some a)
theorem FO{n:Nat}:IV (nZ n):=by
 intro y r h; unfold nZ at h; refine bF Tryz.func52 rfl rfl<|gcc 9 rfl<|cLp h [(2,31)] [] (fun c=>([(3,I64 c)],[])) (fun q=>match q with | .inl b=>(.r,[(2,Bo b)],[]) | .inr (d,f)=>(.e 0,[(3,I64 d),(7,Bo f)],[])) rfl (fun c _ h=> ?_) (fun q h=> ?_)
 unfold mY at h; refine gco 5 rfl<|xLs rfl<|goc 2 rfl<|cIf h rfl (fun v h=> ?_) (fun v h=> ?_)
 refine gco 5 rfl<|oJn h [(10,31)] [] (fun a=>(.n,[(31,Bo a)],[])) (fun _ h=> ?_) (fun a h=> ?_)
 refine goo 2 rfl<|Ny h rfl rfl rfl rfl rfl (fun u h=> ?_)
 refine xC0 h (vJ ·) rfl (fun t h=> ?_)
 refine goo 2 rfl<|oIf 15 h rfl (fun w h=> ?_) (fun w h=> ?_)
 refine goo 3 rfl<|oIf 18 h rfl (fun o h=> ?_) (fun o h=> ?_)
 exact geo; refine goo 2 rfl<|Ny h rfl rfl rfl rfl rfl (fun l h=> ?_)
 refine xC0 h (uI ·) rfl (fun g h=> ?_)
 refine goo 2 rfl<|oIf 24 h rfl (fun p h=> ?_) (fun p h=> ?_)
 refine goo 2 rfl<|Ny h rfl rfl rfl rfl rfl (fun m h=> ?_)
 exact geo; exact geo; exact geo; refine cIf h rfl (fun s h=> ?_) (fun s h=> ?_)
 exact gec; exact gec; exact gec; rcases q with b | ⟨d,f⟩; exact en; refine gco 3 rfl<|xLs rfl<|xC0 h (aU ·) rfl (fun j h=> ?_)
 exact geo
abbrev GM(p:(List UInt8)→Option (Bool)):Prop:= ∀ {a:List UInt8} {r:Bool},p a=some r→Big Tryz.prog τ An (.fn 31 [.one (.c (.str a))] [] (.one (.c (.bool r))) none [] none)
def fD(n:Nat)(a:List UInt8):Option (Bool):=
  ((nZ n a).bind fun b=>bif b then bif !decide (a=([99,97,115,101]:List UInt8))then bif !decide (a=([111,102]:List UInt8))then some (!decide (a=([101,110,100]:List UInt8)))else some false else some false else some false).bind fun c=>some c
theorem mZ{n:Nat}:GM (fD n):=by
 intro g r h; unfold fD at h; refine bF Tryz.func31 rfl rfl<|gco 6 rfl<|oJn h [(2,16)] [] (fun a=>(.n,[(2,Bo a)],[])) (fun _ h=> ?_) (fun a h=> ?_)
 refine xMv rfl<|xC0 h (FO ·) rfl (fun b h=> ?_)
 refine xMv rfl<|oIf 5 h rfl (fun c h=> ?_) (fun c h=> ?_)
 refine goo 4 rfl<|oIf 9 h rfl (fun d h=> ?_) (fun d h=> ?_)
 refine goo 4 rfl<|oIf 13 h rfl (fun f h=> ?_) (fun f h=> ?_)
 exact geo; exact geo; exact geo; exact geo; exact gec
abbrev AB(p:(List Int)→Int→Option (Int)):Prop:= ∀ {a:List Int} {b:Int} {r:Int},p a b=some r→Big Tryz.prog τ An (.fn 197 [.one (.c (.sl (a.map aR))), .one (.c (.int .i64 b))] [] (.one (.c (.int .i64 r))) none [] none)
def eH(n:Nat)(b:List Int)(d:Int):(Int)→Option ((Int)⊕((Int)⊕(Int×Bool)))
  | a=>bif decide (a<(b.length:Int))then(ix b a).bind fun c=>bif decide (d=c)then some (.inr (.inl a))else some (.inl (IntKind.wrap .i64 (a+(1:Int))))else some (.inr (.inr (a,false)))
def gO(n:Nat)(a:List Int)(b:Int):Option (Int):=
  (loopN (eH n a b) n (0:Int)).bind fun q=>(match q with | .inl c=>some c | .inr (d,f)=>some ((-1):Int))
theorem xO{n:Nat}:AB (gO n):=by
 intro l m r h; unfold gO at h; refine bF Tryz.func197 rfl rfl<|gco 8 rfl<|xLn rfl<|goc 2 rfl<|cLp h [(4,5),(8,18)] [] (fun b=>([(8,I64 b)],[])) (fun q=>match q with | .inl a=>(.r,[(4,I64 a)],[]) | .inr (c,d)=>(.e 0,[(8,I64 c),(9,Bo d)],[])) rfl (fun b _ h=> ?_) (fun q h=> ?_)
 unfold eH at h; refine gcc 5 rfl<|cIf h rfl (fun g h=> ?_) (fun g h=> ?_)
 refine gco 13 rfl<|xIx h gW rfl (fun f h=> ?_)
 refine goc 3 rfl<|cIf h rfl (fun j h=> ?_) (fun j h=> ?_)
 exact gec; exact gec; exact gec; rcases q with a | ⟨c,d⟩; exact en; exact gec
abbrev vS(p:(List Int)→Int→Option (Bool)):Prop:= ∀ {a:List Int} {b:Int} {r:Bool},p a b=some r→Big Tryz.prog τ An (.fn 173 [.one (.c (.sl (a.map aR))), .one (.c (.int .i64 b))] [] (.one (.c (.bool r))) none [] none)
def eK(n:Nat)(b:List Int)(c:Int):Option (Bool):=
  (gO n b c).bind fun a=>some (decide ((0:Int)≤a))
theorem uN{n:Nat}:vS (eK n):=by
 intro b c r h; unfold eK at h; refine bF Tryz.func173 rfl rfl<|gco 8 rfl<|xC0 h (xO ·) rfl (fun a h=> ?_)
 exact geo
abbrev GS(p:Int→Option (Bool)):Prop:= ∀ {a:Int} {r:Bool},p a=some r→Big Tryz.prog τ An (.fn 157 [.one (.c (.int .u8 a))] [] (.one (.c (.bool r))) none [] none)
def kH(n:Nat)(a:Int):Option (Bool):=
  (bif decide ((65:Int)≤a)then bif decide (a≤(90:Int))then some true else some (decide (a=(95:Int)))else some (decide (a=(95:Int)))).bind fun b=>some b
theorem vK{n:Nat}:GS (kH n):=by
 intro d r h; unfold kH at h; refine bF Tryz.func157 rfl rfl<|gco 6 rfl<|oJn h [(2,12)] [] (fun a=>(.n,[(2,Bo a)],[])) (fun _ h=> ?_) (fun a h=> ?_)
 refine goo 3 rfl<|oIf 5 h rfl (fun b h=> ?_) (fun b h=> ?_)
 refine goo 4 rfl<|oIf 9 h rfl (fun c h=> ?_) (fun c h=> ?_)
 exact geo; exact geo; exact geo; exact gec
abbrev Bz(p:Int→Option (Bool)):Prop:= ∀ {a:Int} {r:Bool},p a=some r→Big Tryz.prog τ An (.fn 156 [.one (.c (.int .u8 a))] [] (.one (.c (.bool r))) none [] none)
def jA(n:Nat)(a:Int):Option (Bool):=
  ((iM n a).bind fun c=>bif c then some true else(kH n a).bind fun d=>bif d then some true else(gL n a).bind fun b=>some b).bind fun f=>some f
theorem zY{n:Nat}:Bz (jA n):=by
 intro j r h; unfold jA at h; refine bF Tryz.func156 rfl rfl<|gco 6 rfl<|oJn h [(2,12)] [] (fun a=>(.n,[(2,Bo a)],[])) (fun _ h=> ?_) (fun a h=> ?_)
 refine xMv rfl<|xC0 h (vJ ·) rfl (fun c h=> ?_)
 refine xMv rfl<|oIf 5 h rfl (fun f h=> ?_) (fun f h=> ?_)
 exact geo; refine xMv rfl<|xC0 h (vK ·) rfl (fun d h=> ?_)
 refine goo 2 rfl<|oIf 9 h rfl (fun g h=> ?_) (fun g h=> ?_)
 exact geo; refine xMv rfl<|xC0 h (uI ·) rfl (fun b h=> ?_)
 exact geo; exact gec
abbrev KN(p:(List UInt8)→Option (Bool)):Prop:= ∀ {a:List UInt8} {r:Bool},p a=some r→Big Tryz.prog τ An (.fn 122 [.one (.c (.str a))] [] (.one (.c (.bool r))) none [] none)
def oH(n:Nat)(b:List UInt8):(Int)→Option ((Int)⊕((Bool)⊕(Int×Bool)))
  | a=>bif decide (a<(b.length:Int))then(ixs b a).bind fun d=>(jA n d).bind fun c=>bif !c then some (.inr (.inl false))else some (.inl (IntKind.wrap .i64 (a+(1:Int))))else some (.inr (.inr (a,false)))
def pS(n:Nat)(a:List UInt8):Option (Bool):=
  (loopN (oH n a) n (0:Int)).bind fun q=>(match q with | .inl f=>some f | .inr (j,l)=>((aS n (a.length:Int) (1:Int) (20:Int)).bind fun b=>bif b then(ixs a (0:Int)).bind fun d=>(kH n d).bind fun c=>some c else some false).bind fun g=>some g)
theorem Fx{n:Nat}:KN (pS n):=by
 intro u r h; unfold pS at h; refine bF Tryz.func122 rfl rfl<|gcc 9 rfl<|cLp h [(2,14)] [] (fun c=>([(3,I64 c)],[])) (fun q=>match q with | .inl a=>(.r,[(2,Bo a)],[]) | .inr (d,f)=>(.e 0,[(3,I64 d),(7,Bo f)],[])) rfl (fun c _ h=> ?_) (fun q h=> ?_)
 unfold oH at h; refine gco 5 rfl<|xLs rfl<|goc 2 rfl<|cIf h rfl (fun s h=> ?_) (fun s h=> ?_)
 refine gco 7 rfl<|Ny h rfl rfl rfl rfl rfl (fun p h=> ?_)
 refine xC0 h (zY ·) rfl (fun o h=> ?_)
 refine goc 2 rfl<|cIf h rfl (fun t h=> ?_) (fun t h=> ?_)
 exact gec; exact gec; exact gec; rcases q with a | ⟨d,f⟩; exact en; refine cRs<|oJn h [(2,2),(15,22)] [] (fun b=>(.n,[(2,Bo b)],[])) (fun _ h=> ?_) (fun b h=> ?_)
 refine xMv rfl<|xLs rfl<|xC0 h (aU ·) rfl (fun g h=> ?_)
 refine xMv rfl<|oIf 18 h rfl (fun m h=> ?_) (fun m h=> ?_)
 refine xMv rfl<|Ny h rfl rfl rfl rfl rfl (fun l h=> ?_)
 refine xC0 h (vK ·) rfl (fun j h=> ?_)
 exact geo; exact geo; exact gec
abbrev Lr(p:(List UInt8)→Option (Bool)):Prop:= ∀ {a:List UInt8} {r:Bool},p a=some r→Big Tryz.prog τ An (.fn 150 [.one (.c (.str a))] [] (.one (.c (.bool r))) none [] none)
def oX(n:Nat)(a:List UInt8):Option (Bool):=
  bif decide (a=([43]:List UInt8))then some true else bif decide (a=([45]:List UInt8))then some true else bif decide (a=([42]:List UInt8))then some true else bif decide (a=([61,61]:List UInt8))then some true else bif decide (a=([60]:List UInt8))then some true else some false
theorem Am{n:Nat}:Lr (oX n):=by
 intro g r h; unfold oX at h; refine bF Tryz.func150 rfl rfl<|gcc 16 rfl<|cIf h rfl (fun a h=> ?_) (fun a h=> ?_)
 exact gec; refine gcc 5 rfl<|cIf h rfl (fun b h=> ?_) (fun b h=> ?_)
 exact gec; refine gcc 5 rfl<|cIf h rfl (fun c h=> ?_) (fun c h=> ?_)
 exact gec; refine gcc 5 rfl<|cIf h rfl (fun d h=> ?_) (fun d h=> ?_)
 exact gec; refine gcc 4 rfl<|cIf h rfl (fun f h=> ?_) (fun f h=> ?_)
 exact gec; exact gec
abbrev GO(p:Int→Int→(List UInt8)→Int→Option (Bool)):Prop:= ∀ {a b:Int} {d:List UInt8} {f:Int} {r:Bool},p a b d f=some r→Big Tryz.prog τ An (.fn 174 [.one (.c (.int .i64 a)), .one (.c (.int .i64 b)), .one (.c (.str d)), .one (.c (.int .i64 f))] [] (.one (.c (.bool r))) none [] none)
end Go.Own
