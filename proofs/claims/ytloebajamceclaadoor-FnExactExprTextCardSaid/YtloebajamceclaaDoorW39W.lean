/- Each function on plain data, and its walk. No conditions. -/
import Derived.Test.YtloebajamceclaaDoorW39A
set_option linter.unusedVariables false
set_option linter.unusedSimpArgs false
set_option linter.unnecessarySimpa false
namespace Go.Own
open Go Go.Proofs
def jX(a:List UInt8):List T:=[.str a]
theorem Ei(a:List UInt8):jX a=[.str a]:=rfl
def MA(a:Int):List T:=[.int .u8 a]
theorem GC(a:Int):MA a=[.int .u8 a]:=rfl
def Ov(a:Int):List T:=[.int .i64 a]
theorem Pb(a:Int):Ov a=[.int .i64 a]:=rfl
mutual
inductive aD where
  | mk (f0:Int) (f1:Int) (f2:List UInt8) (f3:List aD) (f4:List aC)
inductive aC where
  | two (p x:aD)
end
def aC.p:aC→aD
  | .two a _=>a
def aC.x:aC→aD
  | .two _ a=>a
def aD.f0:aD→Int
  | .mk a _ _ _ _=>a
def aD.f1:aD→Int
  | .mk _ a _ _ _=>a
def aD.f2:aD→List UInt8
  | .mk _ _ a _ _=>a
def aD.f3:aD→List aD
  | .mk _ _ _ a _=>a
def aD.f4:aD→List aC
  | .mk _ _ _ _ a=>a
def aC.f0(c:aC):Int:=aD.f0 (aC.p c)
def aC.f1(c:aC):Int:=aD.f1 (aC.p c)
def aC.f2(c:aC):List UInt8:=aD.f2 (aC.p c)
def aC.f3(c:aC):List aD:=aD.f3 (aC.p c)
def aC.f4(c:aC):List aC:=aD.f4 (aC.p c)
def aC.f5(c:aC):Int:=aD.f0 (aC.x c)
def aC.f6(c:aC):Int:=aD.f1 (aC.x c)
def aC.f7(c:aC):List UInt8:=aD.f2 (aC.x c)
def aC.f8(c:aC):List aD:=aD.f3 (aC.x c)
def aC.f9(c:aC):List aC:=aD.f4 (aC.x c)
def aC.mk(a0:Int)(a1:Int)(a2:List UInt8)(a3:List aD)(a4:List aC)(a5:Int)(a6:Int)(a7:List UInt8)(a8:List aD)(a9:List aC):aC:= .two (.mk a0 a1 a2 a3 a4) (.mk a5 a6 a7 a8 a9)
mutual
def rS_laws_Expr:aD→List T
  | .mk a0 a1 a2 a3 a4=> [.int .i64 a0, .int .i64 a1, .str a2, .sl (kG a3), .sl (iC a4)]
def kG:List aD→List (List T)
  | []=> []
  | x::r=>rS_laws_Expr x::kG r
def aJ:aC→List T
  | .two p x=>rS_laws_Expr p++rS_laws_Expr x
def iC:List aC→List (List T)
  | []=> []
  | x::r=>aJ x::iC r
end
theorem oC: ∀l:List aD,kG l=l.map rS_laws_Expr
  | []=>by simp [kG]
  | x::r=>by simp [kG,oC r]
theorem mN: ∀l:List aC,iC l=l.map aJ
  | []=>by simp [iC]
  | x::r=>by simp [iC,mN r]
theorem AG(a0:Int)(a1:Int)(a2:List UInt8)(a3:List aD)(a4:List aC):rS_laws_Expr (.mk a0 a1 a2 a3 a4)=[.int .i64 a0, .int .i64 a1, .str a2, .sl (a3.map rS_laws_Expr), .sl (a4.map aJ)]:=by simp only[rS_laws_Expr,oC,mN]
theorem bZ(a:aD):rS_laws_Expr a=[.int .i64 a.f0, .int .i64 a.f1, .str a.f2, .sl (a.f3.map rS_laws_Expr), .sl (a.f4.map aJ)]:=by
  cases a; exact AG _ _ _ _ _
theorem fK(a:aC):aJ a=[.int .i64 a.f0, .int .i64 a.f1, .str a.f2, .sl (a.f3.map rS_laws_Expr), .sl (a.f4.map aJ), .int .i64 a.f5, .int .i64 a.f6, .str a.f7, .sl (a.f8.map rS_laws_Expr), .sl (a.f9.map aJ)]:=by
  cases a with
  | two p x=>
    simp only[aJ]; rw[bZ p,bZ x]; rfl
theorem HM(a0:Int)(a1:Int)(a2:List UInt8)(a3:List aD)(a4:List aC)(a5:Int)(a6:Int)(a7:List UInt8)(a8:List aD)(a9:List aC):aJ (.mk a0 a1 a2 a3 a4 a5 a6 a7 a8 a9)=[.int .i64 a0, .int .i64 a1, .str a2, .sl (a3.map rS_laws_Expr), .sl (a4.map aJ), .int .i64 a5, .int .i64 a6, .str a7, .sl (a8.map rS_laws_Expr), .sl (a9.map aJ)]:=fK _
mutual
inductive aB where
  | mk (f0:Int) (f1:Int) (f2:List UInt8) (f3:List aB) (f4:List aA)
inductive aA where
  | two (p x:aB)
end
def aA.p:aA→aB
  | .two a _=>a
def aA.x:aA→aB
  | .two _ a=>a
def aB.f0:aB→Int
  | .mk a _ _ _ _=>a
def aB.f1:aB→Int
  | .mk _ a _ _ _=>a
def aB.f2:aB→List UInt8
  | .mk _ _ a _ _=>a
def aB.f3:aB→List aB
  | .mk _ _ _ a _=>a
def aB.f4:aB→List aA
  | .mk _ _ _ _ a=>a
def aA.f0(c:aA):Int:=aB.f0 (aA.p c)
def aA.f1(c:aA):Int:=aB.f1 (aA.p c)
def aA.f2(c:aA):List UInt8:=aB.f2 (aA.p c)
def aA.f3(c:aA):List aB:=aB.f3 (aA.p c)
def aA.f4(c:aA):List aA:=aB.f4 (aA.p c)
def aA.f5(c:aA):Int:=aB.f0 (aA.x c)
def aA.f6(c:aA):Int:=aB.f1 (aA.x c)
def aA.f7(c:aA):List UInt8:=aB.f2 (aA.x c)
def aA.f8(c:aA):List aB:=aB.f3 (aA.x c)
def aA.f9(c:aA):List aA:=aB.f4 (aA.x c)
def aA.mk(a0:Int)(a1:Int)(a2:List UInt8)(a3:List aB)(a4:List aA)(a5:Int)(a6:Int)(a7:List UInt8)(a8:List aB)(a9:List aA):aA:= .two (.mk a0 a1 a2 a3 a4) (.mk a5 a6 a7 a8 a9)
mutual
def aH:aB→List T
  | .mk a0 a1 a2 a3 a4=> [.int .i64 a0, .int .i64 a1, .str a2, .sl (kH a3), .sl (iD a4)]
def kH:List aB→List (List T)
  | []=> []
  | x::r=>aH x::kH r
def aG:aA→List T
  | .two p x=>aH p++aH x
def iD:List aA→List (List T)
  | []=> []
  | x::r=>aG x::iD r
end
theorem oD: ∀l:List aB,kH l=l.map aH
  | []=>by simp [kH]
  | x::r=>by simp [kH,oD r]
theorem mO: ∀l:List aA,iD l=l.map aG
  | []=>by simp [iD]
  | x::r=>by simp [iD,mO r]
theorem qA(a0:Int)(a1:Int)(a2:List UInt8)(a3:List aB)(a4:List aA):aH (.mk a0 a1 a2 a3 a4)=[.int .i64 a0, .int .i64 a1, .str a2, .sl (a3.map aH), .sl (a4.map aG)]:=by simp only[aH,oD,mO]
theorem aI(a:aB):aH a=[.int .i64 a.f0, .int .i64 a.f1, .str a.f2, .sl (a.f3.map aH), .sl (a.f4.map aG)]:=by
  cases a; exact qA _ _ _ _ _
theorem aM(a:aA):aG a=[.int .i64 a.f0, .int .i64 a.f1, .str a.f2, .sl (a.f3.map aH), .sl (a.f4.map aG), .int .i64 a.f5, .int .i64 a.f6, .str a.f7, .sl (a.f8.map aH), .sl (a.f9.map aG)]:=by
  cases a with
  | two p x=>
    simp only[aG]; rw[aI p,aI x]; rfl
theorem vP(a0:Int)(a1:Int)(a2:List UInt8)(a3:List aB)(a4:List aA)(a5:Int)(a6:Int)(a7:List UInt8)(a8:List aB)(a9:List aA):aG (.mk a0 a1 a2 a3 a4 a5 a6 a7 a8 a9)=[.int .i64 a0, .int .i64 a1, .str a2, .sl (a3.map aH), .sl (a4.map aG), .int .i64 a5, .int .i64 a6, .str a7, .sl (a8.map aH), .sl (a9.map aG)]:=aM _

abbrev bH:Type:=Int→Int→(List UInt8)→(List aD)→(List aC)→Int→Int→(List UInt8)→(List aD)→(List aC)→Int→Option (Int)
abbrev dY(p:bH):Prop:= ∀ {a b:Int} {d:List UInt8} {f:List aD} {g:List aC} {j l:Int} {m:List UInt8} {o:List aD} {s:List aC} {t:Int} {r:Int},p a b d f g j l m o s t=some r→Big Tryd.prog τ An (.fn 47 [.one (.ag [.int .i64 a, .int .i64 b, .str d, .sl (f.map rS_laws_Expr), .sl (g.map aJ), .int .i64 j, .int .i64 l, .str m, .sl (o.map rS_laws_Expr), .sl (s.map aJ)]), .one (.c (.int .i64 t))] [] (.one (.c (.int .i64 r))) none [] none)
abbrev bL:Type:=(List aC)→Int→Option (Int)
abbrev dN(p:bL):Prop:= ∀ {a:List aC} {b:Int} {r:Int},p a b=some r→Big Tryd.prog τ An (.fn 22 [.one (.c (.sl (a.map aJ))), .one (.c (.int .i64 b))] [] (.one (.c (.int .i64 r))) none [] none)
abbrev bX:Type:=(List aD)→Int→Option (Int)
abbrev fA(p:bX):Prop:= ∀ {a:List aD} {b:Int} {r:Int},p a b=some r→Big Tryd.prog τ An (.fn 21 [.one (.c (.sl (a.map rS_laws_Expr))), .one (.c (.int .i64 b))] [] (.one (.c (.int .i64 r))) none [] none)
abbrev cE:Type:=Int→Int→(List UInt8)→(List aD)→(List aC)→Int→Option (Int)
abbrev fU(p:cE):Prop:= ∀ {a b:Int} {d:List UInt8} {f:List aD} {g:List aC} {j:Int} {r:Int},p a b d f g j=some r→Big Tryd.prog τ An (.fn 6 [.one (.ag [.int .i64 a, .int .i64 b, .str d, .sl (f.map rS_laws_Expr), .sl (g.map aJ)]), .one (.c (.int .i64 j))] [] (.one (.c (.int .i64 r))) none [] none)
def iA(n:Nat)(a:cE)(f:bX)(b:bL)(d:bH)(j:Int)(l:Int)(m:List UInt8)(o:List aD)(p:List aC)(s:Int)(t:Int)(u:List UInt8)(v:List aD)(w:List aC)(y:Int):Option (Int):=
  (a j l m o p y).bind fun g=>bif decide (g<(0:Int))then some ((-1):Int)else(a s t u v w g).bind fun c=>bif decide (c<(0:Int))then some ((-1):Int)else some c
theorem uE{n:Nat}{f:cE}(c:fU f){d:bX}(l:fA d){a:bL}(g:dN a){b:bH}(j:dY b):dY (iA n f d a b):=by
 intro t u v w y z A B C D E r h; unfold iA at h; refine bF Tryd.func47 rfl rfl<|gco 10 rfl<|xC0 h (c ·) rfl (fun o h=> ?_)
 refine goc 8 rfl<|cIf h rfl (fun p h=> ?_) (fun p h=> ?_)
 exact gec; refine gco 6 rfl<|xC0 h (c ·) rfl (fun m h=> ?_)
 refine goc 8 rfl<|cIf h rfl (fun s h=> ?_) (fun s h=> ?_)
 exact gec; exact gec
def fX(n:Nat)(b:bH)(f:List aC):(Int×Int)→Option ((Int×Int)⊕((Int)⊕(Int×Int×Bool)))
  | (g,c)=>bif decide (c<(f.length:Int))then(ix f c).bind fun a=>(b a.f0 a.f1 a.f2 a.f3 a.f4 a.f5 a.f6 a.f7 a.f8 a.f9 g).bind fun d=>bif decide (d<(0:Int))then some (.inr (.inl ((-1):Int)))else some (.inl (d,(IntKind.wrap .i64 (c+(1:Int)))))else some (.inr (.inr (g,c,false)))
def gG(n:Nat)(f:cE)(d:bX)(b:bL)(a:bH)(c:List aC)(g:Int):Option (Int):=
  bif decide ((IntKind.wrap .i64 (g - (c.length:Int)))<(0:Int))then some ((-1):Int)else(loopN (fX n a c) n ((IntKind.wrap .i64 (g - (c.length:Int))),(0:Int))).bind fun q=>(match q with | .inl l=>some l | .inr (j,o,m)=>some j)
theorem sG{n:Nat}{d:cE}(m:fU d){c:bX}(j:fA c){a:bL}(g:dN a){b:bH}(f:dY b):dN (gG n d c a b):=by
 intro B C r h; unfold gG at h; refine bF Tryd.func22 rfl rfl<|gco 8 rfl<|xLn rfl<|goc 9 rfl<|cIf h rfl (fun z h=> ?_) (fun z h=> ?_)
 exact gec; refine gcc 6 rfl<|cLp h [(1,1),(4,5),(12,25)] [] (fun(o,t)=>([(1,I64 o),(5,I64 t)],[])) (fun q=>match q with | .inl s=>(.r,[(4,I64 s)],[]) | .inr (p,u,l)=>(.e 0,[(1,I64 p),(5,I64 u),(15,Bo l)],[])) rfl (fun st _ h=> ?_) (fun q h=> ?_)
 obtain⟨o,t⟩:=st; unfold fX at h; refine gco 5 rfl<|xLn rfl<|goc 2 rfl<|cIf h rfl (fun A h=> ?_) (fun A h=> ?_)
 refine gco 7 rfl<|xIx h fK rfl (fun y h=> ?_)
 refine goo 2 rfl<|xC0 h (f ·) rfl (fun v h=> ?_)
 refine goc 7 rfl<|cIf h rfl (fun w h=> ?_) (fun w h=> ?_)
 exact gec; exact gec; exact gec; rcases q with s | ⟨p,u,l⟩; exact en; exact gec
def iP(n:Nat)(b:cE)(f:List aD):(Int×Int)→Option ((Int×Int)⊕((Int)⊕(Int×Int×Bool)))
  | (g,c)=>bif decide (c<(f.length:Int))then(ix f c).bind fun a=>(b a.f0 a.f1 a.f2 a.f3 a.f4 g).bind fun d=>bif decide (d<(0:Int))then some (.inr (.inl ((-1):Int)))else some (.inl (d,(IntKind.wrap .i64 (c+(1:Int)))))else some (.inr (.inr (g,c,false)))
def iY(n:Nat)(a:cE)(f:bX)(b:bL)(d:bH)(c:List aD)(g:Int):Option (Int):=
  bif decide ((IntKind.wrap .i64 (g - (c.length:Int)))<(0:Int))then some ((-1):Int)else(loopN (iP n a c) n ((IntKind.wrap .i64 (g - (c.length:Int))),(0:Int))).bind fun q=>(match q with | .inl l=>some l | .inr (j,o,m)=>some j)
theorem vM{n:Nat}{d:cE}(f:fU d){c:bX}(l:fA c){a:bL}(g:dN a){b:bH}(j:dY b):fA (iY n d c a b):=by
 intro B C r h; unfold iY at h; refine bF Tryd.func21 rfl rfl<|gco 8 rfl<|xLn rfl<|goc 9 rfl<|cIf h rfl (fun z h=> ?_) (fun z h=> ?_)
 exact gec; refine gcc 6 rfl<|cLp h [(1,1),(4,5),(12,25)] [] (fun(o,t)=>([(1,I64 o),(5,I64 t)],[])) (fun q=>match q with | .inl s=>(.r,[(4,I64 s)],[]) | .inr (p,u,m)=>(.e 0,[(1,I64 p),(5,I64 u),(15,Bo m)],[])) rfl (fun st _ h=> ?_) (fun q h=> ?_)
 obtain⟨o,t⟩:=st; unfold iP at h; refine gco 5 rfl<|xLn rfl<|goc 2 rfl<|cIf h rfl (fun A h=> ?_) (fun A h=> ?_)
 refine gco 7 rfl<|xIx h bZ rfl (fun y h=> ?_)
 refine goo 2 rfl<|xC0 h (f ·) rfl (fun v h=> ?_)
 refine goc 7 rfl<|cIf h rfl (fun w h=> ?_) (fun w h=> ?_)
 exact gec; exact gec; exact gec; rcases q with s | ⟨p,u,m⟩; exact en; exact gec
def kE(n:Nat)(g:cE)(b:bX)(a:bL)(f:bH)(p:Int)(s:Int)(j:List UInt8)(m:List aD)(o:List aC)(l:Int):Option (Int):=
  bif decide ((IntKind.wrap .i64 (l - (j.length:Int)))<(0:Int))then some ((-1):Int)else(b m (IntKind.wrap .i64 (l - (j.length:Int)))).bind fun c=>bif decide (c<(0:Int))then some ((-1):Int)else(a o c).bind fun d=>bif decide (d<(0:Int))then some ((-1):Int)else some d
theorem xI{n:Nat}{d:cE}(l:fU d){c:bX}(g:fA c){a:bL}(f:dN a){b:bH}(j:dY b):fU (kE n d c a b):=by
 intro u v w y z A r h; unfold kE at h; refine bF Tryd.func6 rfl rfl<|gco 10 rfl<|xLs rfl<|goc 9 rfl<|cIf h rfl (fun p h=> ?_) (fun p h=> ?_)
 exact gec; refine gco 6 rfl<|xC0 h (g ·) rfl (fun m h=> ?_)
 refine goc 8 rfl<|cIf h rfl (fun s h=> ?_) (fun s h=> ?_)
 exact gec; refine gco 6 rfl<|xC0 h (f ·) rfl (fun o h=> ?_)
 refine goc 8 rfl<|cIf h rfl (fun t h=> ?_) (fun t h=> ?_)
 exact gec; exact gec
def aO:Nat→(cE)×(bX)×(bL)×(bH)
  | 0=>((fun _ _ _ _ _ _=>none),(fun _ _=>none),(fun _ _=>none),(fun _ _ _ _ _ _ _ _ _ _ _=>none))
  | n+1=>(kE n ((aO n).1) ((aO n).2.1) ((aO n).2.2.1) ((aO n).2.2.2),iY n ((aO n).1) ((aO n).2.1) ((aO n).2.2.1) ((aO n).2.2.2),gG n ((aO n).1) ((aO n).2.1) ((aO n).2.2.1) ((aO n).2.2.2),iA n ((aO n).1) ((aO n).2.1) ((aO n).2.2.1) ((aO n).2.2.2))
def cB(n:Nat):cE:=(aO n).1
def dR(n:Nat):bX:=(aO n).2.1
def cS(n:Nat):bL:=(aO n).2.2.1
def dE(n:Nat):bH:=(aO n).2.2.2
theorem jO(n:Nat):fU (cB n)∧fA (dR n)∧dN (cS n)∧dY (dE n):=by
  induction n with
  | zero=>exact⟨(fun h=>nomatch h),(fun h=>nomatch h),(fun h=>nomatch h),(fun h=>nomatch h)⟩
  | succ n ih=>exact⟨xI (n:=n) (ih.1) (ih.2.1) (ih.2.2.1) (ih.2.2.2),vM (n:=n) (ih.1) (ih.2.1) (ih.2.2.1) (ih.2.2.2),sG (n:=n) (ih.1) (ih.2.1) (ih.2.2.1) (ih.2.2.2),uE (n:=n) (ih.1) (ih.2.1) (ih.2.2.1) (ih.2.2.2)⟩
theorem AP{n:Nat}:fU (cB n):=(jO n).1
theorem ID{n:Nat}:fA (dR n):=(jO n).2.1
theorem Gg{n:Nat}:dN (cS n):=(jO n).2.2.1
theorem HO{n:Nat}:dY (dE n):=(jO n).2.2.2
theorem uL(n:Nat):cB (n+1)=kE n (cB n) (dR n) (cS n) (dE n):=rfl
theorem sL(n:Nat):dR (n+1)=iY n (cB n) (dR n) (cS n) (dE n):=rfl
theorem qK(n:Nat):cS (n+1)=gG n (cB n) (dR n) (cS n) (dE n):=rfl
theorem rF(n:Nat):dE (n+1)=iA n (cB n) (dR n) (cS n) (dE n):=rfl
abbrev Fk(p:Int→Int→Int→Option (Bool)):Prop:= ∀ {a b d:Int} {r:Bool},p a b d=some r→Big Tryd.prog τ An (.fn 75 [.one (.c (.int .i64 a)), .one (.c (.int .i64 b)), .one (.c (.int .i64 d))] [] (.one (.c (.bool r))) none [] none)
def cM(n:Nat)(a:Int)(b:Int)(c:Int):Option (Bool):=
  (bif decide (b≤a)then some (decide (a≤c))else some false).bind fun d=>some d
theorem dC{n:Nat}:Fk (cM n):=by
 intro c d f r h; unfold cM at h; refine bF Tryd.func75 rfl rfl<|gco 6 rfl<|oJn h [(6,14)] [] (fun a=>(.n,[(6,Bo a)],[])) (fun _ h=> ?_) (fun a h=> ?_)
 refine goo 4 rfl<|oIf 10 h rfl (fun b h=> ?_) (fun b h=> ?_)
 exact geo; exact geo; exact gec
abbrev Cu(p:(List UInt8)→Option (Bool)):Prop:= ∀ {a:List UInt8} {r:Bool},p a=some r→Big Tryd.prog τ An (.fn 93 [.one (.c (.str a))] [] (.one (.c (.bool r))) none [] none)
def jL(n:Nat)(d:List UInt8):(Int)→Option ((Int)⊕((Bool)⊕(Int×Bool)))
  | a=>bif decide (a<(d.length:Int))then(ixs d a).bind fun b=>(cM n (IntKind.wrap .i64 b) (97:Int) (122:Int)).bind fun f=>(bif !f then bif decide (a=(0:Int))then some true else(cM n (IntKind.wrap .i64 b) (48:Int) (57:Int)).bind fun c=>bif !c then some (!decide ((IntKind.wrap .i64 b)=(95:Int)))else some false else some false).bind fun g=>bif g then some (.inr (.inl false))else some (.inl (IntKind.wrap .i64 (a+(1:Int))))else some (.inr (.inr (a,false)))
def kK(n:Nat)(b:List UInt8):Option (Bool):=
  (loopN (jL n b) n (0:Int)).bind fun q=>(match q with | .inl c=>some c | .inr (d,f)=>(cM n (b.length:Int) (1:Int) (20:Int)).bind fun a=>some a)
theorem AO{n:Nat}:Cu (kK n):=by
 intro v r h; unfold kK at h; refine bF Tryd.func93 rfl rfl<|gcc 9 rfl<|cLp h [(2,32)] [] (fun c=>([(3,I64 c)],[])) (fun q=>match q with | .inl b=>(.r,[(2,Bo b)],[]) | .inr (d,f)=>(.e 0,[(3,I64 d),(9,Bo f)],[])) rfl (fun c _ h=> ?_) (fun q h=> ?_)
 unfold jL at h; refine gco 5 rfl<|xLs rfl<|goc 2 rfl<|cIf h rfl (fun t h=> ?_) (fun t h=> ?_)
 refine gco 7 rfl<|He h rfl rfl rfl rfl rfl (fun s h=> ?_)
 refine goo 6 rfl<|xC0 h (dC ·) rfl (fun p h=> ?_)
 refine goo 4 rfl<|oJn h [(18,32)] [] (fun a=>(.n,[(32,Bo a)],[])) (fun _ h=> ?_) (fun a h=> ?_)
 refine goo 3 rfl<|oIf 20 h rfl (fun u h=> ?_) (fun u h=> ?_)
 refine goo 3 rfl<|oIf 23 h rfl (fun l h=> ?_) (fun l h=> ?_)
 exact geo; refine xMv rfl<|xC0 h (dC ·) rfl (fun g h=> ?_)
 refine goo 2 rfl<|oIf 27 h rfl (fun m h=> ?_) (fun m h=> ?_)
 exact geo; exact geo; exact geo; refine cIf h rfl (fun o h=> ?_) (fun o h=> ?_)
 exact gec; exact gec; exact gec; rcases q with b | ⟨d,f⟩; exact en; refine gco 3 rfl<|xLs rfl<|xC0 h (dC ·) rfl (fun j h=> ?_)
 exact geo
abbrev vU(p:(List UInt8)→Option (Bool)):Prop:= ∀ {a:List UInt8} {r:Bool},p a=some r→Big Tryd.prog τ An (.fn 94 [.one (.c (.str a))] [] (.one (.c (.bool r))) none [] none)
def iM(n:Nat)(a:List UInt8):Option (Bool):=
  (bif decide (a=([99,97,115,101]:List UInt8))then some true else bif decide (a=([111,102]:List UInt8))then some true else some (decide (a=([101,110,100]:List UInt8)))).bind fun b=>some b
theorem sP{n:Nat}:vU (iM n):=by
 intro d r h; unfold iM at h; refine bF Tryd.func94 rfl rfl<|gco 6 rfl<|oJn h [(2,12)] [] (fun a=>(.n,[(2,Bo a)],[])) (fun _ h=> ?_) (fun a h=> ?_)
 refine goo 3 rfl<|oIf 5 h rfl (fun b h=> ?_) (fun b h=> ?_)
 exact geo; refine goo 4 rfl<|oIf 9 h rfl (fun c h=> ?_) (fun c h=> ?_)
 exact geo; exact geo; exact gec
abbrev Cs(p:(List UInt8)→Option (Bool)):Prop:= ∀ {a:List UInt8} {r:Bool},p a=some r→Big Tryd.prog τ An (.fn 76 [.one (.c (.str a))] [] (.one (.c (.bool r))) none [] none)
def iJ(n:Nat)(a:List UInt8):Option (Bool):=
  ((kK n a).bind fun b=>bif b then(iM n a).bind fun c=>some (!c)else some false).bind fun d=>some d
theorem qB{n:Nat}:Cs (iJ n):=by
 intro f r h; unfold iJ at h; refine bF Tryd.func76 rfl rfl<|gco 6 rfl<|oJn h [(2,9)] [] (fun a=>(.n,[(2,Bo a)],[])) (fun _ h=> ?_) (fun a h=> ?_)
 refine xMv rfl<|xC0 h (AO ·) rfl (fun b h=> ?_)
 refine xMv rfl<|oIf 5 h rfl (fun d h=> ?_) (fun d h=> ?_)
 refine xMv rfl<|xC0 h (sP ·) rfl (fun c h=> ?_)
 exact geo; exact geo; exact gec
abbrev BE(p:Int→Option (Bool)):Prop:= ∀ {a:Int} {r:Bool},p a=some r→Big Tryd.prog τ An (.fn 95 [.one (.c (.int .u8 a))] [] (.one (.c (.bool r))) none [] none)
def jF(n:Nat)(a:Int):Option (Bool):=
  ((cM n (IntKind.wrap .i64 a) (65:Int) (90:Int)).bind fun b=>bif b then some true else some (decide (a=(95:Int)))).bind fun c=>some c
theorem xS{n:Nat}:BE (jF n):=by
 intro d r h; unfold jF at h; refine bF Tryd.func95 rfl rfl<|gco 6 rfl<|oJn h [(2,9)] [] (fun a=>(.n,[(2,Bo a)],[])) (fun _ h=> ?_) (fun a h=> ?_)
 refine goo 2 rfl<|xC0 h (dC ·) rfl (fun b h=> ?_)
 refine xMv rfl<|oIf 6 h rfl (fun c h=> ?_) (fun c h=> ?_)
 exact geo; exact geo; exact gec
abbrev BD(p:Int→Option (Bool)):Prop:= ∀ {a:Int} {r:Bool},p a=some r→Big Tryd.prog τ An (.fn 96 [.one (.c (.int .u8 a))] [] (.one (.c (.bool r))) none [] none)
def jE(n:Nat)(b:Int):Option (Bool):=
  (cM n (IntKind.wrap .i64 b) (97:Int) (122:Int)).bind fun a=>some a
theorem xR{n:Nat}:BD (jE n):=by
 intro b r h; unfold jE at h; refine bF Tryd.func96 rfl rfl<|gco 8 rfl<|xC0 h (dC ·) rfl (fun a h=> ?_)
 exact geo
abbrev BF(p:Int→Option (Bool)):Prop:= ∀ {a:Int} {r:Bool},p a=some r→Big Tryd.prog τ An (.fn 97 [.one (.c (.int .u8 a))] [] (.one (.c (.bool r))) none [] none)
def jG(n:Nat)(b:Int):Option (Bool):=
  (cM n (IntKind.wrap .i64 b) (48:Int) (57:Int)).bind fun a=>some a
theorem xT{n:Nat}:BF (jG n):=by
 intro b r h; unfold jG at h; refine bF Tryd.func97 rfl rfl<|gco 8 rfl<|xC0 h (dC ·) rfl (fun a h=> ?_)
 exact geo
abbrev BC(p:(List UInt8)→Option (Bool)):Prop:= ∀ {a:List UInt8} {r:Bool},p a=some r→Big Tryd.prog τ An (.fn 77 [.one (.c (.str a))] [] (.one (.c (.bool r))) none [] none)
def iN(n:Nat)(b:List UInt8):(Int)→Option ((Int)⊕((Bool)⊕(Int×Bool)))
  | a=>bif decide (a<(b.length:Int))then((ixs b a).bind fun l=>(jF n l).bind fun j=>bif !j then bif decide (a=(0:Int))then some true else(ixs b a).bind fun f=>(jE n f).bind fun c=>bif !c then(ixs b a).bind fun g=>(jG n g).bind fun d=>some (!d)else some false else some false).bind fun m=>bif m then some (.inr (.inl false))else some (.inl (IntKind.wrap .i64 (a+(1:Int))))else some (.inr (.inr (a,false)))
def jD(n:Nat)(b:List UInt8):Option (Bool):=
  (loopN (iN n b) n (0:Int)).bind fun q=>(match q with | .inl c=>some c | .inr (d,f)=>(cM n (b.length:Int) (1:Int) (20:Int)).bind fun a=>some a)
theorem xQ{n:Nat}:BC (jD n):=by
 intro z r h; unfold jD at h; refine bF Tryd.func77 rfl rfl<|gcc 9 rfl<|cLp h [(2,32)] [] (fun c=>([(3,I64 c)],[])) (fun q=>match q with | .inl b=>(.r,[(2,Bo b)],[]) | .inr (d,f)=>(.e 0,[(3,I64 d),(7,Bo f)],[])) rfl (fun c _ h=> ?_) (fun q h=> ?_)
 unfold iN at h; refine gco 5 rfl<|xLs rfl<|goc 2 rfl<|cIf h rfl (fun w h=> ?_) (fun w h=> ?_)
 refine gco 5 rfl<|oJn h [(10,32)] [] (fun a=>(.n,[(32,Bo a)],[])) (fun _ h=> ?_) (fun a h=> ?_)
 refine goo 2 rfl<|He h rfl rfl rfl rfl rfl (fun v h=> ?_)
 refine xC0 h (xS ·) rfl (fun u h=> ?_)
 refine goo 2 rfl<|oIf 15 h rfl (fun y h=> ?_) (fun y h=> ?_)
 refine goo 3 rfl<|oIf 18 h rfl (fun p h=> ?_) (fun p h=> ?_)
 exact geo; refine goo 2 rfl<|He h rfl rfl rfl rfl rfl (fun m h=> ?_)
 refine xC0 h (xR ·) rfl (fun g h=> ?_)
 refine goo 2 rfl<|oIf 24 h rfl (fun s h=> ?_) (fun s h=> ?_)
 refine goo 2 rfl<|He h rfl rfl rfl rfl rfl (fun o h=> ?_)
 refine xC0 h (xT ·) rfl (fun j h=> ?_)
 exact geo; exact geo; exact geo; refine cIf h rfl (fun t h=> ?_) (fun t h=> ?_)
 exact gec; exact gec; exact gec; rcases q with b | ⟨d,f⟩; exact en; refine gco 3 rfl<|xLs rfl<|xC0 h (dC ·) rfl (fun l h=> ?_)
 exact geo
abbrev Fj(p:(List UInt8)→Option (Bool)):Prop:= ∀ {a:List UInt8} {r:Bool},p a=some r→Big Tryd.prog τ An (.fn 78 [.one (.c (.str a))] [] (.one (.c (.bool r))) none [] none)
def mI(n:Nat)(a:List UInt8):Option (Bool):=
  (bif decide (a=([43]:List UInt8))then some true else bif decide (a=([45]:List UInt8))then some true else bif decide (a=([42]:List UInt8))then some true else bif decide (a=([61,61]:List UInt8))then some true else some (decide (a=([60]:List UInt8)))).bind fun b=>some b
theorem Cp{n:Nat}:Fj (mI n):=by
 intro g r h; unfold mI at h; refine bF Tryd.func78 rfl rfl<|gco 6 rfl<|oJn h [(2,20)] [] (fun a=>(.n,[(2,Bo a)],[])) (fun _ h=> ?_) (fun a h=> ?_)
 refine goo 3 rfl<|oIf 5 h rfl (fun b h=> ?_) (fun b h=> ?_)
 exact geo; refine goo 4 rfl<|oIf 9 h rfl (fun c h=> ?_) (fun c h=> ?_)
 exact geo; refine goo 4 rfl<|oIf 13 h rfl (fun d h=> ?_) (fun d h=> ?_)
 exact geo; refine goo 4 rfl<|oIf 17 h rfl (fun f h=> ?_) (fun f h=> ?_)
 exact geo; exact geo; exact gec
abbrev BB(p:Int→Int→(List UInt8)→(List aB)→(List aA)→Bool→Option (Bool)):Prop:= ∀ {a b:Int} {d:List UInt8} {f:List aB} {g:List aA} {j:Bool} {r:Bool},p a b d f g j=some r→Big Tryd.prog τ An (.fn 61 [.one (.ag [.int .i64 a, .int .i64 b, .str d, .sl (f.map aH), .sl (g.map aG)]), .one (.c (.bool j))] [] (.one (.c (.bool r))) none [] none)
def jC(n:Nat)(a:Int)(f:Int)(b:List UInt8)(c:List aB)(s:List aA)(d:Bool):Option (Bool):=
  (bif !decide (a=(9:Int))then bif decide ((0:Int)<(s.length:Int))then some true else bif !decide (a=(1:Int))then some (!decide (f=(0:Int)))else some false else bif !decide (a=(1:Int))then some (!decide (f=(0:Int)))else some false).bind fun u=>bif u then some false else bif decide (a=(1:Int))then((cM n f (0:Int) (1000000000000:Int)).bind fun t=>bif t then bif decide (b=([]:List UInt8))then some (decide ((c.length:Int)=(0:Int)))else some false else some false).bind fun E=>some E else bif decide (a=(2:Int))then((iJ n b).bind fun l=>bif l then some (decide ((c.length:Int)=(0:Int)))else some false).bind fun v=>some v else bif decide (a=(3:Int))then((jD n b).bind fun m=>bif m then bif decide ((c.length:Int)=(0:Int))then bif d then some true else some (!decide (b=([95]:List UInt8)))else some false else some false).bind fun w=>some w else bif decide (a=(4:Int))then(bif decide (b=([]:List UInt8))then some (decide ((c.length:Int)≤(20:Int)))else some false).bind fun y=>some y else bif decide (a=(5:Int))then(bif decide (b=([]:List UInt8))then some (decide ((c.length:Int)≤(20:Int)))else some false).bind fun z=>some z else bif decide (a=(6:Int))then(bif decide (b=([]:List UInt8))then(cM n (c.length:Int) (2:Int) (6:Int)).bind fun o=>some o else some false).bind fun A=>some A else bif decide (a=(7:Int))then(bif !d then(mI n b).bind fun p=>bif p then some (decide ((c.length:Int)=(2:Int)))else some false else some false).bind fun B=>some B else bif decide (a=(8:Int))then(bif !d then(iJ n b).bind fun g=>bif g then some (decide ((c.length:Int)≤(4:Int)))else some false else some false).bind fun C=>some C else bif decide (a=(9:Int))then(bif !d then bif decide (b=([]:List UInt8))then bif decide ((c.length:Int)=(1:Int))then(cM n (s.length:Int) (1:Int) (6:Int)).bind fun j=>some j else some false else some false else some false).bind fun D=>some D else some false
theorem xP{n:Nat}:BB (jC n):=by
 intro a7 a8 a9 b0 b1 b2 r h; unfold jC at h; refine bF Tryd.func61 rfl rfl<|gco 9 rfl<|xLn rfl<|goo 5 rfl<|oJn h [(9,27)] [] (fun a=>(.n,[(27,Bo a)],[])) (fun _ h=> ?_) (fun a h=> ?_)
 refine goo 4 rfl<|oIf 12 h rfl (fun q2 h=> ?_) (fun q2 h=> ?_)
 refine goo 2 rfl<|xLn rfl<|goo 3 rfl<|oIf 18 h rfl (fun q3 h=> ?_) (fun q3 h=> ?_)
 exact geo; refine goo 4 rfl<|oIf 22 h rfl (fun q4 h=> ?_) (fun q4 h=> ?_)
 exact geo; exact geo; refine goo 10 rfl<|oIf 22 h rfl (fun q5 h=> ?_) (fun q5 h=> ?_)
 exact geo; exact geo; refine cIf h rfl (fun q6 h=> ?_) (fun q6 h=> ?_)
 exact gec; refine gcc 13 rfl<|cIf h rfl (fun q7 h=> ?_) (fun q7 h=> ?_)
 refine cRs<|oJn h [(4,4),(32,43)] [] (fun o=>(.n,[(4,Bo o)],[])) (fun _ h=> ?_) (fun o h=> ?_)
 refine goo 2 rfl<|xC0 h (dC ·) rfl (fun a0 h=> ?_)
 refine xMv rfl<|oIf 35 h rfl (fun y h=> ?_) (fun y h=> ?_)
 refine goo 5 rfl<|oIf 40 h rfl (fun z h=> ?_) (fun z h=> ?_)
 exact geo; exact geo; exact geo; exact gec; refine gcc 5 rfl<|cIf h rfl (fun A h=> ?_) (fun A h=> ?_)
 refine cRs<|oJn h [(4,4),(46,52)] [] (fun b=>(.n,[(4,Bo b)],[])) (fun _ h=> ?_) (fun b h=> ?_)
 refine goo 2 rfl<|xC0 h (qB ·) rfl (fun t h=> ?_)
 refine xMv rfl<|oIf 49 h rfl (fun B h=> ?_) (fun B h=> ?_)
 exact geo; exact geo; exact gec; refine gcc 5 rfl<|cIf h rfl (fun C h=> ?_) (fun C h=> ?_)
 refine cRs<|oJn h [(4,4),(55,69)] [] (fun c=>(.n,[(4,Bo c)],[])) (fun _ h=> ?_) (fun c h=> ?_)
 refine goo 2 rfl<|xC0 h (xQ ·) rfl (fun u h=> ?_)
 refine xMv rfl<|oIf 58 h rfl (fun D h=> ?_) (fun D h=> ?_)
 refine goo 4 rfl<|oIf 62 h rfl (fun E h=> ?_) (fun E h=> ?_)
 refine goo 2 rfl<|oIf 64 h rfl (fun G h=> ?_) (fun G h=> ?_)
 exact geo; exact geo; exact geo; exact geo; exact gec; refine gcc 6 rfl<|cIf h rfl (fun H h=> ?_) (fun H h=> ?_)
 refine gco 4 rfl<|oJn h [(4,4),(73,79)] [] (fun d=>(.n,[(4,Bo d)],[])) (fun _ h=> ?_) (fun d h=> ?_)
 refine goo 4 rfl<|oIf 76 h rfl (fun I h=> ?_) (fun I h=> ?_)
 exact geo; exact geo; exact gec; refine gcc 4 rfl<|cIf h rfl (fun J h=> ?_) (fun J h=> ?_)
 refine cRs<|oJn h [(4,4),(73,79)] [] (fun f=>(.n,[(4,Bo f)],[])) (fun _ h=> ?_) (fun f h=> ?_)
 refine goo 4 rfl<|oIf 76 h rfl (fun K h=> ?_) (fun K h=> ?_)
 exact geo; exact geo; exact gec; refine gcc 5 rfl<|cIf h rfl (fun L h=> ?_) (fun L h=> ?_)
 refine cRs<|oJn h [(4,4),(82,88)] [] (fun g=>(.n,[(4,Bo g)],[])) (fun _ h=> ?_) (fun g h=> ?_)
 refine goo 4 rfl<|oIf 85 h rfl (fun M h=> ?_) (fun M h=> ?_)
 refine xMv rfl<|xC0 h (dC ·) rfl (fun v h=> ?_)
 exact geo; exact geo; exact gec; refine gcc 5 rfl<|cIf h rfl (fun N h=> ?_) (fun N h=> ?_)
 refine cRs<|oJn h [(4,4),(91,101)] [] (fun j=>(.n,[(4,Bo j)],[])) (fun _ h=> ?_) (fun j h=> ?_)
 refine goo 3 rfl<|oIf 93 h rfl (fun Q h=> ?_) (fun Q h=> ?_)
 refine goo 2 rfl<|xC0 h (Cp ·) rfl (fun w h=> ?_)
 refine goo 2 rfl<|oIf 98 h rfl (fun R h=> ?_) (fun R h=> ?_)
 exact geo; exact geo; exact geo; exact gec; refine gcc 5 rfl<|cIf h rfl (fun T h=> ?_) (fun T h=> ?_)
 refine cRs<|oJn h [(4,4),(104,114)] [] (fun l=>(.n,[(4,Bo l)],[])) (fun _ h=> ?_) (fun l h=> ?_)
 refine goo 3 rfl<|oIf 106 h rfl (fun U h=> ?_) (fun U h=> ?_)
 refine goo 2 rfl<|xC0 h (qB ·) rfl (fun p h=> ?_)
 refine goo 2 rfl<|oIf 111 h rfl (fun V h=> ?_) (fun V h=> ?_)
 exact geo; exact geo; exact geo; exact gec; refine gcc 5 rfl<|cIf h rfl (fun W h=> ?_) (fun W h=> ?_)
 refine cRs<|oJn h [(4,4),(117,133)] [] (fun m=>(.n,[(4,Bo m)],[])) (fun _ h=> ?_) (fun m h=> ?_)
 refine goo 3 rfl<|oIf 119 h rfl (fun X h=> ?_) (fun X h=> ?_)
 refine goo 5 rfl<|oIf 124 h rfl (fun Y h=> ?_) (fun Y h=> ?_)
 refine goo 4 rfl<|oIf 128 h rfl (fun Z h=> ?_) (fun Z h=> ?_)
 refine goo 2 rfl<|xLn rfl<|xC0 h (dC ·) rfl (fun s h=> ?_)
 exact geo; exact geo; exact geo; exact geo; exact gec; exact gec
abbrev ET(p:(List (List UInt8))→(List UInt8)→Option (Bool)):Prop:= ∀ {a:List (List UInt8)} {b:List UInt8} {r:Bool},p a b=some r→Big Tryd.prog τ An (.fn 79 [.one (.c (.sl (a.map jX))), .one (.c (.str b))] [] (.one (.c (.bool r))) none [] none)
def iE(n:Nat)(b:List (List UInt8))(d:List UInt8):(Int)→Option ((Int)⊕((Bool)⊕(Int×Bool)))
  | a=>bif decide (a<(b.length:Int))then(ix b a).bind fun c=>bif decide (c=d)then some (.inr (.inl true))else some (.inl (IntKind.wrap .i64 (a+(1:Int))))else some (.inr (.inr (a,false)))
def lG(n:Nat)(a:List (List UInt8))(b:List UInt8):Option (Bool):=
  (loopN (iE n a b) n (0:Int)).bind fun q=>(match q with | .inl c=>some c | .inr (d,f)=>some false)
theorem Aw{n:Nat}:ET (lG n):=by
 intro l m r h; unfold lG at h; refine bF Tryd.func79 rfl rfl<|gcc 9 rfl<|cLp h [(4,17)] [] (fun b=>([(5,I64 b)],[])) (fun q=>match q with | .inl a=>(.r,[(4,Bo a)],[]) | .inr (c,d)=>(.e 0,[(5,I64 c),(9,Bo d)],[])) rfl (fun b _ h=> ?_) (fun q h=> ?_)
 unfold iE at h; refine gco 5 rfl<|xLn rfl<|goc 2 rfl<|cIf h rfl (fun g h=> ?_) (fun g h=> ?_)
 refine gco 7 rfl<|xIx h Ei rfl (fun f h=> ?_)
 refine goc 4 rfl<|cIf h rfl (fun j h=> ?_) (fun j h=> ?_)
 exact gec; exact gec; exact gec; rcases q with a | ⟨c,d⟩; exact en; exact gec
abbrev Cr(p:(List (List UInt8))→Option (Bool)):Prop:= ∀ {a:List (List UInt8)} {r:Bool},p a=some r→Big Tryd.prog τ An (.fn 62 [.one (.c (.sl (a.map jX)))] [] (.one (.c (.bool r))) none [] none)
def jK(n:Nat)(b:List (List UInt8)):(Int)→Option ((Int)⊕((Bool)⊕(Int×Bool)))
  | a=>bif decide (a<(b.length:Int))then(sub b none (some a)).bind fun f=>(ix b a).bind fun d=>(lG n f d).bind fun c=>bif c then some (.inr (.inl false))else some (.inl (IntKind.wrap .i64 (a+(1:Int))))else some (.inr (.inr (a,false)))
def kI(n:Nat)(a:List (List UInt8)):Option (Bool):=
  (loopN (jK n a) n (0:Int)).bind fun q=>(match q with | .inl b=>some b | .inr (c,d)=>some true)
theorem AK{n:Nat}:Cr (kI n):=by
 intro o r h; unfold kI at h; refine bF Tryd.func62 rfl rfl<|gcc 9 rfl<|cLp h [(2,17)] [] (fun b=>([(3,I64 b)],[])) (fun q=>match q with | .inl a=>(.r,[(2,Bo a)],[]) | .inr (c,d)=>(.e 0,[(3,I64 c),(7,Bo d)],[])) rfl (fun b _ h=> ?_) (fun q h=> ?_)
 unfold jK at h; refine gco 5 rfl<|xLn rfl<|goc 2 rfl<|cIf h rfl (fun l h=> ?_) (fun l h=> ?_)
 refine gco 7 rfl<|wSl (rf:=jX) h rfl rfl rfl rfl .no (.so rfl) (fun _=>rfl) rfl (fun j h=> ?_)
 refine goo 2 rfl<|xIx h Ei rfl (fun g h=> ?_)
 refine xLd rfl<|xC0 h (Aw ·) rfl (fun f h=> ?_)
 refine oNl<|cIf h rfl (fun m h=> ?_) (fun m h=> ?_)
 exact gec; exact gec; exact gec; rcases q with a | ⟨c,d⟩; exact en; exact gec
abbrev iK:Type:=Int→Int→(List UInt8)→(List aB)→(List aA)→Option ((List (List UInt8)))
abbrev mB(p:iK):Prop:= ∀ {a b:Int} {d:List UInt8} {f:List aB} {g:List aA} {r:(List (List UInt8))},p a b d f g=some r→Big Tryd.prog τ An (.fn 63 [.one (.ag [.int .i64 a, .int .i64 b, .str d, .sl (f.map aH), .sl (g.map aG)])] [] (.one (.c (.sl (r.map jX)))) none [] none)
def gK(n:Nat)(b:iK)(f:List aB):((List (List UInt8))×Int)→Option (((List (List UInt8))×Int)⊕(((List (List UInt8))×Int×Bool)))
  | (j,c)=>bif decide (c<(f.length:Int))then(ix f c).bind fun a=>(b a.f0 a.f1 a.f2 a.f3 a.f4).bind fun d=>(BM 16 j d).bind fun g=>some (.inl (g,(IntKind.wrap .i64 (c+(1:Int)))))else some (.inr (j,c,false))
def kC(n:Nat)(a:iK)(d:Int)(l:Int)(b:List UInt8)(f:List aB)(m:List aA):Option ((List (List UInt8))):=
  bif decide (d=(3:Int))then bif !decide (b=([95]:List UInt8))then(BM 16 ([]:List (List UInt8)) ([b]:List (List UInt8))).bind fun c=>some c else some ([]:List (List UInt8))else(loopN (gK n a f) n (([]:List (List UInt8)),(0:Int))).bind fun(g,o,j)=>some g
theorem xF{n:Nat}{a:iK}(b:mB a):mB (kC n a):=by
 intro y z m A B r h; unfold kC at h; refine bF Tryd.func63 rfl rfl<|gco 3 rfl<|wAe (Li jX []) rfl rfl rfl rfl<|oRs<|Jz (L:=([]:List (List UInt8))) (f:=jX) rfl rfl rfl rfl rfl rfl rfl<|goc 9 rfl<|cIf h rfl (fun u h=> ?_) (fun u h=> ?_)
 refine gcc 7 rfl<|cIf h rfl (fun v h=> ?_) (fun v h=> ?_)
 refine gco 4 rfl<|Jz (L:=([m]:List (List UInt8))) (f:=jX) rfl rfl rfl rfl rfl rfl rfl<|wAp (f:=jX) h rfl rfl rfl rfl rfl rfl rfl rfl rfl (fun _=>rfl) rfl (fun t h=> ?_)
 exact geo; exact gec; refine gcc 6 rfl<|cLp h [(3,4),(18,32)] [] (fun(d,j)=>([(3,Li jX d),(4,I64 j)],[])) (fun(g,l,c)=>(.e 0,[(3,Li jX g),(4,I64 l),(22,Bo c)],[])) rfl (fun st _ h=> ?_) (fun q h=> ?_)
 obtain⟨d,j⟩:=st; unfold gK at h; refine gco 6 rfl<|xLn rfl<|goc 2 rfl<|cIf h rfl (fun w h=> ?_) (fun w h=> ?_)
 refine gco 8 rfl<|xIx h aI rfl (fun p h=> ?_)
 refine xLd rfl<|xC0 h (b ·) rfl (fun o h=> ?_)
 refine wAp (f:=jX) h rfl rfl rfl rfl rfl rfl rfl rfl rfl (fun _=>rfl) rfl (fun s h=> ?_)
 exact geo; exact gec; obtain⟨g,l,c⟩:=q; exact gec
def tN:Nat→(iK)
  | 0=>(fun _ _ _ _ _=>none)
  | n+1=>kC n (tN n)
def eQ(n:Nat):iK:=tN n
theorem xN(n:Nat):mB (eQ n):=by
  induction n with
  | zero=>exact(fun h=>nomatch h)
  | succ n ih=>exact xF (n:=n) ih
theorem AM{n:Nat}:mB (eQ n):=(xN n)
theorem uJ(n:Nat):eQ (n+1)=kC n (eQ n):=rfl
abbrev fR:Type:=Int→Int→(List UInt8)→(List aB)→(List aA)→Bool→Int→Int→Option (Int)
abbrev mA(p:fR):Prop:= ∀ {a b:Int} {d:List UInt8} {f:List aB} {g:List aA} {j:Bool} {l m:Int} {r:Int},p a b d f g j l m=some r→Big Tryd.prog τ An (.fn 38 [.one (.ag [.int .i64 a, .int .i64 b, .str d, .sl (f.map aH), .sl (g.map aG)]), .one (.c (.bool j)), .one (.c (.int .i64 l)), .one (.c (.int .i64 m))] [] (.one (.c (.int .i64 r))) none [] none)
def dK(n:Nat)(b:fR)(l:Bool)(m:Int)(g:List aB):(Int×Int)→Option ((Int×Int)⊕((Int×Int×Bool)))
  | (d,c)=>(bif decide (c<(g.length:Int))then some (decide ((0:Int)≤d))else some false).bind fun j=>bif j then(ix g c).bind fun a=>(b a.f0 a.f1 a.f2 a.f3 a.f4 l (IntKind.wrap .i64 (m - (1:Int))) d).bind fun f=>some (.inl (f,(IntKind.wrap .i64 (c+(1:Int)))))else some (.inr (d,c,false))
def dJ(n:Nat)(b:fR)(s:Int)(j:List aA):(Int×Int)→Option ((Int×Int)⊕((Int)⊕(Int×Int×Bool)))
  | (l,a)=>(bif decide (a<(j.length:Int))then some (decide ((0:Int)≤l))else some false).bind fun t=>bif t then(((ix j a).bind fun c=>(eQ n c.f0 c.f1 c.f2 c.f3 c.f4).bind fun m=>(kI n m).bind fun o=>bif !o then some (.inl ((-1):Int))else(ix j a).bind fun d=>(b d.f0 d.f1 d.f2 d.f3 d.f4 true (IntKind.wrap .i64 (s - (1:Int))) l).bind fun g=>bif decide ((0:Int)≤g)then(ix j a).bind fun f=>(b f.f5 f.f6 f.f7 f.f8 f.f9 false (IntKind.wrap .i64 (s - (1:Int))) g).bind fun p=>some (.inr p)else some (.inr g):Option ((Int)⊕(Int)))).bind fun q=>(match q with | .inl v=>some (.inr (.inl v)) | .inr u=>some (.inl (u,(IntKind.wrap .i64 (a+(1:Int))))))else some (.inr (.inr (l,a,false)))
def kB(n:Nat)(a:fR)(p:Int)(s:Int)(t:List UInt8)(c:List aB)(d:List aA)(f:Bool)(b:Int)(g:Int):Option (Int):=
  (bif decide (b<(1:Int))then some true else bif decide (g<(1:Int))then some true else(jC n p s t c d f).bind fun j=>some (!j)).bind fun l=>bif l then some ((-1):Int)else(loopN (dK n a f b c) n ((IntKind.wrap .i64 (g - (1:Int))),(0:Int))).bind fun(u,z,w)=>(loopN (dJ n a b d) n (u,(0:Int))).bind fun q=>(match q with | .inl o=>some o | .inr (m,v,y)=>some m)
theorem xE{n:Nat}{b:fR}(a:mA b):mA (kB n b):=by
 intro X Y Z a0 a1 a2 a3 a4 r h; unfold kB at h; refine bF Tryd.func38 rfl rfl<|gco 8 rfl<|oJn h [(11,22)] [] (fun m=>(.n,[(22,Bo m)],[])) (fun _ h=> ?_) (fun m h=> ?_)
 refine goo 3 rfl<|oIf 13 h rfl (fun U h=> ?_) (fun U h=> ?_)
 exact geo; refine goo 4 rfl<|oIf 17 h rfl (fun V h=> ?_) (fun V h=> ?_)
 exact geo; refine goo 2 rfl<|xC0 h (xP ·) rfl (fun T h=> ?_)
 exact geo; refine cIf h rfl (fun W h=> ?_) (fun W h=> ?_)
 exact gec; refine gcc 12 rfl<|cLp h [(3,3),(9,9),(25,45)] [] (fun(v,y)=>([(3,I64 v),(9,I64 y)],[])) (fun(w,z,f)=>(.e 0,[(3,I64 w),(9,I64 z),(33,Bo f)],[])) rfl (fun st _ h=> ?_) (fun q h=> ?_)
 obtain⟨v,y⟩:=st; unfold dK at h; refine gco 3 rfl<|oJn h [(25,33)] [] (fun g=>(.n,[(33,Bo g)],[])) (fun _ h=> ?_) (fun g h=> ?_)
 refine goo 3 rfl<|xLn rfl<|goo 2 rfl<|oIf 30 h rfl (fun K h=> ?_) (fun K h=> ?_)
 exact geo; exact geo; refine cIf h rfl (fun L h=> ?_) (fun L h=> ?_)
 refine gco 7 rfl<|xIx h aI rfl (fun G h=> ?_)
 refine goo 5 rfl<|xC0 h (a ·) rfl (fun A h=> ?_)
 exact geo; exact gec; obtain⟨w,z,f⟩:=q; refine gcc 5 rfl<|cLp h [(3,3),(8,8),(10,10),(46,87)] [] (fun(o,c)=>([(3,I64 o),(10,I64 c)],[])) (fun q=>match q with | .inl t=>(.r,[(8,I64 t)],[]) | .inr (p,d,j)=>(.e 2,[(3,I64 p),(10,I64 d),(54,Bo j)],[])) rfl (fun st _ h=> ?_) (fun q h=> ?_)
 obtain⟨o,c⟩:=st; unfold dJ at h; refine gco 3 rfl<|oJn h [(46,54)] [] (fun l=>(.n,[(54,Bo l)],[])) (fun _ h=> ?_) (fun l h=> ?_)
 refine goo 3 rfl<|xLn rfl<|goo 2 rfl<|oIf 51 h rfl (fun M h=> ?_) (fun M h=> ?_)
 exact geo; exact geo; refine cIf h rfl (fun N h=> ?_) (fun N h=> ?_)
 refine gcc 2 rfl<|cJn h [(3,3),(8,8),(57,87)] [] (fun q=>match q with | .inl u=>(.r,[(8,I64 u)],[]) | .inr s=>(.n,[(3,I64 s)],[])) (fun _ h=> ?_) (fun q h=> ?_)
 refine gco 7 rfl<|xIx h aM rfl (fun H h=> ?_)
 refine goo 2 rfl<|xC0 h (AM ·) rfl (fun B h=> ?_)
 refine xC0 h (AK ·) rfl (fun C h=> ?_)
 refine goc 2 rfl<|cIf h rfl (fun Q h=> ?_) (fun Q h=> ?_)
 exact gec; refine gco 6 rfl<|xIx h aM rfl (fun I h=> ?_)
 refine goo 5 rfl<|xC0 h (a ·) rfl (fun D h=> ?_)
 refine goc 7 rfl<|cIf h rfl (fun R h=> ?_) (fun R h=> ?_)
 refine gco 4 rfl<|xIx h aM rfl (fun J h=> ?_)
 refine goo 5 rfl<|xC0 h (a ·) rfl (fun E h=> ?_)
 exact geo; exact gec; rcases q with u | s; exact en; exact gec; exact gec; rcases q with t | ⟨p,d,j⟩; exact en; exact gec
def tM:Nat→(fR)
  | 0=>(fun _ _ _ _ _ _ _ _=>none)
  | n+1=>kB n (tM n)
def bU(n:Nat):fR:=tM n
theorem xM(n:Nat):mA (bU n):=by
  induction n with
  | zero=>exact(fun h=>nomatch h)
  | succ n ih=>exact xE (n:=n) ih
theorem AL{n:Nat}:mA (bU n):=(xM n)
theorem uI(n:Nat):bU (n+1)=kB n (bU n):=rfl
abbrev Ct(p:Int→Int→(List UInt8)→(List aB)→(List aA)→Option (Bool)):Prop:= ∀ {a b:Int} {d:List UInt8} {f:List aB} {g:List aA} {r:Bool},p a b d f g=some r→Big Tryd.prog τ An (.fn 15 [.one (.ag [.int .i64 a, .int .i64 b, .str d, .sl (f.map aH), .sl (g.map aG)])] [] (.one (.c (.bool r))) none [] none)
def kJ(n:Nat)(b:Int)(c:Int)(d:List UInt8)(f:List aB)(g:List aA):Option (Bool):=
  (bU n b c d f g false (10:Int) (300:Int)).bind fun a=>some (decide ((0:Int)≤a))
theorem AN{n:Nat}:Ct (kJ n):=by
 intro b c d f g r h; unfold kJ at h; refine bF Tryd.func15 rfl rfl<|gco 8 rfl<|xC0 h (AL ·) rfl (fun a h=> ?_)
 exact geo
abbrev lJ:Type:=Int→Option ((List UInt8))
abbrev nJ(p:lJ):Prop:= ∀ {a:Int} {r:(List UInt8)},p a=some r→Big Tryd.prog τ An (.fn 48 [.one (.c (.int .i64 a))] [] (.one (.c (.str r))) none [] none)
def lE(n:Nat)(a:lJ)(b:Int):Option ((List UInt8)):=
  bif decide (b<(0:Int))then(a (IntKind.wrap .i64 (0 - b))).bind fun f=>(ck (decide (([45]:List UInt8).length+f.length≤9223372036854775807))).bind fun _=>some (([45]:List UInt8)++f)else bif decide (b<(10:Int))then(EC ([(IntKind.wrap .u8 (IntKind.wrap .i64 ((48:Int)+b)))]:List Int)).bind fun g=>some g else(a (IntKind.wrap .i64 (Int.tdiv b (10:Int)))).bind fun c=>(EC ([(IntKind.wrap .u8 (IntKind.wrap .i64 ((48:Int)+(Int.tmod b (10:Int)))))]:List Int)).bind fun d=>(ck (decide (c.length+d.length≤9223372036854775807))).bind fun _=>some (c++d)
theorem AF{n:Nat}{b:lJ}(a:nJ b):nJ (lE n b):=by
 intro c r h; unfold lE at h; refine bF Tryd.func48 rfl rfl<|gcc 12 rfl<|cIf h rfl (fun p h=> ?_) (fun p h=> ?_)
 refine gco 3 rfl<|wNeg rfl rfl rfl<|xC0 h (a ·) rfl (fun o h=> ?_)
 refine oCk h (fun g h=> ?_)
 exact gV g rfl rfl rfl rfl<|geo
 refine gcc 6 rfl<|cIf h rfl (fun s h=> ?_) (fun s h=> ?_)
 refine gco 5 rfl<|Jz (L:=([(IntKind.wrap .u8 (IntKind.wrap .i64 ((48:Int)+c)))]:List Int)) (f:=MA) rfl rfl rfl rfl rfl rfl rfl<|wTs h rfl rfl ⟨rfl,rfl⟩ rfl GC rfl (fun l h=> ?_)
 exact geo; refine gco 4 rfl<|wBi (.int .i64 (IntKind.wrap .i64 (Int.tdiv c (10:Int)))) rfl rfl rfl rfl rfl<|xC0 h (a ·) rfl (fun j h=> ?_)
 refine xMv rfl<|wBi (.int .i64 (Int.tmod c (10:Int))) rfl rfl rfl rfl rfl<|goo 2 rfl<|Jz (L:=([(IntKind.wrap .u8 (IntKind.wrap .i64 ((48:Int)+(Int.tmod c (10:Int)))))]:List Int)) (f:=MA) rfl rfl rfl rfl rfl rfl rfl<|wTs h rfl rfl ⟨rfl,rfl⟩ rfl GC rfl (fun m h=> ?_)
 refine oCk h (fun d h=> ?_)
 exact gV d rfl rfl rfl rfl<|geo
def wB:Nat→(lJ)
  | 0=>(fun _=>none)
  | n+1=>lE n (wB n)
def hH(n:Nat):lJ:=wB n
theorem AI(n:Nat):nJ (hH n):=by
  induction n with
  | zero=>exact(fun h=>nomatch h)
  | succ n ih=>exact AF (n:=n) ih
theorem Ax{n:Nat}:nJ (hH n):=(AI n)
theorem vQ(n:Nat):hH (n+1)=lE n (hH n):=rfl
abbrev fQ:Type:=(List aB)→Option ((List UInt8))
abbrev kP(p:fQ):Prop:= ∀ {a:List aB} {r:(List UInt8)},p a=some r→Big Tryd.prog τ An (.fn 49 [.one (.c (.sl (a.map aH)))] [] (.one (.c (.str r))) none [] none)
abbrev dP:Type:=Int→Int→(List UInt8)→(List aB)→(List aA)→Option ((List UInt8))
abbrev kO(p:dP):Prop:= ∀ {a b:Int} {d:List UInt8} {f:List aB} {g:List aA} {r:(List UInt8)},p a b d f g=some r→Big Tryd.prog τ An (.fn 23 [.one (.ag [.int .i64 a, .int .i64 b, .str d, .sl (f.map aH), .sl (g.map aG)])] [] (.one (.c (.str r))) none [] none)
def eP(n:Nat)(a:dP)(l:List aB):((List UInt8)×Int)→Option (((List UInt8)×Int)⊕(((List UInt8)×Int×Bool)))
  | (d,f)=>bif decide (f<(l.length:Int))then((bif decide ((0:Int)<f)then(ck (decide (d.length+([44,32]:List UInt8).length≤9223372036854775807))).bind fun _=>(ix l f).bind fun b=>(a b.f0 b.f1 b.f2 b.f3 b.f4).bind fun g=>(ck (decide ((d++([44,32]:List UInt8)).length+g.length≤9223372036854775807))).bind fun _=>some ((d++([44,32]:List UInt8))++g)else(ix l f).bind fun c=>(a c.f0 c.f1 c.f2 c.f3 c.f4).bind fun j=>(ck (decide (d.length+j.length≤9223372036854775807))).bind fun _=>some (d++j):Option (((List UInt8))))).bind fun m=>some (.inl (m,(IntKind.wrap .i64 (f+(1:Int)))))else some (.inr (d,f,false))
def kA(n:Nat)(a:dP)(b:fQ)(c:List aB):Option ((List UInt8)):=
  (loopN (eP n a c) n (([]:List UInt8),(0:Int))).bind fun(d,f,g)=>some d
theorem xD{n:Nat}{c:dP}(a:kO c){b:fQ}(d:kP b):kP (kA n c b):=by
 intro B r h; unfold kA at h; refine bF Tryd.func49 rfl rfl<|gcc 13 rfl<|cLp h [(3,21)] [] (fun(j,o)=>([(3,St' j),(4,I64 o)],[])) (fun(l,p,s)=>(.e 0,[(3,St' l),(4,I64 p),(8,Bo s)],[])) rfl (fun st _ h=> ?_) (fun q h=> ?_)
 obtain⟨j,o⟩:=st; unfold eP at h; refine gco 5 rfl<|xLn rfl<|goc 2 rfl<|cIf h rfl (fun z h=> ?_) (fun z h=> ?_)
 refine gcc 2 rfl<|cJn h [(3,3),(11,21)] [] (fun m=>(.n,[(3,St' m)],[])) (fun _ h=> ?_) (fun m h=> ?_)
 refine gcc 7 rfl<|cIf h rfl (fun A h=> ?_) (fun A h=> ?_)
 refine gco 2 rfl<|oCk h (fun t h=> ?_)
 refine gV t rfl rfl rfl rfl<|goo 6 rfl<|xIx h aI rfl (fun w h=> ?_)
 refine xLd rfl<|xC0 h (a ·) rfl (fun u h=> ?_)
 refine oCk h (fun f h=> ?_)
 exact gV f rfl rfl rfl rfl<|geo
 refine gco 5 rfl<|xIx h aI rfl (fun y h=> ?_)
 refine xLd rfl<|xC0 h (a ·) rfl (fun v h=> ?_)
 refine oCk h (fun g h=> ?_)
 exact gV g rfl rfl rfl rfl<|geo
 exact gec; exact gec; obtain⟨l,p,s⟩:=q; exact gec
def eO(n:Nat)(a:dP)(o:List aA):((List UInt8)×Int)→Option (((List UInt8)×Int)⊕(((List UInt8)×Int×Bool)))
  | (b,c)=>bif decide (c<(o.length:Int))then((bif decide ((0:Int)<c)then(ck (decide (b.length+([59,32]:List UInt8).length≤9223372036854775807))).bind fun _=>(ix o c).bind fun d=>(a d.f0 d.f1 d.f2 d.f3 d.f4).bind fun l=>(ck (decide ((b++([59,32]:List UInt8)).length+l.length≤9223372036854775807))).bind fun _=>(ck (decide (((b++([59,32]:List UInt8))++l).length+([32,45,62,32]:List UInt8).length≤9223372036854775807))).bind fun _=>(ix o c).bind fun g=>(a g.f5 g.f6 g.f7 g.f8 g.f9).bind fun p=>(ck (decide ((((b++([59,32]:List UInt8))++l)++([32,45,62,32]:List UInt8)).length+p.length≤9223372036854775807))).bind fun _=>some ((((b++([59,32]:List UInt8))++l)++([32,45,62,32]:List UInt8))++p)else(ix o c).bind fun f=>(a f.f0 f.f1 f.f2 f.f3 f.f4).bind fun m=>(ck (decide (b.length+m.length≤9223372036854775807))).bind fun _=>(ck (decide ((b++m).length+([32,45,62,32]:List UInt8).length≤9223372036854775807))).bind fun _=>(ix o c).bind fun j=>(a j.f5 j.f6 j.f7 j.f8 j.f9).bind fun s=>(ck (decide (((b++m)++([32,45,62,32]:List UInt8)).length+s.length≤9223372036854775807))).bind fun _=>some (((b++m)++([32,45,62,32]:List UInt8))++s):Option (((List UInt8))))).bind fun t=>some (.inl (t,(IntKind.wrap .i64 (c+(1:Int)))))else some (.inr (b,c,false))
def jZ(n:Nat)(a:dP)(b:fQ)(p:Int)(C:Int)(d:List UInt8)(f:List aB)(D:List aA):Option ((List UInt8)):=
  bif decide (p=(1:Int))then(hH n C).bind fun B=>some B else bif decide (p=(2:Int))then some d else bif decide (p=(3:Int))then some d else bif decide (p=(4:Int))then(b f).bind fun y=>(ck (decide (([123]:List UInt8).length+y.length≤9223372036854775807))).bind fun _=>(ck (decide ((([123]:List UInt8)++y).length+([125]:List UInt8).length≤9223372036854775807))).bind fun _=>some ((([123]:List UInt8)++y)++([125]:List UInt8))else bif decide (p=(5:Int))then(b f).bind fun s=>(ck (decide (([91]:List UInt8).length+s.length≤9223372036854775807))).bind fun _=>(ck (decide ((([91]:List UInt8)++s).length+([93]:List UInt8).length≤9223372036854775807))).bind fun _=>some ((([91]:List UInt8)++s)++([93]:List UInt8))else bif decide (p=(6:Int))then(sub f none (some (IntKind.wrap .i64 ((f.length:Int) - (1:Int))))).bind fun A=>(b A).bind fun g=>(ck (decide (([91]:List UInt8).length+g.length≤9223372036854775807))).bind fun _=>(ck (decide ((([91]:List UInt8)++g).length+([32,124,32]:List UInt8).length≤9223372036854775807))).bind fun _=>(ix f (IntKind.wrap .i64 ((f.length:Int) - (1:Int)))).bind fun j=>(a j.f0 j.f1 j.f2 j.f3 j.f4).bind fun t=>(ck (decide (((([91]:List UInt8)++g)++([32,124,32]:List UInt8)).length+t.length≤9223372036854775807))).bind fun _=>(ck (decide ((((([91]:List UInt8)++g)++([32,124,32]:List UInt8))++t).length+([93]:List UInt8).length≤9223372036854775807))).bind fun _=>some ((((([91]:List UInt8)++g)++([32,124,32]:List UInt8))++t)++([93]:List UInt8))else bif decide (p=(7:Int))then(ix f (0:Int)).bind fun l=>(a l.f0 l.f1 l.f2 l.f3 l.f4).bind fun c=>(ck (decide (([40]:List UInt8).length+c.length≤9223372036854775807))).bind fun _=>(ck (decide ((([40]:List UInt8)++c).length+([32]:List UInt8).length≤9223372036854775807))).bind fun _=>(ck (decide (((([40]:List UInt8)++c)++([32]:List UInt8)).length+d.length≤9223372036854775807))).bind fun _=>(ck (decide ((((([40]:List UInt8)++c)++([32]:List UInt8))++d).length+([32]:List UInt8).length≤9223372036854775807))).bind fun _=>(ix f (1:Int)).bind fun m=>(a m.f0 m.f1 m.f2 m.f3 m.f4).bind fun u=>(ck (decide (((((([40]:List UInt8)++c)++([32]:List UInt8))++d)++([32]:List UInt8)).length+u.length≤9223372036854775807))).bind fun _=>(ck (decide ((((((([40]:List UInt8)++c)++([32]:List UInt8))++d)++([32]:List UInt8))++u).length+([41]:List UInt8).length≤9223372036854775807))).bind fun _=>some ((((((([40]:List UInt8)++c)++([32]:List UInt8))++d)++([32]:List UInt8))++u)++([41]:List UInt8))else bif decide (p=(8:Int))then(ck (decide (d.length+([40]:List UInt8).length≤9223372036854775807))).bind fun _=>(b f).bind fun v=>(ck (decide ((d++([40]:List UInt8)).length+v.length≤9223372036854775807))).bind fun _=>(ck (decide (((d++([40]:List UInt8))++v).length+([41]:List UInt8).length≤9223372036854775807))).bind fun _=>some (((d++([40]:List UInt8))++v)++([41]:List UInt8))else(ix f (0:Int)).bind fun o=>(a o.f0 o.f1 o.f2 o.f3 o.f4).bind fun w=>(ck (decide (([99,97,115,101,32]:List UInt8).length+w.length≤9223372036854775807))).bind fun _=>(ck (decide ((([99,97,115,101,32]:List UInt8)++w).length+([32,111,102,32]:List UInt8).length≤9223372036854775807))).bind fun _=>(loopN (eO n a D) n (((([99,97,115,101,32]:List UInt8)++w)++([32,111,102,32]:List UInt8)),(0:Int))).bind fun(z,G,E)=>(ck (decide (z.length+([32,101,110,100]:List UInt8).length≤9223372036854775807))).bind fun _=>some (z++([32,101,110,100]:List UInt8))
theorem xC{n:Nat}{f:dP}(b:kO f){d:fQ}(c:kP d):kO (jZ n f d):=by
 intro d0 d1 d2 d3 d4 r h; unfold jZ at h; refine bF Tryd.func23 rfl rfl<|gcc 17 rfl<|cIf h rfl (fun q1 h=> ?_) (fun q1 h=> ?_)
 refine gco 4 rfl<|xC0 h (Ax ·) rfl (fun c3 h=> ?_)
 exact geo; refine gcc 6 rfl<|cIf h rfl (fun q3 h=> ?_) (fun q3 h=> ?_)
 exact gec; refine gcc 4 rfl<|cIf h rfl (fun q4 h=> ?_) (fun q4 h=> ?_)
 exact gec; refine gcc 5 rfl<|cIf h rfl (fun q5 h=> ?_) (fun q5 h=> ?_)
 refine gco 4 rfl<|xC0 h (c ·) rfl (fun c4 h=> ?_)
 refine oCk h (fun W h=> ?_)
 refine gV W rfl rfl rfl rfl<|oCk h (fun X h=> ?_)
 exact gV X rfl rfl rfl rfl<|geo
 refine gcc 5 rfl<|cIf h rfl (fun q9 h=> ?_) (fun q9 h=> ?_)
 refine gco 4 rfl<|xC0 h (c ·) rfl (fun a6 h=> ?_)
 refine oCk h (fun B h=> ?_)
 refine gV B rfl rfl rfl rfl<|oCk h (fun C h=> ?_)
 exact gV C rfl rfl rfl rfl<|geo
 refine gcc 5 rfl<|cIf h rfl (fun b7 h=> ?_) (fun b7 h=> ?_)
 refine gco 4 rfl<|xLn rfl<|goo 8 rfl<|wSl (rf:=aH) h rfl rfl rfl rfl .no (.so rfl) (fun a=>by rw[aI]; rfl) rfl (fun c2 h=> ?_)
 refine xC0 h (c ·) rfl (fun a7 h=> ?_)
 refine oCk h (fun D h=> ?_)
 refine gV D rfl rfl rfl rfl<|oCk h (fun E h=> ?_)
 refine gV E rfl rfl rfl rfl<|goo 3 rfl<|xIx h aI rfl (fun b3 h=> ?_)
 refine xLd rfl<|xC0 h (b ·) rfl (fun a8 h=> ?_)
 refine oCk h (fun G h=> ?_)
 refine gV G rfl rfl rfl rfl<|oCk h (fun H h=> ?_)
 exact gV H rfl rfl rfl rfl<|geo
 refine gcc 5 rfl<|cIf h rfl (fun b8 h=> ?_) (fun b8 h=> ?_)
 refine gco 4 rfl<|xIx h aI rfl (fun b4 h=> ?_)
 refine xLd rfl<|xC0 h (b ·) rfl (fun a9 h=> ?_)
 refine oCk h (fun I h=> ?_)
 refine gV I rfl rfl rfl rfl<|oCk h (fun J h=> ?_)
 refine gV J rfl rfl rfl rfl<|goo 2 rfl<|oCk h (fun K h=> ?_)
 refine gV K rfl rfl rfl rfl<|oCk h (fun L h=> ?_)
 refine gV L rfl rfl rfl rfl<|goo 2 rfl<|xIx h aI rfl (fun b5 h=> ?_)
 refine xLd rfl<|xC0 h (b ·) rfl (fun b0 h=> ?_)
 refine oCk h (fun M h=> ?_)
 refine gV M rfl rfl rfl rfl<|oCk h (fun N h=> ?_)
 exact gV N rfl rfl rfl rfl<|geo
 refine gcc 5 rfl<|cIf h rfl (fun b9 h=> ?_) (fun b9 h=> ?_)
 refine gco 4 rfl<|oCk h (fun Q h=> ?_)
 refine gV Q rfl rfl rfl rfl<|goo 2 rfl<|xC0 h (c ·) rfl (fun b1 h=> ?_)
 refine oCk h (fun R h=> ?_)
 refine gV R rfl rfl rfl rfl<|oCk h (fun T h=> ?_)
 exact gV T rfl rfl rfl rfl<|geo
 refine gco 5 rfl<|xIx h aI rfl (fun b6 h=> ?_)
 refine xLd rfl<|xC0 h (b ·) rfl (fun b2 h=> ?_)
 refine oCk h (fun U h=> ?_)
 refine gV U rfl rfl rfl rfl<|oCk h (fun V h=> ?_)
 refine gV V rfl rfl rfl rfl<|goc 7 rfl<|cLp h [(4,5),(90,118)] [] (fun(j,o)=>([(4,St' j),(5,I64 o)],[])) (fun(l,p,g)=>(.e 1,[(4,St' l),(5,I64 p),(94,Bo g)],[])) rfl (fun st _ h=> ?_) (fun q h=> ?_)
 obtain⟨j,o⟩:=st; unfold eO at h; refine gco 6 rfl<|xLn rfl<|goc 2 rfl<|cIf h rfl (fun c0 h=> ?_) (fun c0 h=> ?_)
 refine gcc 2 rfl<|cJn h [(4,4),(97,118)] [] (fun m=>(.n,[(4,St' m)],[])) (fun _ h=> ?_) (fun m h=> ?_)
 refine gcc 7 rfl<|cIf h rfl (fun c1 h=> ?_) (fun c1 h=> ?_)
 refine gco 2 rfl<|oCk h (fun s h=> ?_)
 refine gV s rfl rfl rfl rfl<|goo 7 rfl<|xIx h aM rfl (fun a2 h=> ?_)
 refine goo 2 rfl<|xC0 h (b ·) rfl (fun Y h=> ?_)
 refine oCk h (fun t h=> ?_)
 refine gV t rfl rfl rfl rfl<|oCk h (fun v h=> ?_)
 refine gV v rfl rfl rfl rfl<|goo 3 rfl<|xIx h aM rfl (fun a4 h=> ?_)
 refine goo 2 rfl<|xC0 h (b ·) rfl (fun a0 h=> ?_)
 refine oCk h (fun y h=> ?_)
 exact gV y rfl rfl rfl rfl<|geo
 refine gco 6 rfl<|xIx h aM rfl (fun a3 h=> ?_)
 refine goo 2 rfl<|xC0 h (b ·) rfl (fun Z h=> ?_)
 refine oCk h (fun u h=> ?_)
 refine gV u rfl rfl rfl rfl<|oCk h (fun w h=> ?_)
 refine gV w rfl rfl rfl rfl<|goo 3 rfl<|xIx h aM rfl (fun a5 h=> ?_)
 refine goo 2 rfl<|xC0 h (b ·) rfl (fun a1 h=> ?_)
 refine oCk h (fun z h=> ?_)
 exact gV z rfl rfl rfl rfl<|geo
 exact gec; exact gec; obtain⟨l,p,g⟩:=q; refine gco 3 rfl<|oCk h (fun A h=> ?_)
 exact gV A rfl rfl rfl rfl<|geo
def iH:Nat→(dP)×(fQ)
  | 0=>((fun _ _ _ _ _=>none),(fun _=>none))
  | n+1=>(jZ n ((iH n).1) ((iH n).2),kA n ((iH n).1) ((iH n).2))
def cA(n:Nat):dP:=(iH n).1
def iI(n:Nat):fQ:=(iH n).2
theorem oT(n:Nat):kO (cA n)∧kP (iI n):=by
  induction n with
  | zero=>exact⟨(fun h=>nomatch h),(fun h=>nomatch h)⟩
  | succ n ih=>exact⟨xC (n:=n) (ih.1) (ih.2),xD (n:=n) (ih.1) (ih.2)⟩
theorem AJ{n:Nat}:kO (cA n):=(oT n).1
theorem Jg{n:Nat}:kP (iI n):=(oT n).2
theorem uG(n:Nat):cA (n+1)=jZ n (cA n) (iI n):=rfl
theorem uH(n:Nat):iI (n+1)=kA n (cA n) (iI n):=rfl
abbrev AY(p:Int→Int→(List UInt8)→(List aB)→(List aA)→Option ((List UInt8))):Prop:= ∀ {a b:Int} {d:List UInt8} {f:List aB} {g:List aA} {r:(List UInt8)},p a b d f g=some r→Big Tryd.prog τ An (.fn 7 [.one (.ag [.int .i64 a, .int .i64 b, .str d, .sl (f.map aH), .sl (g.map aG)])] [] (.one (.c (.str r))) none [] none)
def iF(n:Nat)(a:Int)(b:Int)(c:List UInt8)(d:List aB)(f:List aA):Option ((List UInt8)):=
  (kJ n a b c d f).bind fun g=>bif !g then some ([]:List UInt8)else(cA n a b c d f).bind fun j=>some j
theorem vS{n:Nat}:AY (iF n):=by
 intro d f g j l r h; unfold iF at h; refine bF Tryd.func7 rfl rfl<|gco 9 rfl<|xC0 h (AN ·) rfl (fun a h=> ?_)
 refine goc 2 rfl<|cIf h rfl (fun c h=> ?_) (fun c h=> ?_)
 exact gec; refine gco 4 rfl<|xC0 h (AJ ·) rfl (fun b h=> ?_)
 exact geo
abbrev bG:Type:=Int→Int→(List UInt8)→(List aD)→(List aC)→Int→Int→(List UInt8)→(List aD)→(List aC)→Option (Int×Int×(List UInt8)×(List aB)×(List aA)×Int×Int×(List UInt8)×(List aB)×(List aA))
abbrev dX(p:bG):Prop:= ∀ {a b:Int} {c:List UInt8} {d:List aD} {f:List aC} {g j:Int} {l:List UInt8} {m:List aD} {o:List aC} {r:Int×Int×(List UInt8)×(List aB)×(List aA)×Int×Int×(List UInt8)×(List aB)×(List aA)},p a b c d f g j l m o=some r→Big Tryd.prog τ An (.fn 50 [.one (.ag [.int .i64 a, .int .i64 b, .str c, .sl (d.map rS_laws_Expr), .sl (f.map aJ), .int .i64 g, .int .i64 j, .str l, .sl (m.map rS_laws_Expr), .sl (o.map aJ)])] [] (.one (.ag [.int .i64 r.1, .int .i64 r.2.1, .str r.2.2.1, .sl (r.2.2.2.1.map aH), .sl (r.2.2.2.2.1.map aG), .int .i64 r.2.2.2.2.2.1, .int .i64 r.2.2.2.2.2.2.1, .str r.2.2.2.2.2.2.2.1, .sl (r.2.2.2.2.2.2.2.2.1.map aH), .sl (r.2.2.2.2.2.2.2.2.2.map aG)])) none [] none)
abbrev bK:Type:=(List aC)→Option ((List aA))
abbrev dM(p:bK):Prop:= ∀ {a:List aC} {r:(List aA)},p a=some r→Big Tryd.prog τ An (.fn 25 [.one (.c (.sl (a.map aJ)))] [] (.one (.c (.sl (r.map aG)))) none [] none)
abbrev bW:Type:=(List aD)→Option ((List aB))
abbrev eZ(p:bW):Prop:= ∀ {a:List aD} {r:(List aB)},p a=some r→Big Tryd.prog τ An (.fn 24 [.one (.c (.sl (a.map rS_laws_Expr)))] [] (.one (.c (.sl (r.map aH)))) none [] none)
abbrev cD:Type:=Int→Int→(List UInt8)→(List aD)→(List aC)→Option (Int×Int×(List UInt8)×(List aB)×(List aA))
abbrev fT(p:cD):Prop:= ∀ {a b:Int} {c:List UInt8} {d:List aD} {f:List aC} {r:Int×Int×(List UInt8)×(List aB)×(List aA)},p a b c d f=some r→Big Tryd.prog τ An (.fn 8 [.one (.ag [.int .i64 a, .int .i64 b, .str c, .sl (d.map rS_laws_Expr), .sl (f.map aJ)])] [] (.one (.ag [.int .i64 r.1, .int .i64 r.2.1, .str r.2.2.1, .sl (r.2.2.2.1.map aH), .sl (r.2.2.2.2.map aG)])) none [] none)
def hY(n:Nat)(a:cD)(g:bW)(d:bK)(f:bG)(j:Int)(l:Int)(m:List UInt8)(o:List aD)(p:List aC)(s:Int)(t:Int)(u:List UInt8)(v:List aD)(w:List aC):Option (Int×Int×(List UInt8)×(List aB)×(List aA)×Int×Int×(List UInt8)×(List aB)×(List aA)):=
  (a j l m o p).bind fun c=>(a s t u v w).bind fun b=>some (c.1,c.2.1,c.2.2.1,c.2.2.2.1,c.2.2.2.2,b.1,b.2.1,b.2.2.1,b.2.2.2.1,b.2.2.2.2)
theorem uD{n:Nat}{f:cD}(c:fT f){d:bW}(l:eZ d){a:bK}(g:dM a){b:bG}(j:dX b):dX (hY n f d a b):=by
 intro p s t u v w y z A B r h; unfold hY at h; refine bF Tryd.func50 rfl rfl<|gco 3 rfl<|xAz [.int .i64 0, .int .i64 0, .str [], .sl ([].map aH), .sl ([].map aG), .int .i64 0, .int .i64 0, .str [], .sl ([].map aH), .sl ([].map aG)] rfl<|oRs<|xAz [.int .i64 0, .int .i64 0, .str [], .sl ([].map aH), .sl ([].map aG), .int .i64 0, .int .i64 0, .str [], .sl ([].map aH), .sl ([].map aG)] rfl<|goo 5 rfl<|xC0 h (c ·) rfl (fun o h=> ?_)
 refine goo 7 rfl<|xC0 h (c ·) rfl (fun m h=> ?_)
 exact geo
def fW(n:Nat)(c:bG)(g:List aC):((List aA)×Int)→Option (((List aA)×Int)⊕(((List aA)×Int×Bool)))
  | (f,d)=>bif decide (d<(g.length:Int))then(ix g d).bind fun b=>(c b.f0 b.f1 b.f2 b.f3 b.f4 b.f5 b.f6 b.f7 b.f8 b.f9).bind fun a=>(ix f d).bind fun l=>(some (f.set (Int.toNat d) (aA.mk a.1 a.2.1 a.2.2.1 a.2.2.2.1 a.2.2.2.2.1 a.2.2.2.2.2.1 a.2.2.2.2.2.2.1 a.2.2.2.2.2.2.2.1 a.2.2.2.2.2.2.2.2.1 a.2.2.2.2.2.2.2.2.2))).bind fun j=>some (.inl (j,(IntKind.wrap .i64 (d+(1:Int)))))else some (.inr (f,d,false))
def gF(n:Nat)(f:cD)(d:bW)(c:bK)(a:bG)(b:List aC):Option ((List aA)):=
  (ck (decide (0≤(b.length:Int)∧(b.length:Int)≤maxLen∧160*(b.length:Int)≤281474976710656))).bind fun _=>(loopN (fW n a b) n ((List.replicate (Int.toNat (b.length:Int)) (aA.mk (0:Int) (0:Int) ([]:List UInt8) ([]:List aB) ([]:List aA) (0:Int) (0:Int) ([]:List UInt8) ([]:List aB) ([]:List aA))),(0:Int))).bind fun(g,l,j)=>some g
theorem sF{n:Nat}{j:cD}(s:fT j){g:bW}(o:eZ g){c:bK}(m:dM c){d:bG}(l:dX d):dM (gF n j g c d):=by
 intro E r h; unfold gF at h; refine bF Tryd.func25 rfl rfl<|cRs<|wAe (Li aG []) rfl rfl rfl rfl<|goo 4 rfl<|xLn rfl<|oCk h (fun y h=> ?_)
 refine wMk (z:=aA.mk (0:Int) (0:Int) ([]:List UInt8) ([]:List aB) ([]:List aA) (0:Int) (0:Int) ([]:List UInt8) ([]:List aB) ([]:List aA)) (f:=aG) y rfl rfl rfl rfl rfl rfl rfl<|goc 7 rfl<|cLp h [(3,4),(8,21)] [] (fun(t,v)=>([(3,Li aG t),(4,I64 v)],[])) (fun(u,w,p)=>(.e 0,[(3,Li aG u),(4,I64 w),(11,Bo p)],[])) rfl (fun st _ h=> ?_) (fun q h=> ?_)
 obtain⟨t,v⟩:=st; unfold fW at h; refine gco 5 rfl<|xLn rfl<|goc 2 rfl<|cIf h rfl (fun D h=> ?_) (fun D h=> ?_)
 refine gco 4 rfl<|wAl rfl rfl rfl rfl<|goo 3 rfl<|xIx h fK rfl (fun B h=> ?_)
 refine xLd rfl<|xC0 h (l ·) rfl (fun b h=> ?_)
 refine wIp (f:=aG) h rfl rfl rfl rfl rfl rfl (fun a=>by rw[aM]; rfl) rfl (fun A ke21_10 h=> ?_)
 refine wSpN (f:=aG) (v':=aA.mk b.1 b.2.1 b.2.2.1 b.2.2.2.1 b.2.2.2.2.1 b.2.2.2.2.2.1 b.2.2.2.2.2.2.1 b.2.2.2.2.2.2.2.1 b.2.2.2.2.2.2.2.2.1 b.2.2.2.2.2.2.2.2.2) h ke21_10 rfl rfl rfl rfl rfl rfl rfl (by rw[aM]; rfl) (by rw[aM,vP]; rfl) (fun C h=> ?_)
 exact geo; exact gec; obtain⟨u,w,p⟩:=q; exact gec
def iO(n:Nat)(d:cD)(g:List aD):((List aB)×Int)→Option (((List aB)×Int)⊕(((List aB)×Int×Bool)))
  | (f,c)=>bif decide (c<(g.length:Int))then(ix g c).bind fun b=>(d b.f0 b.f1 b.f2 b.f3 b.f4).bind fun a=>(ix f c).bind fun l=>(some (f.set (Int.toNat c) (aB.mk a.1 a.2.1 a.2.2.1 a.2.2.2.1 a.2.2.2.2))).bind fun j=>some (.inl (j,(IntKind.wrap .i64 (c+(1:Int)))))else some (.inr (f,c,false))
def iX(n:Nat)(a:cD)(f:bW)(c:bK)(d:bG)(b:List aD):Option ((List aB)):=
  (ck (decide (0≤(b.length:Int)∧(b.length:Int)≤maxLen∧80*(b.length:Int)≤281474976710656))).bind fun _=>(loopN (iO n a b) n ((List.replicate (Int.toNat (b.length:Int)) (aB.mk (0:Int) (0:Int) ([]:List UInt8) ([]:List aB) ([]:List aA))),(0:Int))).bind fun(g,l,j)=>some g
theorem vL{n:Nat}{g:cD}(l:fT g){d:bW}(p:eZ d){b:bK}(m:dM b){c:bG}(o:dX c):eZ (iX n g d b c):=by
 intro E r h; unfold iX at h; refine bF Tryd.func24 rfl rfl<|cRs<|wAe (Li aH []) rfl rfl rfl rfl<|goo 4 rfl<|xLn rfl<|oCk h (fun y h=> ?_)
 refine wMk (z:=aB.mk (0:Int) (0:Int) ([]:List UInt8) ([]:List aB) ([]:List aA)) (f:=aH) y rfl rfl rfl rfl rfl rfl rfl<|goc 7 rfl<|cLp h [(3,4),(8,21)] [] (fun(t,v)=>([(3,Li aH t),(4,I64 v)],[])) (fun(u,w,s)=>(.e 0,[(3,Li aH u),(4,I64 w),(11,Bo s)],[])) rfl (fun st _ h=> ?_) (fun q h=> ?_)
 obtain⟨t,v⟩:=st; unfold iO at h; refine gco 5 rfl<|xLn rfl<|goc 2 rfl<|cIf h rfl (fun D h=> ?_) (fun D h=> ?_)
 refine gco 4 rfl<|wAl rfl rfl rfl rfl<|goo 3 rfl<|xIx h bZ rfl (fun B h=> ?_)
 refine xLd rfl<|xC0 h (l ·) rfl (fun j h=> ?_)
 refine wIp (f:=aH) h rfl rfl rfl rfl rfl rfl (fun a=>by rw[aI]; rfl) rfl (fun A ke21_10 h=> ?_)
 refine wSpN (f:=aH) (v':=aB.mk j.1 j.2.1 j.2.2.1 j.2.2.2.1 j.2.2.2.2) h ke21_10 rfl rfl rfl rfl rfl rfl rfl (by rw[aI]; rfl) (by rw[aI,qA]; rfl) (fun C h=> ?_)
 exact geo; exact gec; obtain⟨u,w,s⟩:=q; exact gec
def kD(n:Nat)(d:cD)(b:bW)(a:bK)(c:bG)(j:Int)(l:Int)(m:List UInt8)(o:List aD)(p:List aC):Option (Int×Int×(List UInt8)×(List aB)×(List aA)):=
  (b o).bind fun f=>(a p).bind fun g=>some (j,l,m,f,g)
theorem xH{n:Nat}{d:cD}(l:fT d){c:bW}(g:eZ c){a:bK}(f:dM a){b:bG}(j:dX b):fT (kD n d c a b):=by
 intro p s t u v r h; unfold kD at h; refine bF Tryd.func8 rfl rfl<|gco 3 rfl<|xAz [.int .i64 0, .int .i64 0, .str [], .sl ([].map aH), .sl ([].map aG)] rfl<|oRs<|xAz [.int .i64 0, .int .i64 0, .str [], .sl ([].map aH), .sl ([].map aG)] rfl<|goo 26 rfl<|xC0 h (g ·) rfl (fun m h=> ?_)
 refine goo 7 rfl<|xC0 h (f ·) rfl (fun o h=> ?_)
 exact geo
def aN:Nat→(cD)×(bW)×(bK)×(bG)
  | 0=>((fun _ _ _ _ _=>none),(fun _=>none),(fun _=>none),(fun _ _ _ _ _ _ _ _ _ _=>none))
  | n+1=>(kD n ((aN n).1) ((aN n).2.1) ((aN n).2.2.1) ((aN n).2.2.2),iX n ((aN n).1) ((aN n).2.1) ((aN n).2.2.1) ((aN n).2.2.2),gF n ((aN n).1) ((aN n).2.1) ((aN n).2.2.1) ((aN n).2.2.2),hY n ((aN n).1) ((aN n).2.1) ((aN n).2.2.1) ((aN n).2.2.2))
def bE(n:Nat):cD:=(aN n).1
def dQ(n:Nat):bW:=(aN n).2.1
def cR(n:Nat):bK:=(aN n).2.2.1
def dD(n:Nat):bG:=(aN n).2.2.2
theorem jN(n:Nat):fT (bE n)∧eZ (dQ n)∧dM (cR n)∧dX (dD n):=by
  induction n with
  | zero=>exact⟨(fun h=>nomatch h),(fun h=>nomatch h),(fun h=>nomatch h),(fun h=>nomatch h)⟩
  | succ n ih=>exact⟨xH (n:=n) (ih.1) (ih.2.1) (ih.2.2.1) (ih.2.2.2),vL (n:=n) (ih.1) (ih.2.1) (ih.2.2.1) (ih.2.2.2),sF (n:=n) (ih.1) (ih.2.1) (ih.2.2.1) (ih.2.2.2),uD (n:=n) (ih.1) (ih.2.1) (ih.2.2.1) (ih.2.2.2)⟩
theorem mM{n:Nat}:fT (bE n):=(jN n).1
theorem IC{n:Nat}:eZ (dQ n):=(jN n).2.1
theorem Gf{n:Nat}:dM (cR n):=(jN n).2.2.1
theorem HN{n:Nat}:dX (dD n):=(jN n).2.2.2
theorem uK(n:Nat):bE (n+1)=kD n (bE n) (dQ n) (cR n) (dD n):=rfl
theorem sK(n:Nat):dQ (n+1)=iX n (bE n) (dQ n) (cR n) (dD n):=rfl
theorem qJ(n:Nat):cR (n+1)=gF n (bE n) (dQ n) (cR n) (dD n):=rfl
theorem rE(n:Nat):dD (n+1)=hY n (bE n) (dQ n) (cR n) (dD n):=rfl
abbrev BK(p:Int→Int→Int→Option (Bool)):Prop:= ∀ {a b d:Int} {r:Bool},p a b d=some r→Big Tryd.prog τ An (.fn 87 [.one (.c (.int .i64 a)), .one (.c (.int .i64 b)), .one (.c (.int .i64 d))] [] (.one (.c (.bool r))) none [] none)
def dT(n:Nat)(a:Int)(b:Int)(c:Int):Option (Bool):=
  (bif decide (b≤a)then some (decide (a≤c))else some false).bind fun d=>some d
theorem jQ{n:Nat}:BK (dT n):=by
 intro c d f r h; unfold dT at h; refine bF Tryd.func87 rfl rfl<|gco 6 rfl<|oJn h [(6,14)] [] (fun a=>(.n,[(6,Bo a)],[])) (fun _ h=> ?_) (fun a h=> ?_)
 refine goo 4 rfl<|oIf 10 h rfl (fun b h=> ?_) (fun b h=> ?_)
 exact geo; exact geo; exact gec
abbrev BJ(p:Int→Option (Bool)):Prop:= ∀ {a:Int} {r:Bool},p a=some r→Big Tryd.prog τ An (.fn 99 [.one (.c (.int .u8 a))] [] (.one (.c (.bool r))) none [] none)
def gP(n:Nat)(a:Int):Option (Bool):=
  (bif decide ((65:Int)≤a)then bif decide (a≤(90:Int))then some true else some (decide (a=(95:Int)))else some (decide (a=(95:Int)))).bind fun b=>some b
theorem oY{n:Nat}:BJ (gP n):=by
 intro d r h; unfold gP at h; refine bF Tryd.func99 rfl rfl<|gco 6 rfl<|oJn h [(2,12)] [] (fun a=>(.n,[(2,Bo a)],[])) (fun _ h=> ?_) (fun a h=> ?_)
 refine goo 3 rfl<|oIf 5 h rfl (fun b h=> ?_) (fun b h=> ?_)
 refine goo 4 rfl<|oIf 9 h rfl (fun c h=> ?_) (fun c h=> ?_)
 exact geo; exact geo; exact geo; exact gec
abbrev BI(p:Int→Option (Bool)):Prop:= ∀ {a:Int} {r:Bool},p a=some r→Big Tryd.prog τ An (.fn 107 [.one (.c (.int .u8 a))] [] (.one (.c (.bool r))) none [] none)
def eW(n:Nat)(a:Int):Option (Bool):=
  (bif decide ((97:Int)≤a)then some (decide (a≤(122:Int)))else some false).bind fun b=>some b
theorem oX{n:Nat}:BI (eW n):=by
 intro c r h; unfold eW at h; refine bF Tryd.func107 rfl rfl<|gco 6 rfl<|oJn h [(2,8)] [] (fun a=>(.n,[(2,Bo a)],[])) (fun _ h=> ?_) (fun a h=> ?_)
 refine goo 3 rfl<|oIf 5 h rfl (fun b h=> ?_) (fun b h=> ?_)
 exact geo; exact geo; exact gec
abbrev AZ(p:Int→Option (Bool)):Prop:= ∀ {a:Int} {r:Bool},p a=some r→Big Tryd.prog τ An (.fn 108 [.one (.c (.int .u8 a))] [] (.one (.c (.bool r))) none [] none)
def dV(n:Nat)(a:Int):Option (Bool):=
  (bif decide ((48:Int)≤a)then some (decide (a≤(57:Int)))else some false).bind fun b=>some b
theorem oH{n:Nat}:AZ (dV n):=by
 intro c r h; unfold dV at h; refine bF Tryd.func108 rfl rfl<|gco 6 rfl<|oJn h [(2,8)] [] (fun a=>(.n,[(2,Bo a)],[])) (fun _ h=> ?_) (fun a h=> ?_)
 refine goo 3 rfl<|oIf 5 h rfl (fun b h=> ?_) (fun b h=> ?_)
 exact geo; exact geo; exact gec
abbrev vV(p:Int→Option (Bool)):Prop:= ∀ {a:Int} {r:Bool},p a=some r→Big Tryd.prog τ An (.fn 98 [.one (.c (.int .u8 a))] [] (.one (.c (.bool r))) none [] none)
def fN(n:Nat)(a:Int):Option (Bool):=
  ((eW n a).bind fun c=>bif c then some true else(gP n a).bind fun d=>bif d then some true else(dV n a).bind fun b=>some b).bind fun f=>some f
theorem sR{n:Nat}:vV (fN n):=by
 intro j r h; unfold fN at h; refine bF Tryd.func98 rfl rfl<|gco 6 rfl<|oJn h [(2,12)] [] (fun a=>(.n,[(2,Bo a)],[])) (fun _ h=> ?_) (fun a h=> ?_)
 refine xMv rfl<|xC0 h (oX ·) rfl (fun c h=> ?_)
 refine xMv rfl<|oIf 5 h rfl (fun f h=> ?_) (fun f h=> ?_)
 exact geo; refine xMv rfl<|xC0 h (oY ·) rfl (fun d h=> ?_)
 refine goo 2 rfl<|oIf 9 h rfl (fun g h=> ?_) (fun g h=> ?_)
 exact geo; refine xMv rfl<|xC0 h (oH ·) rfl (fun b h=> ?_)
 exact geo; exact gec
abbrev EU(p:(List UInt8)→Option (Bool)):Prop:= ∀ {a:List UInt8} {r:Bool},p a=some r→Big Tryd.prog τ An (.fn 82 [.one (.c (.str a))] [] (.one (.c (.bool r))) none [] none)
def kR(n:Nat)(b:List UInt8):(Int)→Option ((Int)⊕((Bool)⊕(Int×Bool)))
  | a=>bif decide (a<(b.length:Int))then(ixs b a).bind fun d=>(fN n d).bind fun c=>bif !c then some (.inr (.inl false))else some (.inl (IntKind.wrap .i64 (a+(1:Int))))else some (.inr (.inr (a,false)))
def lH(n:Nat)(a:List UInt8):Option (Bool):=
  (loopN (kR n a) n (0:Int)).bind fun q=>(match q with | .inl f=>some f | .inr (j,l)=>((dT n (a.length:Int) (1:Int) (20:Int)).bind fun b=>bif b then(ixs a (0:Int)).bind fun d=>(gP n d).bind fun c=>some c else some false).bind fun g=>some g)
theorem Ay{n:Nat}:EU (lH n):=by
 intro u r h; unfold lH at h; refine bF Tryd.func82 rfl rfl<|gcc 9 rfl<|cLp h [(2,14)] [] (fun c=>([(3,I64 c)],[])) (fun q=>match q with | .inl a=>(.r,[(2,Bo a)],[]) | .inr (d,f)=>(.e 0,[(3,I64 d),(7,Bo f)],[])) rfl (fun c _ h=> ?_) (fun q h=> ?_)
 unfold kR at h; refine gco 5 rfl<|xLs rfl<|goc 2 rfl<|cIf h rfl (fun s h=> ?_) (fun s h=> ?_)
 refine gco 7 rfl<|He h rfl rfl rfl rfl rfl (fun p h=> ?_)
 refine xC0 h (sR ·) rfl (fun o h=> ?_)
 refine goc 2 rfl<|cIf h rfl (fun t h=> ?_) (fun t h=> ?_)
 exact gec; exact gec; exact gec; rcases q with a | ⟨d,f⟩; exact en; refine cRs<|oJn h [(2,2),(15,22)] [] (fun b=>(.n,[(2,Bo b)],[])) (fun _ h=> ?_) (fun b h=> ?_)
 refine xMv rfl<|xLs rfl<|xC0 h (jQ ·) rfl (fun g h=> ?_)
 refine xMv rfl<|oIf 18 h rfl (fun m h=> ?_) (fun m h=> ?_)
 refine xMv rfl<|He h rfl rfl rfl rfl rfl (fun l h=> ?_)
 refine xC0 h (oY ·) rfl (fun j h=> ?_)
 exact geo; exact geo; exact gec
abbrev Cx(p:(List UInt8)→Option (Bool)):Prop:= ∀ {a:List UInt8} {r:Bool},p a=some r→Big Tryd.prog τ An (.fn 100 [.one (.c (.str a))] [] (.one (.c (.bool r))) none [] none)
def jM(n:Nat)(b:List UInt8):(Int)→Option ((Int)⊕((Bool)⊕(Int×Bool)))
  | a=>bif decide (a<(b.length:Int))then((ixs b a).bind fun j=>(eW n j).bind fun g=>bif !g then bif decide (a=(0:Int))then some true else(ixs b a).bind fun d=>(dV n d).bind fun c=>bif !c then(ixs b a).bind fun f=>some (!decide (f=(95:Int)))else some false else some false).bind fun l=>bif l then some (.inr (.inl false))else some (.inl (IntKind.wrap .i64 (a+(1:Int))))else some (.inr (.inr (a,false)))
def kM(n:Nat)(b:List UInt8):Option (Bool):=
  (loopN (jM n b) n (0:Int)).bind fun q=>(match q with | .inl c=>some c | .inr (d,f)=>(dT n (b.length:Int) (1:Int) (20:Int)).bind fun a=>some a)
theorem AS{n:Nat}:Cx (kM n):=by
 intro y r h; unfold kM at h; refine bF Tryd.func100 rfl rfl<|gcc 9 rfl<|cLp h [(2,31)] [] (fun c=>([(3,I64 c)],[])) (fun q=>match q with | .inl b=>(.r,[(2,Bo b)],[]) | .inr (d,f)=>(.e 0,[(3,I64 d),(7,Bo f)],[])) rfl (fun c _ h=> ?_) (fun q h=> ?_)
 unfold jM at h; refine gco 5 rfl<|xLs rfl<|goc 2 rfl<|cIf h rfl (fun v h=> ?_) (fun v h=> ?_)
 refine gco 5 rfl<|oJn h [(10,31)] [] (fun a=>(.n,[(31,Bo a)],[])) (fun _ h=> ?_) (fun a h=> ?_)
 refine goo 2 rfl<|He h rfl rfl rfl rfl rfl (fun u h=> ?_)
 refine xC0 h (oX ·) rfl (fun t h=> ?_)
 refine goo 2 rfl<|oIf 15 h rfl (fun w h=> ?_) (fun w h=> ?_)
 refine goo 3 rfl<|oIf 18 h rfl (fun o h=> ?_) (fun o h=> ?_)
 exact geo; refine goo 2 rfl<|He h rfl rfl rfl rfl rfl (fun l h=> ?_)
 refine xC0 h (oH ·) rfl (fun g h=> ?_)
 refine goo 2 rfl<|oIf 24 h rfl (fun p h=> ?_) (fun p h=> ?_)
 refine goo 2 rfl<|He h rfl rfl rfl rfl rfl (fun m h=> ?_)
 exact geo; exact geo; exact geo; refine cIf h rfl (fun s h=> ?_) (fun s h=> ?_)
 exact gec; exact gec; exact gec; rcases q with b | ⟨d,f⟩; exact en; refine gco 3 rfl<|xLs rfl<|xC0 h (jQ ·) rfl (fun j h=> ?_)
 exact geo
abbrev BG(p:(List UInt8)→Option (Bool)):Prop:= ∀ {a:List UInt8} {r:Bool},p a=some r→Big Tryd.prog τ An (.fn 83 [.one (.c (.str a))] [] (.one (.c (.bool r))) none [] none)
def gM(n:Nat)(a:List UInt8):Option (Bool):=
  ((kM n a).bind fun b=>bif b then bif !decide (a=([99,97,115,101]:List UInt8))then bif !decide (a=([111,102]:List UInt8))then some (!decide (a=([101,110,100]:List UInt8)))else some false else some false else some false).bind fun c=>some c
theorem oV{n:Nat}:BG (gM n):=by
 intro g r h; unfold gM at h; refine bF Tryd.func83 rfl rfl<|gco 6 rfl<|oJn h [(2,16)] [] (fun a=>(.n,[(2,Bo a)],[])) (fun _ h=> ?_) (fun a h=> ?_)
 refine xMv rfl<|xC0 h (AS ·) rfl (fun b h=> ?_)
 refine xMv rfl<|oIf 5 h rfl (fun c h=> ?_) (fun c h=> ?_)
 refine goo 4 rfl<|oIf 9 h rfl (fun d h=> ?_) (fun d h=> ?_)
 refine goo 4 rfl<|oIf 13 h rfl (fun f h=> ?_) (fun f h=> ?_)
 exact geo; exact geo; exact geo; exact geo; exact gec
abbrev Fl(p:(List UInt8)→Option (Bool)):Prop:= ∀ {a:List UInt8} {r:Bool},p a=some r→Big Tryd.prog τ An (.fn 88 [.one (.c (.str a))] [] (.one (.c (.bool r))) none [] none)
def mJ(n:Nat)(a:List UInt8):Option (Bool):=
  bif decide (a=([43]:List UInt8))then some true else bif decide (a=([45]:List UInt8))then some true else bif decide (a=([42]:List UInt8))then some true else bif decide (a=([61,61]:List UInt8))then some true else bif decide (a=([60]:List UInt8))then some true else some false
theorem Cq{n:Nat}:Fl (mJ n):=by
 intro g r h; unfold mJ at h; refine bF Tryd.func88 rfl rfl<|gcc 16 rfl<|cIf h rfl (fun a h=> ?_) (fun a h=> ?_)
 exact gec; refine gcc 5 rfl<|cIf h rfl (fun b h=> ?_) (fun b h=> ?_)
 exact gec; refine gcc 5 rfl<|cIf h rfl (fun c h=> ?_) (fun c h=> ?_)
 exact gec; refine gcc 5 rfl<|cIf h rfl (fun d h=> ?_) (fun d h=> ?_)
 exact gec; refine gcc 4 rfl<|cIf h rfl (fun f h=> ?_) (fun f h=> ?_)
 exact gec; exact gec
abbrev BH(p:Int→Int→(List UInt8)→Int→Option (Bool)):Prop:= ∀ {a b:Int} {d:List UInt8} {f:Int} {r:Bool},p a b d f=some r→Big Tryd.prog τ An (.fn 71 [.one (.c (.int .i64 a)), .one (.c (.int .i64 b)), .one (.c (.str d)), .one (.c (.int .i64 f))] [] (.one (.c (.bool r))) none [] none)
def gO(n:Nat)(a:Int)(b:Int)(c:List UInt8)(d:Int):Option (Bool):=
  bif decide (a=(1:Int))then((dT n b (0:Int) (1000000000000:Int)).bind fun m=>bif m then bif decide (c=([]:List UInt8))then some (decide (d=(0:Int)))else some false else some false).bind fun z=>some z else bif decide (a=(2:Int))then(bif decide (b=(0:Int))then(gM n c).bind fun o=>bif o then some (decide (d=(0:Int)))else some false else some false).bind fun A=>some A else bif decide (a=(3:Int))then(bif decide (b=(0:Int))then(lH n c).bind fun f=>bif f then some (decide (d=(0:Int)))else some false else some false).bind fun p=>some p else bif decide (a=(4:Int))then(bif decide (b=(0:Int))then bif decide (c=([]:List UInt8))then some (decide (d≤(20:Int)))else some false else some false).bind fun s=>some s else bif decide (a=(5:Int))then(bif decide (b=(0:Int))then bif decide (c=([]:List UInt8))then some (decide (d≤(20:Int)))else some false else some false).bind fun t=>some t else bif decide (a=(6:Int))then(bif decide (b=(0:Int))then bif decide (c=([]:List UInt8))then(dT n d (2:Int) (6:Int)).bind fun g=>some g else some false else some false).bind fun u=>some u else bif decide (a=(7:Int))then(bif decide (b=(0:Int))then(mJ n c).bind fun j=>bif j then some (decide (d=(2:Int)))else some false else some false).bind fun v=>some v else bif decide (a=(8:Int))then(bif decide (b=(0:Int))then(gM n c).bind fun l=>bif l then some (decide (d≤(4:Int)))else some false else some false).bind fun w=>some w else bif decide (a=(9:Int))then(bif decide (b=(0:Int))then bif decide (c=([]:List UInt8))then some (decide (d=(1:Int)))else some false else some false).bind fun y=>some y else some false
theorem oW{n:Nat}:BH (gO n):=by
 intro a2 a3 a4 a5 r h; unfold gO at h; refine bF Tryd.func71 rfl rfl<|gcc 15 rfl<|cIf h rfl (fun X h=> ?_) (fun X h=> ?_)
 refine cRs<|oJn h [(8,8),(12,21)] [] (fun l=>(.n,[(8,Bo l)],[])) (fun _ h=> ?_) (fun l h=> ?_)
 refine xMv rfl<|xC0 h (jQ ·) rfl (fun V h=> ?_)
 refine xMv rfl<|oIf 14 h rfl (fun Y h=> ?_) (fun Y h=> ?_)
 refine goo 4 rfl<|oIf 18 h rfl (fun Z h=> ?_) (fun Z h=> ?_)
 exact geo; exact geo; exact geo; exact gec; refine gcc 5 rfl<|cIf h rfl (fun q6 h=> ?_) (fun q6 h=> ?_)
 refine cRs<|oJn h [(8,8),(24,33)] [] (fun m=>(.n,[(8,Bo m)],[])) (fun _ h=> ?_) (fun m h=> ?_)
 refine goo 3 rfl<|oIf 26 h rfl (fun q8 h=> ?_) (fun q8 h=> ?_)
 refine xMv rfl<|xC0 h (oV ·) rfl (fun W h=> ?_)
 refine goo 2 rfl<|oIf 30 h rfl (fun u h=> ?_) (fun u h=> ?_)
 exact geo; exact geo; exact geo; exact gec; refine gcc 5 rfl<|cIf h rfl (fun v h=> ?_) (fun v h=> ?_)
 refine cRs<|oJn h [(8,8),(36,45)] [] (fun a=>(.n,[(8,Bo a)],[])) (fun _ h=> ?_) (fun a h=> ?_)
 refine goo 3 rfl<|oIf 38 h rfl (fun w h=> ?_) (fun w h=> ?_)
 refine xMv rfl<|xC0 h (Ay ·) rfl (fun o h=> ?_)
 refine goo 2 rfl<|oIf 42 h rfl (fun y h=> ?_) (fun y h=> ?_)
 exact geo; exact geo; exact geo; exact gec; refine gcc 6 rfl<|cIf h rfl (fun z h=> ?_) (fun z h=> ?_)
 refine gco 4 rfl<|oJn h [(8,8),(49,58)] [] (fun b=>(.n,[(8,Bo b)],[])) (fun _ h=> ?_) (fun b h=> ?_)
 refine goo 3 rfl<|oIf 51 h rfl (fun A h=> ?_) (fun A h=> ?_)
 refine goo 4 rfl<|oIf 55 h rfl (fun B h=> ?_) (fun B h=> ?_)
 exact geo; exact geo; exact geo; exact gec; refine gcc 4 rfl<|cIf h rfl (fun C h=> ?_) (fun C h=> ?_)
 refine cRs<|oJn h [(8,8),(49,58)] [] (fun c=>(.n,[(8,Bo c)],[])) (fun _ h=> ?_) (fun c h=> ?_)
 refine goo 3 rfl<|oIf 51 h rfl (fun D h=> ?_) (fun D h=> ?_)
 refine goo 4 rfl<|oIf 55 h rfl (fun E h=> ?_) (fun E h=> ?_)
 exact geo; exact geo; exact geo; exact gec; refine gcc 5 rfl<|cIf h rfl (fun G h=> ?_) (fun G h=> ?_)
 refine cRs<|oJn h [(8,8),(61,70)] [] (fun d=>(.n,[(8,Bo d)],[])) (fun _ h=> ?_) (fun d h=> ?_)
 refine goo 3 rfl<|oIf 63 h rfl (fun H h=> ?_) (fun H h=> ?_)
 refine goo 4 rfl<|oIf 67 h rfl (fun I h=> ?_) (fun I h=> ?_)
 refine xMv rfl<|xC0 h (jQ ·) rfl (fun p h=> ?_)
 exact geo; exact geo; exact geo; exact gec; refine gcc 5 rfl<|cIf h rfl (fun J h=> ?_) (fun J h=> ?_)
 refine cRs<|oJn h [(8,8),(73,82)] [] (fun f=>(.n,[(8,Bo f)],[])) (fun _ h=> ?_) (fun f h=> ?_)
 refine goo 3 rfl<|oIf 75 h rfl (fun K h=> ?_) (fun K h=> ?_)
 refine xMv rfl<|xC0 h (Cq ·) rfl (fun s h=> ?_)
 refine goo 2 rfl<|oIf 79 h rfl (fun L h=> ?_) (fun L h=> ?_)
 exact geo; exact geo; exact geo; exact gec; refine gcc 5 rfl<|cIf h rfl (fun M h=> ?_) (fun M h=> ?_)
 refine cRs<|oJn h [(8,8),(85,94)] [] (fun g=>(.n,[(8,Bo g)],[])) (fun _ h=> ?_) (fun g h=> ?_)
 refine goo 3 rfl<|oIf 87 h rfl (fun N h=> ?_) (fun N h=> ?_)
 refine xMv rfl<|xC0 h (oV ·) rfl (fun t h=> ?_)
 refine goo 2 rfl<|oIf 91 h rfl (fun Q h=> ?_) (fun Q h=> ?_)
 exact geo; exact geo; exact geo; exact gec; refine gcc 5 rfl<|cIf h rfl (fun R h=> ?_) (fun R h=> ?_)
 refine cRs<|oJn h [(8,8),(97,106)] [] (fun j=>(.n,[(8,Bo j)],[])) (fun _ h=> ?_) (fun j h=> ?_)
 refine goo 3 rfl<|oIf 99 h rfl (fun T h=> ?_) (fun T h=> ?_)
 refine goo 4 rfl<|oIf 103 h rfl (fun U h=> ?_) (fun U h=> ?_)
 exact geo; exact geo; exact geo; exact gec; exact gec
abbrev sS(p:(List (List UInt8))→(List UInt8)→Option (Int)):Prop:= ∀ {a:List (List UInt8)} {b:List UInt8} {r:Int},p a b=some r→Big Tryd.prog τ An (.fn 102 [.one (.c (.sl (a.map jX))), .one (.c (.str b))] [] (.one (.c (.int .i64 r))) none [] none)
def cW(n:Nat)(b:List (List UInt8))(d:List UInt8):(Int)→Option ((Int)⊕((Int)⊕(Int×Bool)))
  | a=>bif decide (a<(b.length:Int))then(ix b a).bind fun c=>bif decide (d=c)then some (.inr (.inl a))else some (.inl (IntKind.wrap .i64 (a+(1:Int))))else some (.inr (.inr (a,false)))
def eA(n:Nat)(a:List (List UInt8))(b:List UInt8):Option (Int):=
  (loopN (cW n a b) n (0:Int)).bind fun q=>(match q with | .inl c=>some c | .inr (d,f)=>some ((-1):Int))
theorem qO{n:Nat}:sS (eA n):=by
 intro l m r h; unfold eA at h; refine bF Tryd.func102 rfl rfl<|gco 8 rfl<|xLn rfl<|goc 2 rfl<|cLp h [(4,5),(8,18)] [] (fun b=>([(8,I64 b)],[])) (fun q=>match q with | .inl a=>(.r,[(4,I64 a)],[]) | .inr (c,d)=>(.e 0,[(8,I64 c),(9,Bo d)],[])) rfl (fun b _ h=> ?_) (fun q h=> ?_)
 unfold cW at h; refine gcc 5 rfl<|cIf h rfl (fun g h=> ?_) (fun g h=> ?_)
 refine gco 13 rfl<|xIx h Ei rfl (fun f h=> ?_)
 refine goc 3 rfl<|cIf h rfl (fun j h=> ?_) (fun j h=> ?_)
 exact gec; exact gec; exact gec; rcases q with a | ⟨c,d⟩; exact en; exact gec
abbrev pB(p:(List (List UInt8))→(List UInt8)→Option (Bool)):Prop:= ∀ {a:List (List UInt8)} {b:List UInt8} {r:Bool},p a b=some r→Big Tryd.prog τ An (.fn 89 [.one (.c (.sl (a.map jX))), .one (.c (.str b))] [] (.one (.c (.bool r))) none [] none)
def cX(n:Nat)(b:List (List UInt8))(c:List UInt8):Option (Bool):=
  (eA n b c).bind fun a=>some (decide ((0:Int)≤a))
theorem oN{n:Nat}:pB (cX n):=by
 intro b c r h; unfold cX at h; refine bF Tryd.func89 rfl rfl<|gco 8 rfl<|xC0 h (qO ·) rfl (fun a h=> ?_)
 exact geo
abbrev dL:Type:=Int→Int→(List UInt8)→(List aB)→(List aA)→Int→Int→(List (List UInt8))→Option (Bool×Int×(List (List UInt8)))
abbrev jR(p:dL):Prop:= ∀ {d f:Int} {g:List UInt8} {j:List aB} {l:List aA} {m a:Int} {b:List (List UInt8)} {r:Bool×Int×(List (List UInt8))},p d f g j l m a b=some r→Big Tryd.prog τ An (.fn 72 [.one (.ptr 1000000 0), .one (.ag [.int .i64 d, .int .i64 f, .str g, .sl (j.map aH), .sl (l.map aG)]), .one (.c (.int .i64 m))] [[.int .i64 a, .sl (b.map jX)]] (.one (.c (.bool r.1))) none [[.int .i64 r.2.1, .sl (r.2.2.map jX)]] none)
def eB(n:Nat)(f:dL)(l:Int)(j:List aB):(Int×Int×(List (List UInt8)))→Option ((Int×Int×(List (List UInt8)))⊕((Bool×Int×(List (List UInt8)))⊕(Int×Bool×Int×(List (List UInt8)))))
  | (g,c,d)=>bif decide (g<(j.length:Int))then(ix j g).bind fun b=>(f b.f0 b.f1 b.f2 b.f3 b.f4 (IntKind.wrap .i64 (l+(1:Int))) c d).bind fun a=>bif !a.1 then some (.inr (.inl (false,a.2.1,a.2.2)))else some (.inl ((IntKind.wrap .i64 (g+(1:Int))),a.2.1,a.2.2))else some (.inr (.inr (g,false,c,d)))
def bT(n:Nat)(f:dL)(l:Int)(j:List aB):(Int×Int×(List (List UInt8)))→Option ((Int×Int×(List (List UInt8)))⊕((Bool×Int×(List (List UInt8)))⊕(Int×Bool×Int×(List (List UInt8)))))
  | (g,c,d)=>bif decide (g<(j.length:Int))then(ix j g).bind fun b=>(f b.f0 b.f1 b.f2 b.f3 b.f4 (IntKind.wrap .i64 (l+(1:Int))) c d).bind fun a=>bif !a.1 then some (.inr (.inl (false,a.2.1,a.2.2)))else some (.inl ((IntKind.wrap .i64 (g+(1:Int))),a.2.1,a.2.2))else some (.inr (.inr (g,false,c,d)))
def gI(n:Nat)(a:dL)(t:Int)(E:Int)(s:List UInt8)(u:List aB)(G:List aA)(v:Int)(b:Int)(c:List (List UInt8)):Option (Bool×Int×(List (List UInt8))):=
  (bif decide ((10:Int)<v)then some true else bif decide ((300:Int)<(IntKind.wrap .i64 (b+(1:Int))))then some true else bif decide ((6:Int)<t)then some true else bif decide ((0:Int)<(G.length:Int))then some true else(gO n t E s (u.length:Int)).bind fun z=>some (!z)).bind fun A=>bif A then some (false,(IntKind.wrap .i64 (b+(1:Int))),c)else(bif decide (t=(3:Int))then some (!decide (s=([95]:List UInt8)))else some false).bind fun B=>bif B then(cX n c s).bind fun w=>bif w then some (false,(IntKind.wrap .i64 (b+(1:Int))),c)else(BM 16 c ([s]:List (List UInt8))).bind fun y=>(loopN (eB n a v u) n ((0:Int),(IntKind.wrap .i64 (b+(1:Int))),y)).bind fun q=>(match q with | .inl (C,d,f)=>some (C,d,f) | .inr (H,J,g,j)=>some (true,g,j))else(loopN (bT n a v u) n ((0:Int),(IntKind.wrap .i64 (b+(1:Int))),c)).bind fun q=>(match q with | .inl (D,l,m)=>some (D,l,m) | .inr (I,K,o,p)=>some (true,o,p))
theorem sI{n:Nat}{b:dL}(a:jR b):jR (gI n b):=by
 intro a8 a9 I b0 b1 b2 a0 a1 r h; unfold gI at h; refine bF Tryd.func72 rfl rfl<|gco 19 rfl<|oJn h [(16,48)] [] (fun D=>(.n,[(48,Bo D)],[])) (fun _ h=> ?_) (fun D h=> ?_)
 refine goo 3 rfl<|oIf 18 h rfl (fun q2 h=> ?_) (fun q2 h=> ?_)
 exact geo; refine goo 7 rfl<|oIf 25 h rfl (fun q3 h=> ?_) (fun q3 h=> ?_)
 exact geo; refine goo 5 rfl<|oIf 30 h rfl (fun q4 h=> ?_) (fun q4 h=> ?_)
 exact geo; refine goo 2 rfl<|xLn rfl<|goo 3 rfl<|oIf 36 h rfl (fun q5 h=> ?_) (fun q5 h=> ?_)
 exact geo; refine goo 8 rfl<|xLn rfl<|xC0 h (oW ·) rfl (fun Z h=> ?_)
 exact geo; refine cIf h rfl (fun q7 h=> ?_) (fun q7 h=> ?_)
 exact gec; refine gco 4 rfl<|oJn h [(49,56)] [] (fun E=>(.n,[(56,Bo E)],[])) (fun _ h=> ?_) (fun E h=> ?_)
 refine goo 4 rfl<|oIf 52 h rfl (fun q9 h=> ?_) (fun q9 h=> ?_)
 exact geo; exact geo; refine cIf h rfl (fun R h=> ?_) (fun R h=> ?_)
 refine gco 9 rfl<|xC0 h (oN ·) rfl (fun J h=> ?_)
 refine oNl<|cIf h rfl (fun T h=> ?_) (fun T h=> ?_)
 exact gec; refine gco 9 rfl<|Jz (L:=([I]:List (List UInt8))) (f:=jX) rfl rfl rfl rfl rfl rfl rfl<|wAp (f:=jX) h rfl rfl rfl rfl rfl rfl rfl rfl rfl (fun _=>rfl) rfl (fun Y h=> ?_)
 refine goo 9 rfl<|xLn rfl<|goc 2 rfl<|cLp h [(6,6),(8,8),(78,88)] [(8,8),(1000000,1000000)] (fun(w,c,d)=>([(78,I64 w)],[(1000000,[.int .i64 c, .sl (d.map jX)])])) (fun q=>match q with | .inl (G,g,j)=>(.r,[(6,Bo G)],[(1000000,[.int .i64 g, .sl (j.map jX)])]) | .inr (y,B,l,m)=>(.e 0,[(78,I64 y),(79,Bo B)],[(1000000,[.int .i64 l, .sl (m.map jX)])])) rfl (fun st _ h=> ?_) (fun q h=> ?_)
 obtain⟨w,c,d⟩:=st; unfold eB at h; refine gcc 5 rfl<|cIf h rfl (fun U h=> ?_) (fun U h=> ?_)
 refine gco 5 rfl<|xIx h aI rfl (fun N h=> ?_)
 refine xLd rfl<|xAz [.int .i64 0, .int .i64 0, .str [], .sl ([].map aH), .sl ([].map aG)] rfl<|goo 8 rfl<|xC1 h (a ·) rfl (fun K h=> ?_)
 refine goc 2 rfl<|cIf h rfl (fun V h=> ?_) (fun V h=> ?_)
 exact gec; exact gec; exact gec; rcases q with⟨G,g,j⟩ | ⟨y,B,l,m⟩; exact en; exact gec; refine gco 6 rfl<|xLn rfl<|goc 2 rfl<|cLp h [(6,6),(8,8),(78,88)] [(8,8),(1000000,1000000)] (fun(z,o,p)=>([(78,I64 z)],[(1000000,[.int .i64 o, .sl (p.map jX)])])) (fun q=>match q with | .inl (H,s,t)=>(.r,[(6,Bo H)],[(1000000,[.int .i64 s, .sl (t.map jX)])]) | .inr (A,C,u,v)=>(.e 0,[(78,I64 A),(79,Bo C)],[(1000000,[.int .i64 u, .sl (v.map jX)])])) rfl (fun st _ h=> ?_) (fun q h=> ?_)
 obtain⟨z,o,p⟩:=st; unfold bT at h; refine gcc 5 rfl<|cIf h rfl (fun W h=> ?_) (fun W h=> ?_)
 refine gco 5 rfl<|xIx h aI rfl (fun Q h=> ?_)
 refine xLd rfl<|xAz [.int .i64 0, .int .i64 0, .str [], .sl ([].map aH), .sl ([].map aG)] rfl<|goo 8 rfl<|xC1 h (a ·) rfl (fun M h=> ?_)
 refine goc 2 rfl<|cIf h rfl (fun X h=> ?_) (fun X h=> ?_)
 exact gec; exact gec; exact gec; rcases q with⟨H,s,t⟩ | ⟨A,C,u,v⟩; exact en; exact gec
def oS:Nat→(dL)
  | 0=>(fun _ _ _ _ _ _ _ _=>none)
  | n+1=>gI n (oS n)
def bJ(n:Nat):dL:=oS n
theorem sO(n:Nat):jR (bJ n):=by
  induction n with
  | zero=>exact(fun h=>nomatch h)
  | succ n ih=>exact sI (n:=n) ih
theorem uN{n:Nat}:jR (bJ n):=(sO n)
theorem qM(n:Nat):bJ (n+1)=gI n (bJ n):=rfl
abbrev cZ:Type:=Int→Int→(List UInt8)→(List aB)→(List aA)→Int→Int→(List (List UInt8))→Option (Bool×Int×(List (List UInt8)))
abbrev iR(p:cZ):Prop:= ∀ {d f:Int} {g:List UInt8} {j:List aB} {l:List aA} {m a:Int} {b:List (List UInt8)} {r:Bool×Int×(List (List UInt8))},p d f g j l m a b=some r→Big Tryd.prog τ An (.fn 51 [.one (.ptr 1000000 0), .one (.ag [.int .i64 d, .int .i64 f, .str g, .sl (j.map aH), .sl (l.map aG)]), .one (.c (.int .i64 m))] [[.int .i64 a, .sl (b.map jX)]] (.one (.c (.bool r.1))) none [[.int .i64 r.2.1, .sl (r.2.2.map jX)]] none)
def cQ(n:Nat)(c:cZ)(l:Int)(j:List aB):(Int×Int×(List (List UInt8)))→Option ((Int×Int×(List (List UInt8)))⊕((Bool×Int×(List (List UInt8)))⊕(Int×Bool×Int×(List (List UInt8)))))
  | (g,d,f)=>bif decide (g<(j.length:Int))then(ix j g).bind fun b=>(c b.f0 b.f1 b.f2 b.f3 b.f4 (IntKind.wrap .i64 (l+(1:Int))) d f).bind fun a=>bif !a.1 then some (.inr (.inl (false,a.2.1,a.2.2)))else some (.inl ((IntKind.wrap .i64 (g+(1:Int))),a.2.1,a.2.2))else some (.inr (.inr (g,false,d,f)))
def cP(n:Nat)(c:cZ)(s:Int)(p:List aA):(Int×Int×(List (List UInt8)))→Option ((Int×Int×(List (List UInt8)))⊕((Bool×Int×(List (List UInt8)))⊕(Int×Bool×Int×(List (List UInt8)))))
  | (j,d,m)=>bif decide (j<(p.length:Int))then(ix p j).bind fun a=>((bJ n a.f0 a.f1 a.f2 a.f3 a.f4 (IntKind.wrap .i64 (s+(1:Int))) d ([]:List (List UInt8))).bind fun b=>bif !b.1 then some (true,b.2.1,b.2.2)else(c a.f5 a.f6 a.f7 a.f8 a.f9 (IntKind.wrap .i64 (s+(1:Int))) b.2.1 b.2.2).bind fun l=>some ((!l.1),l.2.1,l.2.2)).bind fun(o,f,g)=>bif o then some (.inr (.inl (false,f,g)))else some (.inl ((IntKind.wrap .i64 (j+(1:Int))),f,g))else some (.inr (.inr (j,false,d,m)))
def fJ(n:Nat)(a:cZ)(s:Int)(D:Int)(v:List UInt8)(w:List aB)(t:List aA)(u:Int)(o:Int)(p:List (List UInt8)):Option (Bool×Int×(List (List UInt8))):=
  (bif decide ((10:Int)<u)then some true else bif decide ((300:Int)<(IntKind.wrap .i64 (o+(1:Int))))then some true else(gO n s D v (w.length:Int)).bind fun y=>bif !y then some true else bif decide (s=(3:Int))then some (decide (v=([95]:List UInt8)))else some false).bind fun z=>bif z then some (false,(IntKind.wrap .i64 (o+(1:Int))),p)else(bif !((decide (s=(9:Int))) == (decide ((0:Int)<(t.length:Int))))then some true else some (decide ((6:Int)<(t.length:Int)))).bind fun A=>bif A then some (false,(IntKind.wrap .i64 (o+(1:Int))),p)else(loopN (cQ n a u w) n ((0:Int),(IntKind.wrap .i64 (o+(1:Int))),p)).bind fun q=>(match q with | .inl (B,b,c)=>some (B,b,c) | .inr (E,G,d,f)=>(loopN (cP n a u t) n ((0:Int),d,f)).bind fun q=>(match q with | .inl (C,g,j)=>some (C,g,j) | .inr (H,I,l,m)=>some (true,l,m)))
theorem rD{n:Nat}{b:cZ}(a:iR b):iR (fJ n b):=by
 intro K a9 b0 b1 L b2 a1 a2 r h; unfold fJ at h; refine bF Tryd.func51 rfl rfl<|gco 19 rfl<|oJn h [(18,49)] [] (fun G=>(.n,[(49,Bo G)],[])) (fun _ h=> ?_) (fun G h=> ?_)
 refine goo 3 rfl<|oIf 20 h rfl (fun q2 h=> ?_) (fun q2 h=> ?_)
 exact geo; refine goo 7 rfl<|oIf 27 h rfl (fun q3 h=> ?_) (fun q3 h=> ?_)
 exact geo; refine goo 8 rfl<|xLn rfl<|xC0 h (oW ·) rfl (fun a0 h=> ?_)
 refine goo 3 rfl<|oIf 40 h rfl (fun q5 h=> ?_) (fun q5 h=> ?_)
 exact geo; refine goo 4 rfl<|oIf 44 h rfl (fun q6 h=> ?_) (fun q6 h=> ?_)
 exact geo; exact geo; refine cIf h rfl (fun q7 h=> ?_) (fun q7 h=> ?_)
 exact gec; refine gco 4 rfl<|oJn h [(50,63)] [] (fun H=>(.n,[(63,Bo H)],[])) (fun _ h=> ?_) (fun H h=> ?_)
 refine goo 5 rfl<|xLn rfl<|xGt rfl<|wBi (.bool (!((decide (K=(9:Int))) == (decide ((0:Int)<(L.length:Int)))))) rfl rfl rfl rfl rfl<|xMv rfl<|oIf 58 h rfl (fun q9 h=> ?_) (fun q9 h=> ?_)
 exact geo; exact goo 2 rfl<|xLn rfl<|geo
 refine cIf h rfl (fun U h=> ?_) (fun U h=> ?_)
 exact gec; refine gco 6 rfl<|xLn rfl<|goc 2 rfl<|cLp h [(6,6),(8,8),(67,77)] [(8,8),(1000000,1000000)] (fun(z,c,d)=>([(67,I64 z)],[(1000000,[.int .i64 c, .sl (d.map jX)])])) (fun q=>match q with | .inl (I,f,g)=>(.r,[(6,Bo I)],[(1000000,[.int .i64 f, .sl (g.map jX)])]) | .inr (A,B,j,l)=>(.e 0,[(67,I64 A),(68,Bo B)],[(1000000,[.int .i64 j, .sl (l.map jX)])])) rfl (fun st _ h=> ?_) (fun q h=> ?_)
 obtain⟨z,c,d⟩:=st; unfold cQ at h; refine gcc 5 rfl<|cIf h rfl (fun V h=> ?_) (fun V h=> ?_)
 refine gco 5 rfl<|xIx h aI rfl (fun R h=> ?_)
 refine xLd rfl<|xAz [.int .i64 0, .int .i64 0, .str [], .sl ([].map aH), .sl ([].map aG)] rfl<|goo 8 rfl<|xC1 h (a ·) rfl (fun N h=> ?_)
 refine goc 2 rfl<|cIf h rfl (fun W h=> ?_) (fun W h=> ?_)
 exact gec; exact gec; exact gec; rcases q with⟨I,f,g⟩ | ⟨A,B,j,l⟩; exact en; refine gco 5 rfl<|xLn rfl<|goc 2 rfl<|cLp h [(6,6),(10,10),(81,104)] [(10,10),(1000000,1000000)] (fun(C,m,o)=>([(81,I64 C)],[(1000000,[.int .i64 m, .sl (o.map jX)])])) (fun q=>match q with | .inl (J,p,s)=>(.r,[(6,Bo J)],[(1000000,[.int .i64 p, .sl (s.map jX)])]) | .inr (D,E,t,u)=>(.e 2,[(81,I64 D),(82,Bo E)],[(1000000,[.int .i64 t, .sl (u.map jX)])])) rfl (fun st _ h=> ?_) (fun q h=> ?_)
 obtain⟨C,m,o⟩:=st; unfold cP at h; refine gcc 5 rfl<|cIf h rfl (fun X h=> ?_) (fun X h=> ?_)
 refine gco 5 rfl<|xIx h aM rfl (fun T h=> ?_)
 refine xLd rfl<|xAz [.int .i64 0, .int .i64 0, .str [], .sl ([].map aH), .sl ([].map aG), .int .i64 0, .int .i64 0, .str [], .sl ([].map aH), .sl ([].map aG)] rfl<|goo 11 rfl<|oJn h [(88,103)] [(1000000,1000000)] (fun(y,v,w)=>(.n,[(103,Bo y)],[(1000000,[.int .i64 v, .sl (w.map jX)])])) (fun _ h=> ?_) (fun q h=> ?_)
 refine goo 5 rfl<|xC1 h (uN ·) rfl (fun Q h=> ?_)
 refine goo 2 rfl<|oIf 95 h rfl (fun Y h=> ?_) (fun Y h=> ?_)
 exact geo; refine goo 5 rfl<|xC1 h (a ·) rfl (fun M h=> ?_)
 exact geo; obtain⟨y,v,w⟩:=q; refine cIf h rfl (fun Z h=> ?_) (fun Z h=> ?_)
 exact gec; exact gec; exact gec; rcases q with⟨J,p,s⟩ | ⟨D,E,t,u⟩; exact en; exact gec
def oE:Nat→(cZ)
  | 0=>(fun _ _ _ _ _ _ _ _=>none)
  | n+1=>fJ n (oE n)
def aV(n:Nat):cZ:=oE n
theorem rH(n:Nat):iR (aV n):=by
  induction n with
  | zero=>exact(fun h=>nomatch h)
  | succ n ih=>exact rD (n:=n) ih
theorem sQ{n:Nat}:iR (aV n):=(rH n)
theorem pA(n:Nat):aV (n+1)=fJ n (aV n):=rfl
abbrev Cw(p:Int→Int→(List UInt8)→(List aB)→(List aA)→Option (Bool)):Prop:= ∀ {a b:Int} {d:List UInt8} {f:List aB} {g:List aA} {r:Bool},p a b d f g=some r→Big Tryd.prog τ An (.fn 26 [.one (.ag [.int .i64 a, .int .i64 b, .str d, .sl (f.map aH), .sl (g.map aG)])] [] (.one (.c (.bool r))) none [] none)
def kL(n:Nat)(b:Int)(c:Int)(d:List UInt8)(f:List aB)(g:List aA):Option (Bool):=
  (aV n b c d f g (1:Int) (0:Int) ([]:List (List UInt8))).bind fun a=>some a.1
theorem AR{n:Nat}:Cw (kL n):=by
 intro b c d f g r h; unfold kL at h; refine bF Tryd.func26 rfl rfl<|gco 7 rfl<|xAz [.int .i64 0, .sl ([].map jX)] rfl<|goo 4 rfl<|xC1 h (sQ ·) rfl (fun a h=> ?_)
 exact geo
abbrev Az(p:(List (List UInt8))→(List UInt8)→Option ((List UInt8))):Prop:= ∀ {a:List (List UInt8)} {b:List UInt8} {r:(List UInt8)},p a b=some r→Big Tryd.prog τ An (.fn 44 [.one (.c (.sl (a.map jX))), .one (.c (.str b))] [] (.one (.c (.str r))) none [] none)
def eV(n:Nat)(a:List (List UInt8))(b:List UInt8):Option (List UInt8):=bif decide (a.length≤140737488355328)&&decide ((Lib.join a b).length≤140737488355328)then some (Lib.join a b)else none
set_option maxRecDepth 100000 in
theorem oU{n:Nat}:Az (eV n):=by
 intro a b r h; unfold eV at h; cases hc:(decide (a.length≤140737488355328)&&decide ((Lib.join a b).length≤140737488355328))with
 | false=>rw[hc]at h; cases h
 | true=>
  rw[hc]at h; cases h; simp only[z7,z29]at hc; exact Big.lib Tryd.func44 rfl rfl (PJ hc.1 hc.2)

abbrev BA(p:Int→Option ((List UInt8))):Prop:= ∀ {a:Int} {r:(List UInt8)},p a=some r→Big Tryd.prog τ An (.fn 52 [.one (.c (.int .i64 a))] [] (.one (.c (.str r))) none [] none)
def jB(n:Nat)(a:Int):Option (List UInt8):=bif decide (-9223372036854775808≤a)&&decide (a≤9223372036854775807)then some (Lib.itoa a)else none
set_option maxRecDepth 100000 in
theorem xO{n:Nat}:BA (jB n):=by
 intro a r h; unfold jB at h; cases hc:(decide (-9223372036854775808≤a)&&decide (a≤9223372036854775807))with
 | false=>rw[hc]at h; cases h
 | true=>
  rw[hc]at h; cases h; simp only[z7,z29]at hc; exact Big.lib Tryd.func52 rfl rfl (PK hc.1 hc.2)

abbrev eY:Type:=(List aB)→Option ((List UInt8))
abbrev jH(p:eY):Prop:= ∀ {a:List aB} {r:(List UInt8)},p a=some r→Big Tryd.prog τ An (.fn 53 [.one (.c (.sl (a.map aH)))] [] (.one (.c (.str r))) none [] none)
abbrev cH:Type:=Int→Int→(List UInt8)→(List aB)→(List aA)→Option ((List UInt8))
abbrev gL(p:cH):Prop:= ∀ {a b:Int} {d:List UInt8} {f:List aB} {g:List aA} {r:(List UInt8)},p a b d f g=some r→Big Tryd.prog τ An (.fn 27 [.one (.ag [.int .i64 a, .int .i64 b, .str d, .sl (f.map aH), .sl (g.map aG)])] [] (.one (.c (.str r))) none [] none)
def fM(n:Nat)(a:cH)(d:List aB):((List (List UInt8))×Int)→Option (((List (List UInt8))×Int)⊕(((List (List UInt8))×Int×Bool)))
  | (f,c)=>bif decide (c<(d.length:Int))then(ix d c).bind fun b=>(a b.f0 b.f1 b.f2 b.f3 b.f4).bind fun g=>(BM 16 f ([g]:List (List UInt8))).bind fun j=>some (.inl (j,(IntKind.wrap .i64 (c+(1:Int)))))else some (.inr (f,c,false))
def jA(n:Nat)(a:cH)(b:eY)(d:List aB):Option ((List UInt8)):=
  (loopN (fM n a d) n (([]:List (List UInt8)),(0:Int))).bind fun(f,g,j)=>(eV n f ([44,32]:List UInt8)).bind fun c=>some c
theorem vO{n:Nat}{a:cH}(c:gL a){b:eY}(d:jH b):jH (jA n a b):=by
 intro w r h; unfold jA at h; refine bF Tryd.func53 rfl rfl<|gco 6 rfl<|wAe (Li jX []) rfl rfl rfl rfl<|goo 5 rfl<|xLn rfl<|goc 2 rfl<|cLp h [(3,3),(5,5),(8,17)] [(5,5)] (fun(g,l)=>([(3,Li jX g),(8,I64 l)],[])) (fun(j,m,o)=>(.e 0,[(3,Li jX j),(8,I64 m),(9,Bo o)],[])) rfl (fun st _ h=> ?_) (fun q h=> ?_)
 obtain⟨g,l⟩:=st; unfold fM at h; refine gcc 5 rfl<|cIf h rfl (fun v h=> ?_) (fun v h=> ?_)
 refine gco 5 rfl<|xIx h aI rfl (fun t h=> ?_)
 refine xLd rfl<|xAz [.int .i64 0, .int .i64 0, .str [], .sl ([].map aH), .sl ([].map aG)] rfl<|goo 5 rfl<|xC0 h (c ·) rfl (fun p h=> ?_)
 refine Jz (L:=([p]:List (List UInt8))) (f:=jX) rfl rfl rfl rfl rfl rfl rfl<|wAp (f:=jX) h rfl rfl rfl rfl rfl rfl rfl rfl rfl (fun _=>rfl) rfl (fun u h=> ?_)
 exact geo; exact gec; obtain⟨j,m,o⟩:=q; refine gco 3 rfl<|xC0 h (oU ·) rfl (fun s h=> ?_)
 exact geo
def eC(n:Nat)(b:cH)(l:List aA):((List (List UInt8))×Int)→Option (((List (List UInt8))×Int)⊕(((List (List UInt8))×Int×Bool)))
  | (g,c)=>bif decide (c<(l.length:Int))then(ix l c).bind fun a=>(b a.f0 a.f1 a.f2 a.f3 a.f4).bind fun d=>(ck (decide (d.length+([32,45,62,32]:List UInt8).length≤9223372036854775807))).bind fun _=>(b a.f5 a.f6 a.f7 a.f8 a.f9).bind fun f=>(ck (decide ((d++([32,45,62,32]:List UInt8)).length+f.length≤9223372036854775807))).bind fun _=>(BM 16 g ([((d++([32,45,62,32]:List UInt8))++f)]:List (List UInt8))).bind fun j=>some (.inl (j,(IntKind.wrap .i64 (c+(1:Int)))))else some (.inr (g,c,false))
def gJ(n:Nat)(a:cH)(b:eY)(s:Int)(D:Int)(d:List UInt8)(f:List aB)(E:List aA):Option ((List UInt8)):=
  bif decide (s=(1:Int))then(jB n D).bind fun B=>some B else bif decide (s=(2:Int))then some d else bif decide (s=(3:Int))then some d else bif decide (s=(4:Int))then(b f).bind fun z=>(ck (decide (([123]:List UInt8).length+z.length≤9223372036854775807))).bind fun _=>(ck (decide ((([123]:List UInt8)++z).length+([125]:List UInt8).length≤9223372036854775807))).bind fun _=>some ((([123]:List UInt8)++z)++([125]:List UInt8))else bif decide (s=(5:Int))then(b f).bind fun u=>(ck (decide (([91]:List UInt8).length+u.length≤9223372036854775807))).bind fun _=>(ck (decide ((([91]:List UInt8)++u).length+([93]:List UInt8).length≤9223372036854775807))).bind fun _=>some ((([91]:List UInt8)++u)++([93]:List UInt8))else bif decide (s=(6:Int))then(sub f none (some (IntKind.wrap .i64 ((f.length:Int) - (1:Int))))).bind fun A=>(b A).bind fun l=>(ck (decide (([91]:List UInt8).length+l.length≤9223372036854775807))).bind fun _=>(ck (decide ((([91]:List UInt8)++l).length+([32,124,32]:List UInt8).length≤9223372036854775807))).bind fun _=>(ix f (IntKind.wrap .i64 ((f.length:Int) - (1:Int)))).bind fun m=>(a m.f0 m.f1 m.f2 m.f3 m.f4).bind fun v=>(ck (decide (((([91]:List UInt8)++l)++([32,124,32]:List UInt8)).length+v.length≤9223372036854775807))).bind fun _=>(ck (decide ((((([91]:List UInt8)++l)++([32,124,32]:List UInt8))++v).length+([93]:List UInt8).length≤9223372036854775807))).bind fun _=>some ((((([91]:List UInt8)++l)++([32,124,32]:List UInt8))++v)++([93]:List UInt8))else bif decide (s=(7:Int))then(ix f (0:Int)).bind fun o=>(a o.f0 o.f1 o.f2 o.f3 o.f4).bind fun c=>(ck (decide (([40]:List UInt8).length+c.length≤9223372036854775807))).bind fun _=>(ck (decide ((([40]:List UInt8)++c).length+([32]:List UInt8).length≤9223372036854775807))).bind fun _=>(ck (decide (((([40]:List UInt8)++c)++([32]:List UInt8)).length+d.length≤9223372036854775807))).bind fun _=>(ck (decide ((((([40]:List UInt8)++c)++([32]:List UInt8))++d).length+([32]:List UInt8).length≤9223372036854775807))).bind fun _=>(ix f (1:Int)).bind fun p=>(a p.f0 p.f1 p.f2 p.f3 p.f4).bind fun w=>(ck (decide (((((([40]:List UInt8)++c)++([32]:List UInt8))++d)++([32]:List UInt8)).length+w.length≤9223372036854775807))).bind fun _=>(ck (decide ((((((([40]:List UInt8)++c)++([32]:List UInt8))++d)++([32]:List UInt8))++w).length+([41]:List UInt8).length≤9223372036854775807))).bind fun _=>some ((((((([40]:List UInt8)++c)++([32]:List UInt8))++d)++([32]:List UInt8))++w)++([41]:List UInt8))else bif decide (s=(8:Int))then(ck (decide (d.length+([40]:List UInt8).length≤9223372036854775807))).bind fun _=>(b f).bind fun y=>(ck (decide ((d++([40]:List UInt8)).length+y.length≤9223372036854775807))).bind fun _=>(ck (decide (((d++([40]:List UInt8))++y).length+([41]:List UInt8).length≤9223372036854775807))).bind fun _=>some (((d++([40]:List UInt8))++y)++([41]:List UInt8))else(loopN (eC n a E) n (([]:List (List UInt8)),(0:Int))).bind fun(C,G,H)=>(ix f (0:Int)).bind fun j=>(a j.f0 j.f1 j.f2 j.f3 j.f4).bind fun g=>(ck (decide (([99,97,115,101,32]:List UInt8).length+g.length≤9223372036854775807))).bind fun _=>(ck (decide ((([99,97,115,101,32]:List UInt8)++g).length+([32,111,102,32]:List UInt8).length≤9223372036854775807))).bind fun _=>(eV n C ([59,32]:List UInt8)).bind fun t=>(ck (decide (((([99,97,115,101,32]:List UInt8)++g)++([32,111,102,32]:List UInt8)).length+t.length≤9223372036854775807))).bind fun _=>(ck (decide ((((([99,97,115,101,32]:List UInt8)++g)++([32,111,102,32]:List UInt8))++t).length+([32,101,110,100]:List UInt8).length≤9223372036854775807))).bind fun _=>some ((((([99,97,115,101,32]:List UInt8)++g)++([32,111,102,32]:List UInt8))++t)++([32,101,110,100]:List UInt8))
theorem sJ{n:Nat}{d:cH}(b:gL d){g:eY}(c:jH g):gL (gJ n d g):=by
 intro c3 c4 c5 c6 c7 r h; unfold gJ at h; refine bF Tryd.func27 rfl rfl<|gcc 17 rfl<|cIf h rfl (fun q1 h=> ?_) (fun q1 h=> ?_)
 refine gco 4 rfl<|xC0 h (xO ·) rfl (fun b6 h=> ?_)
 exact geo; refine gcc 6 rfl<|cIf h rfl (fun q3 h=> ?_) (fun q3 h=> ?_)
 exact gec; refine gcc 4 rfl<|cIf h rfl (fun q4 h=> ?_) (fun q4 h=> ?_)
 exact gec; refine gcc 5 rfl<|cIf h rfl (fun q5 h=> ?_) (fun q5 h=> ?_)
 refine gco 4 rfl<|xC0 h (c ·) rfl (fun b7 h=> ?_)
 refine oCk h (fun V h=> ?_)
 refine gV V rfl rfl rfl rfl<|oCk h (fun W h=> ?_)
 exact gV W rfl rfl rfl rfl<|geo
 refine gcc 5 rfl<|cIf h rfl (fun q9 h=> ?_) (fun q9 h=> ?_)
 refine gco 4 rfl<|xC0 h (c ·) rfl (fun a1 h=> ?_)
 refine oCk h (fun z h=> ?_)
 refine gV z rfl rfl rfl rfl<|oCk h (fun A h=> ?_)
 exact gV A rfl rfl rfl rfl<|geo
 refine gcc 5 rfl<|cIf h rfl (fun b1 h=> ?_) (fun b1 h=> ?_)
 refine gco 4 rfl<|xLn rfl<|goo 8 rfl<|wSl (rf:=aH) h rfl rfl rfl rfl .no (.so rfl) (fun a=>by rw[aI]; rfl) rfl (fun b5 h=> ?_)
 refine xC0 h (c ·) rfl (fun a2 h=> ?_)
 refine oCk h (fun B h=> ?_)
 refine gV B rfl rfl rfl rfl<|oCk h (fun C h=> ?_)
 refine gV C rfl rfl rfl rfl<|goo 3 rfl<|xIx h aI rfl (fun a7 h=> ?_)
 refine xLd rfl<|xC0 h (b ·) rfl (fun a3 h=> ?_)
 refine oCk h (fun D h=> ?_)
 refine gV D rfl rfl rfl rfl<|oCk h (fun E h=> ?_)
 exact gV E rfl rfl rfl rfl<|geo
 refine gcc 5 rfl<|cIf h rfl (fun b2 h=> ?_) (fun b2 h=> ?_)
 refine gco 4 rfl<|xIx h aI rfl (fun a8 h=> ?_)
 refine xLd rfl<|xC0 h (b ·) rfl (fun a4 h=> ?_)
 refine oCk h (fun G h=> ?_)
 refine gV G rfl rfl rfl rfl<|oCk h (fun H h=> ?_)
 refine gV H rfl rfl rfl rfl<|goo 2 rfl<|oCk h (fun I h=> ?_)
 refine gV I rfl rfl rfl rfl<|oCk h (fun J h=> ?_)
 refine gV J rfl rfl rfl rfl<|goo 2 rfl<|xIx h aI rfl (fun a9 h=> ?_)
 refine xLd rfl<|xC0 h (b ·) rfl (fun a5 h=> ?_)
 refine oCk h (fun K h=> ?_)
 refine gV K rfl rfl rfl rfl<|oCk h (fun M h=> ?_)
 exact gV M rfl rfl rfl rfl<|geo
 refine gcc 5 rfl<|cIf h rfl (fun b3 h=> ?_) (fun b3 h=> ?_)
 refine gco 4 rfl<|oCk h (fun N h=> ?_)
 refine gV N rfl rfl rfl rfl<|goo 2 rfl<|xC0 h (c ·) rfl (fun a6 h=> ?_)
 refine oCk h (fun Q h=> ?_)
 refine gV Q rfl rfl rfl rfl<|oCk h (fun R h=> ?_)
 exact gV R rfl rfl rfl rfl<|geo
 refine gco 3 rfl<|wAe (Li jX []) rfl rfl rfl rfl<|goo 6 rfl<|xLn rfl<|goc 2 rfl<|cLp h [(4,4),(6,6),(87,102)] [(6,6)] (fun(o,j)=>([(4,Li jX o),(87,I64 j)],[])) (fun(p,l,m)=>(.e 1,[(4,Li jX p),(87,I64 l),(88,Bo m)],[])) rfl (fun st _ h=> ?_) (fun q h=> ?_)
 obtain⟨o,j⟩:=st; unfold eC at h; refine gcc 5 rfl<|cIf h rfl (fun b4 h=> ?_) (fun b4 h=> ?_)
 refine gco 5 rfl<|xIx h aM rfl (fun b0 h=> ?_)
 refine xLd rfl<|xAz [.int .i64 0, .int .i64 0, .str [], .sl ([].map aH), .sl ([].map aG), .int .i64 0, .int .i64 0, .str [], .sl ([].map aH), .sl ([].map aG)] rfl<|goo 6 rfl<|xC0 h (b ·) rfl (fun w h=> ?_)
 refine oCk h (fun T h=> ?_)
 refine gV T rfl rfl rfl rfl<|goo 2 rfl<|xC0 h (b ·) rfl (fun y h=> ?_)
 refine oCk h (fun U h=> ?_)
 refine gV U rfl rfl rfl rfl<|Jz (L:=([((w++([32,45,62,32]:List UInt8))++y)]:List (List UInt8))) (f:=jX) rfl rfl rfl rfl rfl rfl rfl<|wAp (f:=jX) h rfl rfl rfl rfl rfl rfl rfl rfl rfl (fun _=>rfl) rfl (fun a0 h=> ?_)
 exact geo; exact gec; obtain⟨p,l,m⟩:=q; refine gco 4 rfl<|xIx h aI rfl (fun Z h=> ?_)
 refine xLd rfl<|xC0 h (b ·) rfl (fun X h=> ?_)
 refine oCk h (fun s h=> ?_)
 refine gV s rfl rfl rfl rfl<|oCk h (fun t h=> ?_)
 refine gV t rfl rfl rfl rfl<|xMv rfl<|xC0 h (oU ·) rfl (fun Y h=> ?_)
 refine oCk h (fun u h=> ?_)
 refine gV u rfl rfl rfl rfl<|oCk h (fun v h=> ?_)
 exact gV v rfl rfl rfl rfl<|geo
def eM:Nat→(cH)×(eY)
  | 0=>((fun _ _ _ _ _=>none),(fun _=>none))
  | n+1=>(gJ n ((eM n).1) ((eM n).2),jA n ((eM n).1) ((eM n).2))
def bC(n:Nat):cH:=(eM n).1
def gN(n:Nat):eY:=(eM n).2
theorem mP(n:Nat):gL (bC n)∧jH (gN n):=by
  induction n with
  | zero=>exact⟨(fun h=>nomatch h),(fun h=>nomatch h)⟩
  | succ n ih=>exact⟨sJ (n:=n) (ih.1) (ih.2),vO (n:=n) (ih.1) (ih.2)⟩
theorem uO{n:Nat}:gL (bC n):=(mP n).1
theorem IG{n:Nat}:jH (gN n):=(mP n).2
theorem qN(n:Nat):bC (n+1)=gJ n (bC n) (gN n):=rfl
theorem sN(n:Nat):gN (n+1)=jA n (bC n) (gN n):=rfl
abbrev Aa(p:Int→Int→(List UInt8)→(List aB)→(List aA)→Option ((List UInt8))):Prop:= ∀ {a b:Int} {d:List UInt8} {f:List aB} {g:List aA} {r:(List UInt8)},p a b d f g=some r→Big Tryd.prog τ An (.fn 9 [.one (.ag [.int .i64 a, .int .i64 b, .str d, .sl (f.map aH), .sl (g.map aG)])] [] (.one (.c (.str r))) none [] none)
def iG(n:Nat)(a:Int)(b:Int)(c:List UInt8)(d:List aB)(f:List aA):Option ((List UInt8)):=
  (kL n a b c d f).bind fun g=>bif !g then some ([]:List UInt8)else(bC n a b c d f).bind fun j=>some j
theorem vT{n:Nat}:Aa (iG n):=by
 intro d f g j l r h; unfold iG at h; refine bF Tryd.func9 rfl rfl<|gco 9 rfl<|xC0 h (AR ·) rfl (fun a h=> ?_)
 refine goc 2 rfl<|cIf h rfl (fun c h=> ?_) (fun c h=> ?_)
 exact gec; refine gco 4 rfl<|xC0 h (uO ·) rfl (fun b h=> ?_)
 exact geo
abbrev bI:Type:=Int→Int→(List UInt8)→(List aB)→(List aA)→Int→Int→(List UInt8)→(List aB)→(List aA)→Int→Int→(List UInt8)→(List aB)→(List aA)→Int→Int→(List UInt8)→(List aB)→(List aA)→Option (Bool)
abbrev dZ(p:bI):Prop:= ∀ {a b:Int} {d:List UInt8} {f:List aB} {g:List aA} {j l:Int} {m:List UInt8} {o:List aB} {s:List aA} {t u:Int} {v:List UInt8} {w:List aB} {y:List aA} {z A:Int} {B:List UInt8} {C:List aB} {D:List aA} {r:Bool},p a b d f g j l m o s t u v w y z A B C D=some r→Big Tryd.prog τ An (.fn 54 [.one (.ag [.int .i64 a, .int .i64 b, .str d, .sl (f.map aH), .sl (g.map aG), .int .i64 j, .int .i64 l, .str m, .sl (o.map aH), .sl (s.map aG)]), .one (.ag [.int .i64 t, .int .i64 u, .str v, .sl (w.map aH), .sl (y.map aG), .int .i64 z, .int .i64 A, .str B, .sl (C.map aH), .sl (D.map aG)])] [] (.one (.c (.bool r))) none [] none)
abbrev bM:Type:=(List aA)→(List aA)→Option (Bool)
abbrev dO(p:bM):Prop:= ∀ {a b:List aA} {r:Bool},p a b=some r→Big Tryd.prog τ An (.fn 29 [.one (.c (.sl (a.map aG))), .one (.c (.sl (b.map aG)))] [] (.one (.c (.bool r))) none [] none)
abbrev bY:Type:=(List aB)→(List aB)→Option (Bool)
abbrev fC(p:bY):Prop:= ∀ {a b:List aB} {r:Bool},p a b=some r→Big Tryd.prog τ An (.fn 28 [.one (.c (.sl (a.map aH))), .one (.c (.sl (b.map aH)))] [] (.one (.c (.bool r))) none [] none)
abbrev cG:Type:=Int→Int→(List UInt8)→(List aB)→(List aA)→Int→Int→(List UInt8)→(List aB)→(List aA)→Option (Bool)
abbrev fV(p:cG):Prop:= ∀ {a b:Int} {d:List UInt8} {f:List aB} {g:List aA} {j l:Int} {m:List UInt8} {o:List aB} {s:List aA} {r:Bool},p a b d f g j l m o s=some r→Big Tryd.prog τ An (.fn 10 [.one (.ag [.int .i64 a, .int .i64 b, .str d, .sl (f.map aH), .sl (g.map aG)]), .one (.ag [.int .i64 j, .int .i64 l, .str m, .sl (o.map aH), .sl (s.map aG)])] [] (.one (.c (.bool r))) none [] none)
def iB(n:Nat)(a:cG)(d:bY)(b:bM)(c:bI)(j:Int)(l:Int)(m:List UInt8)(o:List aB)(p:List aA)(s:Int)(t:Int)(u:List UInt8)(v:List aB)(w:List aA)(y:Int)(z:Int)(A:List UInt8)(B:List aB)(C:List aA)(D:Int)(E:Int)(G:List UInt8)(H:List aB)(I:List aA):Option (Bool):=
  (a j l m o p y z A B C).bind fun g=>bif !g then some false else(a s t u v w D E G H I).bind fun f=>bif !f then some false else some true
theorem uF{n:Nat}{f:cG}(c:fV f){d:bY}(l:fC d){a:bM}(g:dO a){b:bI}(j:dZ b):dZ (iB n f d a b):=by
 intro t u v w y z A B C D E G H I J K L M N Q r h; unfold iB at h; refine bF Tryd.func54 rfl rfl<|gco 13 rfl<|xC0 h (c ·) rfl (fun o h=> ?_)
 refine goc 2 rfl<|cIf h rfl (fun p h=> ?_) (fun p h=> ?_)
 exact gec; refine gco 8 rfl<|xC0 h (c ·) rfl (fun m h=> ?_)
 refine goc 2 rfl<|cIf h rfl (fun s h=> ?_) (fun s h=> ?_)
 exact gec; exact gec
def fY(n:Nat)(c:bI)(f:List aA)(j:List aA):(Int)→Option ((Int)⊕((Bool)⊕(Int×Bool)))
  | d=>bif decide (d<(f.length:Int))then(ix f d).bind fun a=>(ix j d).bind fun b=>(c a.f0 a.f1 a.f2 a.f3 a.f4 a.f5 a.f6 a.f7 a.f8 a.f9 b.f0 b.f1 b.f2 b.f3 b.f4 b.f5 b.f6 b.f7 b.f8 b.f9).bind fun g=>bif !g then some (.inr (.inl false))else some (.inl (IntKind.wrap .i64 (d+(1:Int))))else some (.inr (.inr (d,false)))
def gH(n:Nat)(d:cG)(c:bY)(b:bM)(a:bI)(f:List aA)(g:List aA):Option (Bool):=
  bif !decide ((f.length:Int)=(g.length:Int))then some false else(loopN (fY n a f g) n (0:Int)).bind fun q=>(match q with | .inl j=>some j | .inr (m,l)=>some true)
theorem sH{n:Nat}{d:cG}(m:fV d){c:bY}(j:fC c){a:bM}(g:dO a){b:bI}(f:dZ b):dO (gH n d c a b):=by
 intro A B r h; unfold gH at h; refine bF Tryd.func29 rfl rfl<|gco 8 rfl<|xLn rfl<|xMv rfl<|xLn rfl<|goc 2 rfl<|cIf h rfl (fun y h=> ?_) (fun y h=> ?_)
 exact gec; refine gcc 6 rfl<|cLp h [(4,5),(11,26)] [] (fun p=>([(5,I64 p)],[])) (fun q=>match q with | .inl o=>(.r,[(4,Bo o)],[]) | .inr (s,l)=>(.e 0,[(5,I64 s),(14,Bo l)],[])) rfl (fun p _ h=> ?_) (fun q h=> ?_)
 unfold fY at h; refine gco 5 rfl<|xLn rfl<|goc 2 rfl<|cIf h rfl (fun z h=> ?_) (fun z h=> ?_)
 refine gco 7 rfl<|xIx h aM rfl (fun v h=> ?_)
 refine goo 3 rfl<|xIx h aM rfl (fun w h=> ?_)
 refine xLd rfl<|xC0 h (f ·) rfl (fun u h=> ?_)
 refine goc 2 rfl<|cIf h rfl (fun t h=> ?_) (fun t h=> ?_)
 exact gec; exact gec; exact gec; rcases q with o | ⟨s,l⟩; exact en; exact gec
def iQ(n:Nat)(c:cG)(f:List aB)(j:List aB):(Int)→Option ((Int)⊕((Bool)⊕(Int×Bool)))
  | d=>bif decide (d<(f.length:Int))then(ix f d).bind fun a=>(ix j d).bind fun b=>(c a.f0 a.f1 a.f2 a.f3 a.f4 b.f0 b.f1 b.f2 b.f3 b.f4).bind fun g=>bif !g then some (.inr (.inl false))else some (.inl (IntKind.wrap .i64 (d+(1:Int))))else some (.inr (.inr (d,false)))
def iZ(n:Nat)(a:cG)(d:bY)(b:bM)(c:bI)(f:List aB)(g:List aB):Option (Bool):=
  bif !decide ((f.length:Int)=(g.length:Int))then some false else(loopN (iQ n a f g) n (0:Int)).bind fun q=>(match q with | .inl j=>some j | .inr (m,l)=>some true)
theorem vN{n:Nat}{d:cG}(f:fV d){c:bY}(l:fC c){a:bM}(g:dO a){b:bI}(j:dZ b):fC (iZ n d c a b):=by
 intro A B r h; unfold iZ at h; refine bF Tryd.func28 rfl rfl<|gco 8 rfl<|xLn rfl<|xMv rfl<|xLn rfl<|goc 2 rfl<|cIf h rfl (fun y h=> ?_) (fun y h=> ?_)
 exact gec; refine gcc 6 rfl<|cLp h [(4,5),(11,26)] [] (fun p=>([(5,I64 p)],[])) (fun q=>match q with | .inl o=>(.r,[(4,Bo o)],[]) | .inr (s,m)=>(.e 0,[(5,I64 s),(14,Bo m)],[])) rfl (fun p _ h=> ?_) (fun q h=> ?_)
 unfold iQ at h; refine gco 5 rfl<|xLn rfl<|goc 2 rfl<|cIf h rfl (fun z h=> ?_) (fun z h=> ?_)
 refine gco 7 rfl<|xIx h aI rfl (fun v h=> ?_)
 refine goo 3 rfl<|xIx h aI rfl (fun w h=> ?_)
 refine xLd rfl<|xC0 h (f ·) rfl (fun u h=> ?_)
 refine goc 2 rfl<|cIf h rfl (fun t h=> ?_) (fun t h=> ?_)
 exact gec; exact gec; exact gec; rcases q with o | ⟨s,m⟩; exact en; exact gec
def kF(n:Nat)(d:cG)(b:bY)(a:bM)(c:bI)(j:Int)(l:Int)(m:List UInt8)(o:List aB)(p:List aA)(s:Int)(t:Int)(u:List UInt8)(v:List aB)(w:List aA):Option (Bool):=
  bif !decide (j=s)then some false else bif !decide (l=t)then some false else bif !decide (m=u)then some false else(b o v).bind fun f=>bif !f then some false else(a p w).bind fun g=>bif !g then some false else some true
theorem xJ{n:Nat}{d:cG}(l:fV d){c:bY}(g:fC c){a:bM}(f:dO a){b:bI}(j:dZ b):fV (kF n d c a b):=by
 intro w y z A B C D E G H r h; unfold kF at h; refine bF Tryd.func10 rfl rfl<|gcc 15 rfl<|cIf h rfl (fun p h=> ?_) (fun p h=> ?_)
 exact gec; refine gcc 10 rfl<|cIf h rfl (fun s h=> ?_) (fun s h=> ?_)
 exact gec; refine gcc 10 rfl<|cIf h rfl (fun t h=> ?_) (fun t h=> ?_)
 exact gec; refine gco 8 rfl<|xC0 h (g ·) rfl (fun m h=> ?_)
 refine goc 2 rfl<|cIf h rfl (fun u h=> ?_) (fun u h=> ?_)
 exact gec; refine gco 8 rfl<|xC0 h (f ·) rfl (fun o h=> ?_)
 refine goc 2 rfl<|cIf h rfl (fun v h=> ?_) (fun v h=> ?_)
 exact gec; exact gec
def aP:Nat→(cG)×(bY)×(bM)×(bI)
  | 0=>((fun _ _ _ _ _ _ _ _ _ _=>none),(fun _ _=>none),(fun _ _=>none),(fun _ _ _ _ _ _ _ _ _ _ _ _ _ _ _ _ _ _ _ _=>none))
  | n+1=>(kF n ((aP n).1) ((aP n).2.1) ((aP n).2.2.1) ((aP n).2.2.2),iZ n ((aP n).1) ((aP n).2.1) ((aP n).2.2.1) ((aP n).2.2.2),gH n ((aP n).1) ((aP n).2.1) ((aP n).2.2.1) ((aP n).2.2.2),iB n ((aP n).1) ((aP n).2.1) ((aP n).2.2.1) ((aP n).2.2.2))
def cC(n:Nat):cG:=(aP n).1
def dS(n:Nat):bY:=(aP n).2.1
def cU(n:Nat):bM:=(aP n).2.2.1
def dF(n:Nat):bI:=(aP n).2.2.2
theorem jP(n:Nat):fV (cC n)∧fC (dS n)∧dO (cU n)∧dZ (dF n):=by
  induction n with
  | zero=>exact⟨(fun h=>nomatch h),(fun h=>nomatch h),(fun h=>nomatch h),(fun h=>nomatch h)⟩
  | succ n ih=>exact⟨xJ (n:=n) (ih.1) (ih.2.1) (ih.2.2.1) (ih.2.2.2),vN (n:=n) (ih.1) (ih.2.1) (ih.2.2.1) (ih.2.2.2),sH (n:=n) (ih.1) (ih.2.1) (ih.2.2.1) (ih.2.2.2),uF (n:=n) (ih.1) (ih.2.1) (ih.2.2.1) (ih.2.2.2)⟩
theorem AQ{n:Nat}:fV (cC n):=(jP n).1
theorem IE{n:Nat}:fC (dS n):=(jP n).2.1
theorem Gh{n:Nat}:dO (cU n):=(jP n).2.2.1
theorem HP{n:Nat}:dZ (dF n):=(jP n).2.2.2
theorem uM(n:Nat):cC (n+1)=kF n (cC n) (dS n) (cU n) (dF n):=rfl
theorem sM(n:Nat):dS (n+1)=iZ n (cC n) (dS n) (cU n) (dF n):=rfl
theorem qL(n:Nat):cU (n+1)=gH n (cC n) (dS n) (cU n) (dF n):=rfl
theorem rG(n:Nat):dF (n+1)=iB n (cC n) (dS n) (cU n) (dF n):=rfl
abbrev pC(p:Int→Int→(List UInt8)→(List aD)→(List aC)→Option (Bool)):Prop:= ∀ {a b:Int} {d:List UInt8} {f:List aD} {g:List aC} {r:Bool},p a b d f g=some r→Big Tryd.prog τ An (.fn 3 [.one (.ag [.int .i64 a, .int .i64 b, .str d, .sl (f.map rS_laws_Expr), .sl (g.map aJ)])] [] (.one (.c (.bool r))) none [] none)
def eE(n:Nat)(d:Int)(f:Int)(g:List UInt8)(j:List aD)(l:List aC):Option (Bool):=
  (cB n d f g j l (1048576:Int)).bind fun s=>bif decide (s<(0:Int))then some true else(bE n d f g j l).bind fun b=>(iF n b.1 b.2.1 b.2.2.1 b.2.2.2.1 b.2.2.2.2).bind fun m=>(bE n d f g j l).bind fun a=>(iG n a.1 a.2.1 a.2.2.1 a.2.2.2.1 a.2.2.2.2).bind fun o=>bif !decide (o=m)then some false else(bE n d f g j l).bind fun c=>(cC n a.1 a.2.1 a.2.2.1 a.2.2.2.1 a.2.2.2.2 c.1 c.2.1 c.2.2.1 c.2.2.2.1 c.2.2.2.2).bind fun p=>bif !p then some false else some true
theorem oO{n:Nat}:pC (eE n):=by
 intro p s t u v r h; unfold eE at h; refine bF Tryd.func3 rfl rfl<|gco 13 rfl<|xC0 h (AP ·) rfl (fun l h=> ?_)
 refine goc 8 rfl<|cIf h rfl (fun m h=> ?_) (fun m h=> ?_)
 exact gec; refine gco 4 rfl<|xC0 h (mM ·) rfl (fun b h=> ?_)
 refine xC0 h (vS ·) rfl (fun c h=> ?_)
 refine goo 5 rfl<|xC0 h (mM ·) rfl (fun d h=> ?_)
 refine xAz [.int .i64 0, .int .i64 0, .str [], .sl ([].map aH), .sl ([].map aG)] rfl<|goo 5 rfl<|xC0 h (vT ·) rfl (fun f h=> ?_)
 refine goc 9 rfl<|cIf h rfl (fun o h=> ?_) (fun o h=> ?_)
 exact gec; refine gco 6 rfl<|xC0 h (mM ·) rfl (fun g h=> ?_)
 refine xC0 h (AQ ·) rfl (fun j h=> ?_)
 refine goc 2 rfl<|cIf h rfl (fun a h=> ?_) (fun a h=> ?_)
 exact gec; exact gec
end Go.Own
