/- A part of the proof. No conditions. -/
import Derived.Test.YtcchipmgpgeafaaW37A
set_option linter.unusedVariables false
set_option linter.unusedSimpArgs false
set_option linter.unnecessarySimpa false
namespace Go.Own
open Go Go.Proofs
def rI_u8(a:Int):List T:=[.int .u8 a]
theorem lQ(a:Int):rI_u8 a=[.int .u8 a]:=rfl
def aR(a:Int):List T:=[.int .i64 a]
theorem gU(a:Int):aR a=[.int .i64 a]:=rfl
def fG(a:List UInt8):List T:=[.str a]
theorem pW(a:List UInt8):fG a=[.str a]:=rfl
structure aG where
  f0:Int
  f1:Int
  f2:List UInt8
  f3:Int
  deriving DecidableEq
def aK(a:aG):List T:=[.int .i64 a.f0, .int .i64 a.f1, .str a.f2, .int .i64 a.f3]
theorem iF(a:aG):aK a=[.int .i64 a.f0, .int .i64 a.f1, .str a.f2, .int .i64 a.f3]:=rfl
structure aF where
  f0:List UInt8
  f1:Int
  f2:Int
  f3:List aG
  deriving DecidableEq
def aL(a:aF):List T:=[.str a.f0, .int .i64 a.f1, .int .i64 a.f2, .sl (a.f3.map aK)]
theorem fV(a:aF):aL a=[.str a.f0, .int .i64 a.f1, .int .i64 a.f2, .sl (a.f3.map aK)]:=rfl
inductive aA where
  | mk (f0:Int) (f1:Int) (f2:List UInt8) (f3:List aA)
def aA.f0:aA→Int
  | .mk a _ _ _=>a
def aA.f1:aA→Int
  | .mk _ a _ _=>a
def aA.f2:aA→List UInt8
  | .mk _ _ a _=>a
def aA.f3:aA→List aA
  | .mk _ _ _ a=>a
mutual
def aH:aA→List T
  | .mk a0 a1 a2 a3=> [.int .i64 a0, .int .i64 a1, .str a2, .sl (oZ a3)]
def oZ:List aA→List (List T)
  | []=> []
  | x::r=>aH x::oZ r
end
theorem pJ: ∀l:List aA,oZ l=l.map aH
  | []=>by simp [oZ]
  | x::r=>by simp [oZ,pJ r]
theorem aX(a:aA):aH a=[.int .i64 a.f0, .int .i64 a.f1, .str a.f2, .sl (a.f3.map aH)]:=by
  cases a; simp [aH,pJ,aA.f0,aA.f1,aA.f2,aA.f3]
theorem dH(a0:Int)(a1:Int)(a2:List UInt8)(a3:List aA):aH (.mk a0 a1 a2 a3)=[.int .i64 a0, .int .i64 a1, .str a2, .sl (a3.map aH)]:=by simp [aH,pJ]
mutual
inductive aB where
  | mk (f0:Int) (f1:Int) (f2:List UInt8) (f3:List aB) (f4:List aC)
inductive aC where
  | two (p x:aB)
end
def aC.p:aC→aB
  | .two a _=>a
def aC.x:aC→aB
  | .two _ a=>a
def aB.f0:aB→Int
  | .mk a _ _ _ _=>a
def aB.f1:aB→Int
  | .mk _ a _ _ _=>a
def aB.f2:aB→List UInt8
  | .mk _ _ a _ _=>a
def aB.f3:aB→List aB
  | .mk _ _ _ a _=>a
def aB.f4:aB→List aC
  | .mk _ _ _ _ a=>a
def aC.f0(c:aC):Int:=aB.f0 (aC.p c)
def aC.f1(c:aC):Int:=aB.f1 (aC.p c)
def aC.f2(c:aC):List UInt8:=aB.f2 (aC.p c)
def aC.f3(c:aC):List aB:=aB.f3 (aC.p c)
def aC.f4(c:aC):List aC:=aB.f4 (aC.p c)
def aC.f5(c:aC):Int:=aB.f0 (aC.x c)
def aC.f6(c:aC):Int:=aB.f1 (aC.x c)
def aC.f7(c:aC):List UInt8:=aB.f2 (aC.x c)
def aC.f8(c:aC):List aB:=aB.f3 (aC.x c)
def aC.f9(c:aC):List aC:=aB.f4 (aC.x c)
def aC.mk(a0:Int)(a1:Int)(a2:List UInt8)(a3:List aB)(a4:List aC)(a5:Int)(a6:Int)(a7:List UInt8)(a8:List aB)(a9:List aC):aC:= .two (.mk a0 a1 a2 a3 a4) (.mk a5 a6 a7 a8 a9)
mutual
def aE:aB→List T
  | .mk a0 a1 a2 a3 a4=> [.int .i64 a0, .int .i64 a1, .str a2, .sl (nG a3), .sl (kP a4)]
def nG:List aB→List (List T)
  | []=> []
  | x::r=>aE x::nG r
def aD:aC→List T
  | .two p x=>aE p++aE x
def kP:List aC→List (List T)
  | []=> []
  | x::r=>aD x::kP r
end
theorem tM: ∀l:List aB,nG l=l.map aE
  | []=>by simp [nG]
  | x::r=>by simp [nG,tM r]
theorem rI: ∀l:List aC,kP l=l.map aD
  | []=>by simp [kP]
  | x::r=>by simp [kP,rI r]
theorem bB(a0:Int)(a1:Int)(a2:List UInt8)(a3:List aB)(a4:List aC):aE (.mk a0 a1 a2 a3 a4)=[.int .i64 a0, .int .i64 a1, .str a2, .sl (a3.map aE), .sl (a4.map aD)]:=by simp only[aE,tM,rI]
theorem bE(a:aB):aE a=[.int .i64 a.f0, .int .i64 a.f1, .str a.f2, .sl (a.f3.map aE), .sl (a.f4.map aD)]:=by
  cases a; exact bB _ _ _ _ _
theorem cM(a:aC):aD a=[.int .i64 a.f0, .int .i64 a.f1, .str a.f2, .sl (a.f3.map aE), .sl (a.f4.map aD), .int .i64 a.f5, .int .i64 a.f6, .str a.f7, .sl (a.f8.map aE), .sl (a.f9.map aD)]:=by
  cases a with
  | two p x=>
    simp only[aD]; rw[bE p,bE x]; rfl
theorem lG(a0:Int)(a1:Int)(a2:List UInt8)(a3:List aB)(a4:List aC)(a5:Int)(a6:Int)(a7:List UInt8)(a8:List aB)(a9:List aC):aD (.mk a0 a1 a2 a3 a4 a5 a6 a7 a8 a9)=[.int .i64 a0, .int .i64 a1, .str a2, .sl (a3.map aE), .sl (a4.map aD), .int .i64 a5, .int .i64 a6, .str a7, .sl (a8.map aE), .sl (a9.map aD)]:=cM _
structure bM where
  f0:List UInt8
  f1:List (List UInt8)
  f2:Int
  f3:Int
  f4:List UInt8
  f5:List aB
  f6:List aC
def eD(a:bM):List T:=[.str a.f0, .sl (a.f1.map fG), .int .i64 a.f2, .int .i64 a.f3, .str a.f4, .sl (a.f5.map aE), .sl (a.f6.map aD)]
theorem FS(a:bM):eD a=[.str a.f0, .sl (a.f1.map fG), .int .i64 a.f2, .int .i64 a.f3, .str a.f4, .sl (a.f5.map aE), .sl (a.f6.map aD)]:=rfl

abbrev Nc(p:(List Int)→Option (Bool)):Prop:= ∀ {a:List Int} {r:Bool},p a=some r→Big Try.prog τ An (.fn 4 [.one (.c (.sl (a.map rI_u8)))] [] (.one (.c (.bool r))) none [] none)
def wC(n:Nat)(a:List Int):Option (Bool):=
  some (decide ((1048576:Int)<(a.length:Int)))
theorem Jw{n:Nat}:Nc (wC n):=by
 intro a r h; unfold wC at h; exact bF Try.func4 rfl rfl<|gco 7 rfl<|xLn rfl<|geo
abbrev KC(p:(List Int)→Option ((List Int)×Int×Int)):Prop:= ∀ {a:List Int} {r:(List Int)×Int×Int},p a=some r→Big Try.prog τ An (.fn 11 [.one (.c (.sl (a.map rI_u8)))] [] (.one (.ptr 0 0)) none [] (some [.sl (r.1.map rI_u8), .int .i64 r.2.1, .int .i64 r.2.2]))
def rF(n:Nat)(b:List Int):(Int×Int)→Option ((Int×Int)⊕((Int×Int×Bool)))
  | (c,a)=>(bif decide (a<(b.length:Int))then some (decide (a<(4000:Int)))else some false).bind fun f=>bif f then(ix b a).bind fun d=>some (.inl ((bits .and .i64 (IntKind.wrap .i64 ((IntKind.wrap .i64 ((IntKind.wrap .i64 (c*(137:Int)))+(IntKind.wrap .i64 d)))+(11:Int))) (1073741823:Int)),(IntKind.wrap .i64 (a+(1:Int)))))else some (.inr (c,a,false))
def pB(n:Nat)(a:List Int):Option ((List Int)×Int×Int):=
  (loopN (rF n a) n ((IntKind.wrap .i64 ((375375:Int)+(a.length:Int))),(0:Int))).bind fun(b,d,c)=>some (a,(0:Int),b)
theorem FX{n:Nat}:KC (pB n):=by
 intro l r h; unfold pB at h; refine bF Try.func11 rfl rfl<|gco 7 rfl<|xLn rfl<|goc 8 rfl<|cLp h [(3,4),(8,27)] [] (fun(a,f)=>([(3,I64 a),(4,I64 f)],[])) (fun(b,g,c)=>(.e 0,[(3,I64 b),(4,I64 g),(15,Bo c)],[])) rfl (fun st _ h=> ?_) (fun q h=> ?_)
 obtain⟨a,f⟩:=st; unfold rF at h; refine gco 3 rfl<|oJn h [(8,15)] [] (fun d=>(.n,[(15,Bo d)],[])) (fun _ h=> ?_) (fun d h=> ?_)
 refine goo 2 rfl<|xLn rfl<|goo 2 rfl<|oIf 12 h rfl (fun m h=> ?_) (fun m h=> ?_)
 exact geo; exact geo; refine cIf h rfl (fun o h=> ?_) (fun o h=> ?_)
 refine gco 8 rfl<|xIx h lQ rfl (fun j h=> ?_)
 exact goo 4 rfl<|wBi (.int .i64 (bits .and .i64 (IntKind.wrap .i64 ((IntKind.wrap .i64 ((IntKind.wrap .i64 (a*(137:Int)))+(IntKind.wrap .i64 j)))+(11:Int))) (1073741823:Int))) rfl rfl rfl rfl rfl<|geo
 exact gec; obtain⟨b,g,c⟩:=q; exact gco 4 rfl<|wBd [.sl (l.map rI_u8), .int .i64 0, .int .i64 b] rfl rfl rfl rfl rfl rfl<|geo
abbrev Ld(p:Int→Int→Int→Option (Bool)):Prop:= ∀ {a b d:Int} {r:Bool},p a b d=some r→Big Try.prog τ An (.fn 42 [.one (.c (.int .i64 a)), .one (.c (.int .i64 b)), .one (.c (.int .i64 d))] [] (.one (.c (.bool r))) none [] none)
def aT(n:Nat)(a:Int)(b:Int)(c:Int):Option (Bool):=
  (bif decide (b≤a)then some (decide (a≤c))else some false).bind fun d=>some d
theorem aV{n:Nat}:Ld (aT n):=by
 intro c d f r h; unfold aT at h; refine bF Try.func42 rfl rfl<|gco 6 rfl<|oJn h [(6,14)] [] (fun a=>(.n,[(6,Bo a)],[])) (fun _ h=> ?_) (fun a h=> ?_)
 refine goo 4 rfl<|oIf 10 h rfl (fun b h=> ?_) (fun b h=> ?_)
 exact geo; exact geo; exact gec
abbrev IB(p:(List UInt8)→Option (Bool)):Prop:= ∀ {a:List UInt8} {r:Bool},p a=some r→Big Try.prog τ An (.fn 78 [.one (.c (.str a))] [] (.one (.c (.bool r))) none [] none)
def mO(n:Nat)(d:List UInt8):(Int)→Option ((Int)⊕((Bool)⊕(Int×Bool)))
  | a=>bif decide (a<(d.length:Int))then(ixs d a).bind fun b=>(aT n (IntKind.wrap .i64 b) (97:Int) (122:Int)).bind fun f=>(bif !f then bif decide (a=(0:Int))then some true else(aT n (IntKind.wrap .i64 b) (48:Int) (57:Int)).bind fun c=>bif !c then some (!decide ((IntKind.wrap .i64 b)=(95:Int)))else some false else some false).bind fun g=>bif g then some (.inr (.inl false))else some (.inl (IntKind.wrap .i64 (a+(1:Int))))else some (.inr (.inr (a,false)))
def nM(n:Nat)(b:List UInt8):Option (Bool):=
  (loopN (mO n b) n (0:Int)).bind fun q=>(match q with | .inl c=>some c | .inr (d,f)=>(aT n (b.length:Int) (1:Int) (20:Int)).bind fun a=>some a)
theorem Ei{n:Nat}:IB (nM n):=by
 intro v r h; unfold nM at h; refine bF Try.func78 rfl rfl<|gcc 9 rfl<|cLp h [(2,32)] [] (fun c=>([(3,I64 c)],[])) (fun q=>match q with | .inl b=>(.r,[(2,Bo b)],[]) | .inr (d,f)=>(.e 0,[(3,I64 d),(9,Bo f)],[])) rfl (fun c _ h=> ?_) (fun q h=> ?_)
 unfold mO at h; refine gco 5 rfl<|xLs rfl<|goc 2 rfl<|cIf h rfl (fun t h=> ?_) (fun t h=> ?_)
 refine gco 7 rfl<|Nu h rfl rfl rfl rfl rfl (fun s h=> ?_)
 refine goo 6 rfl<|xC0 h (aV ·) rfl (fun p h=> ?_)
 refine goo 4 rfl<|oJn h [(18,32)] [] (fun a=>(.n,[(32,Bo a)],[])) (fun _ h=> ?_) (fun a h=> ?_)
 refine goo 3 rfl<|oIf 20 h rfl (fun u h=> ?_) (fun u h=> ?_)
 refine goo 3 rfl<|oIf 23 h rfl (fun l h=> ?_) (fun l h=> ?_)
 exact geo; refine xMv rfl<|xC0 h (aV ·) rfl (fun g h=> ?_)
 refine goo 2 rfl<|oIf 27 h rfl (fun m h=> ?_) (fun m h=> ?_)
 exact geo; exact geo; exact geo; refine cIf h rfl (fun o h=> ?_) (fun o h=> ?_)
 exact gec; exact gec; exact gec; rcases q with b | ⟨d,f⟩; exact en; refine gco 3 rfl<|xLs rfl<|xC0 h (aV ·) rfl (fun j h=> ?_)
 exact geo
abbrev BN(p:(List UInt8)→Option (Bool)):Prop:= ∀ {a:List UInt8} {r:Bool},p a=some r→Big Try.prog τ An (.fn 79 [.one (.c (.str a))] [] (.one (.c (.bool r))) none [] none)
def lH(n:Nat)(a:List UInt8):Option (Bool):=
  (bif decide (a=([99,97,115,101]:List UInt8))then some true else bif decide (a=([111,102]:List UInt8))then some true else some (decide (a=([101,110,100]:List UInt8)))).bind fun b=>some b
theorem yS{n:Nat}:BN (lH n):=by
 intro d r h; unfold lH at h; refine bF Try.func79 rfl rfl<|gco 6 rfl<|oJn h [(2,12)] [] (fun a=>(.n,[(2,Bo a)],[])) (fun _ h=> ?_) (fun a h=> ?_)
 refine goo 3 rfl<|oIf 5 h rfl (fun b h=> ?_) (fun b h=> ?_)
 exact geo; refine goo 4 rfl<|oIf 9 h rfl (fun c h=> ?_) (fun c h=> ?_)
 exact geo; exact geo; exact gec
abbrev Hr(p:(List UInt8)→Option (Bool)):Prop:= ∀ {a:List UInt8} {r:Bool},p a=some r→Big Try.prog τ An (.fn 62 [.one (.c (.str a))] [] (.one (.c (.bool r))) none [] none)
def eT(n:Nat)(a:List UInt8):Option (Bool):=
  ((nM n a).bind fun b=>bif b then(lH n a).bind fun c=>some (!c)else some false).bind fun d=>some d
theorem kT{n:Nat}:Hr (eT n):=by
 intro f r h; unfold eT at h; refine bF Try.func62 rfl rfl<|gco 6 rfl<|oJn h [(2,9)] [] (fun a=>(.n,[(2,Bo a)],[])) (fun _ h=> ?_) (fun a h=> ?_)
 refine xMv rfl<|xC0 h (Ei ·) rfl (fun b h=> ?_)
 refine xMv rfl<|oIf 5 h rfl (fun d h=> ?_) (fun d h=> ?_)
 refine xMv rfl<|xC0 h (yS ·) rfl (fun c h=> ?_)
 exact geo; exact geo; exact gec
abbrev Hl(p:(List aF)→(List aA)→(List UInt8)→Option (Int)):Prop:= ∀ {a:List aF} {b:List aA} {d:List UInt8} {r:Int},p a b d=some r→Big Try.prog τ An (.fn 63 [.one (.ag [.sl (a.map aL), .sl (b.map aH)]), .one (.c (.str d))] [] (.one (.c (.int .i64 r))) none [] none)
def jQ(n:Nat)(b:List aF)(d:List UInt8):(Int)→Option ((Int)⊕((Int)⊕(Int×Bool)))
  | a=>bif decide (a<(b.length:Int))then(ix b a).bind fun c=>bif decide (c.f0=d)then some (.inr (.inl a))else some (.inl (IntKind.wrap .i64 (a+(1:Int))))else some (.inr (.inr (a,false)))
def jB(n:Nat)(a:List aF)(f:List aA)(b:List UInt8):Option (Int):=
  (loopN (jQ n a b) n (0:Int)).bind fun q=>(match q with | .inl c=>some c | .inr (g,d)=>some ((-1):Int))
theorem vW{n:Nat}:Hl (jB n):=by
 intro l m o r h; unfold jB at h; refine bF Try.func63 rfl rfl<|gcc 10 rfl<|cLp h [(4,21)] [] (fun c=>([(5,I64 c)],[])) (fun q=>match q with | .inl b=>(.r,[(4,I64 b)],[]) | .inr (d,a)=>(.e 0,[(5,I64 d),(10,Bo a)],[])) rfl (fun c _ h=> ?_) (fun q h=> ?_)
 unfold jQ at h; refine gco 6 rfl<|xLn rfl<|goc 2 rfl<|cIf h rfl (fun g h=> ?_) (fun g h=> ?_)
 refine gco 8 rfl<|xIx h fV rfl (fun f h=> ?_)
 refine goc 5 rfl<|cIf h rfl (fun j h=> ?_) (fun j h=> ?_)
 exact gec; exact gec; exact gec; rcases q with b | ⟨d,a⟩; exact en; exact gec
abbrev Fc(p:Int→Int→(List UInt8)→(List aA)→Int→Option (Bool)):Prop:= ∀ {a b:Int} {d:List UInt8} {f:List aA} {g:Int} {r:Bool},p a b d f g=some r→Big Try.prog τ An (.fn 83 [.one (.ag [.int .i64 a, .int .i64 b, .str d, .sl (f.map aH)]), .one (.c (.int .i64 g))] [] (.one (.c (.bool r))) none [] none)
def lV(n:Nat)(a:Int)(b:Int)(c:List UInt8)(d:List aA)(t:Int):Option (Bool):=
  bif decide (a=(1:Int))then((aT n b (0:Int) (1000000000000:Int)).bind fun j=>bif j then bif decide (c=([]:List UInt8))then some (decide ((d.length:Int)=(0:Int)))else some false else some false).bind fun u=>some u else bif decide (a=(2:Int))then((eT n c).bind fun l=>bif l then bif decide (b=(0:Int))then some (decide ((d.length:Int)=(0:Int)))else some false else some false).bind fun v=>some v else bif decide (a=(3:Int))then(bif decide (c=([]:List UInt8))then bif decide ((d.length:Int)=(0:Int))then(aT n b ((-1):Int) (IntKind.wrap .i64 (t - (1:Int)))).bind fun f=>some f else some false else some false).bind fun m=>some m else bif decide (a=(4:Int))then(bif decide (c=([]:List UInt8))then bif decide (b=(0:Int))then some (decide ((d.length:Int)≤(20:Int)))else some false else some false).bind fun o=>some o else bif decide (a=(5:Int))then(bif decide (c=([]:List UInt8))then bif decide (b=(0:Int))then some (decide ((d.length:Int)≤(20:Int)))else some false else some false).bind fun p=>some p else bif decide (a=(6:Int))then(bif decide (c=([]:List UInt8))then bif decide (b=(0:Int))then(aT n (d.length:Int) (2:Int) (6:Int)).bind fun g=>some g else some false else some false).bind fun s=>some s else some false
theorem Cc{n:Nat}:Fc (lV n):=by
 intro L M N Q R r h; unfold lV at h; refine bF Try.func83 rfl rfl<|gco 9 rfl<|xLn rfl<|goc 14 rfl<|cIf h rfl (fun G h=> ?_) (fun G h=> ?_)
 refine cRs<|oJn h [(4,4),(13,24)] [] (fun f=>(.n,[(4,Bo f)],[])) (fun _ h=> ?_) (fun f h=> ?_)
 refine goo 2 rfl<|xC0 h (aV ·) rfl (fun D h=> ?_)
 refine xMv rfl<|oIf 16 h rfl (fun H h=> ?_) (fun H h=> ?_)
 refine goo 5 rfl<|oIf 21 h rfl (fun I h=> ?_) (fun I h=> ?_)
 exact geo; exact geo; exact geo; exact gec; refine gcc 5 rfl<|cIf h rfl (fun J h=> ?_) (fun J h=> ?_)
 refine cRs<|oJn h [(4,4),(27,38)] [] (fun g=>(.n,[(4,Bo g)],[])) (fun _ h=> ?_) (fun g h=> ?_)
 refine goo 2 rfl<|xC0 h (kT ·) rfl (fun E h=> ?_)
 refine xMv rfl<|oIf 30 h rfl (fun K h=> ?_) (fun K h=> ?_)
 refine goo 5 rfl<|oIf 35 h rfl (fun m h=> ?_) (fun m h=> ?_)
 exact geo; exact geo; exact geo; exact gec; refine gcc 5 rfl<|cIf h rfl (fun o h=> ?_) (fun o h=> ?_)
 refine cRs<|oJn h [(4,4),(41,54)] [] (fun a=>(.n,[(4,Bo a)],[])) (fun _ h=> ?_) (fun a h=> ?_)
 refine goo 4 rfl<|oIf 44 h rfl (fun p h=> ?_) (fun p h=> ?_)
 refine goo 4 rfl<|oIf 48 h rfl (fun s h=> ?_) (fun s h=> ?_)
 refine goo 4 rfl<|xC0 h (aV ·) rfl (fun j h=> ?_)
 exact geo; exact geo; exact geo; exact gec; refine gcc 6 rfl<|cIf h rfl (fun t h=> ?_) (fun t h=> ?_)
 refine gco 4 rfl<|oJn h [(4,4),(58,69)] [] (fun b=>(.n,[(4,Bo b)],[])) (fun _ h=> ?_) (fun b h=> ?_)
 refine goo 4 rfl<|oIf 61 h rfl (fun u h=> ?_) (fun u h=> ?_)
 refine goo 5 rfl<|oIf 66 h rfl (fun v h=> ?_) (fun v h=> ?_)
 exact geo; exact geo; exact geo; exact gec; refine gcc 4 rfl<|cIf h rfl (fun w h=> ?_) (fun w h=> ?_)
 refine cRs<|oJn h [(4,4),(58,69)] [] (fun c=>(.n,[(4,Bo c)],[])) (fun _ h=> ?_) (fun c h=> ?_)
 refine goo 4 rfl<|oIf 61 h rfl (fun y h=> ?_) (fun y h=> ?_)
 refine goo 5 rfl<|oIf 66 h rfl (fun z h=> ?_) (fun z h=> ?_)
 exact geo; exact geo; exact geo; exact gec; refine gcc 5 rfl<|cIf h rfl (fun A h=> ?_) (fun A h=> ?_)
 refine cRs<|oJn h [(4,4),(72,83)] [] (fun d=>(.n,[(4,Bo d)],[])) (fun _ h=> ?_) (fun d h=> ?_)
 refine goo 4 rfl<|oIf 75 h rfl (fun B h=> ?_) (fun B h=> ?_)
 refine goo 5 rfl<|oIf 80 h rfl (fun C h=> ?_) (fun C h=> ?_)
 refine xMv rfl<|xC0 h (aV ·) rfl (fun l h=> ?_)
 exact geo; exact geo; exact geo; exact gec; exact gec
abbrev lC:Type:=Int→Int→(List UInt8)→(List aA)→Int→Int→Int→Option (Int)
abbrev qK(p:lC):Prop:= ∀ {a b:Int} {d:List UInt8} {f:List aA} {g j l:Int} {r:Int},p a b d f g j l=some r→Big Try.prog τ An (.fn 66 [.one (.ag [.int .i64 a, .int .i64 b, .str d, .sl (f.map aH)]), .one (.c (.int .i64 g)), .one (.c (.int .i64 j)), .one (.c (.int .i64 l))] [] (.one (.c (.int .i64 r))) none [] none)
def fK(n:Nat)(b:lC)(l:Int)(m:Int)(g:List aA):(Int×Int)→Option ((Int×Int)⊕((Int×Int×Bool)))
  | (d,c)=>(bif decide (c<(g.length:Int))then some (decide ((0:Int)≤d))else some false).bind fun j=>bif j then(ix g c).bind fun a=>(b a.f0 a.f1 a.f2 a.f3 l (IntKind.wrap .i64 (m - (1:Int))) d).bind fun f=>some (.inl (f,(IntKind.wrap .i64 (c+(1:Int)))))else some (.inr (d,c,false))
def nB(n:Nat)(a:lC)(l:Int)(m:Int)(o:List UInt8)(b:List aA)(c:Int)(d:Int)(f:Int):Option (Int):=
  (bif decide (d<(1:Int))then some true else bif decide (f<(1:Int))then some true else(lV n l m o b c).bind fun g=>some (!g)).bind fun j=>bif j then some ((-1):Int)else(loopN (fK n a c d b) n ((IntKind.wrap .i64 (f - (1:Int))),(0:Int))).bind fun(p,t,s)=>some p
theorem CL{n:Nat}{a:lC}(b:qK a):qK (nB n a):=by
 intro z A B C D E G r h; unfold nB at h; refine bF Try.func66 rfl rfl<|gco 8 rfl<|oJn h [(10,21)] [] (fun f=>(.n,[(21,Bo f)],[])) (fun _ h=> ?_) (fun f h=> ?_)
 refine goo 3 rfl<|oIf 12 h rfl (fun v h=> ?_) (fun v h=> ?_)
 exact geo; refine goo 4 rfl<|oIf 16 h rfl (fun w h=> ?_) (fun w h=> ?_)
 exact geo; refine goo 2 rfl<|xC0 h (Cc ·) rfl (fun u h=> ?_)
 exact geo; refine cIf h rfl (fun y h=> ?_) (fun y h=> ?_)
 exact gec; refine gcc 12 rfl<|cLp h [(3,3),(9,9),(24,44)] [] (fun(g,l)=>([(3,I64 g),(9,I64 l)],[])) (fun(j,m,c)=>(.e 0,[(3,I64 j),(9,I64 m),(32,Bo c)],[])) rfl (fun st _ h=> ?_) (fun q h=> ?_)
 obtain⟨g,l⟩:=st; unfold fK at h; refine gco 3 rfl<|oJn h [(24,32)] [] (fun d=>(.n,[(32,Bo d)],[])) (fun _ h=> ?_) (fun d h=> ?_)
 refine goo 3 rfl<|xLn rfl<|goo 2 rfl<|oIf 29 h rfl (fun s h=> ?_) (fun s h=> ?_)
 exact geo; exact geo; refine cIf h rfl (fun t h=> ?_) (fun t h=> ?_)
 refine gco 7 rfl<|xIx h aX rfl (fun p h=> ?_)
 refine goo 5 rfl<|xC0 h (b ·) rfl (fun o h=> ?_)
 exact geo; exact gec; obtain⟨j,m,c⟩:=q; exact gec
def AA:Nat→(lC)
  | 0=>(fun _ _ _ _ _ _ _=>none)
  | n+1=>nB n (AA n)
def fX(n:Nat):lC:=AA n
theorem CU(n:Nat):qK (fX n):=by
  induction n with
  | zero=>exact(fun h=>nomatch h)
  | succ n ih=>exact CL (n:=n) ih
theorem EX{n:Nat}:qK (fX n):=(CU n)
theorem AS(n:Nat):fX (n+1)=nB n (fX n):=rfl
abbrev iM:Type:=Int→Int→(List UInt8)→(List aA)→Option ((List Int))
abbrev oW(p:iM):Prop:= ∀ {a b:Int} {d:List UInt8} {f:List aA} {r:(List Int)},p a b d f=some r→Big Try.prog τ An (.fn 67 [.one (.ag [.int .i64 a, .int .i64 b, .str d, .sl (f.map aH)])] [] (.one (.c (.sl (r.map aR)))) none [] none)
def iT(n:Nat)(b:iM)(f:List aA):((List Int)×Int)→Option (((List Int)×Int)⊕(((List Int)×Int×Bool)))
  | (j,c)=>bif decide (c<(f.length:Int))then(ix f c).bind fun a=>(b a.f0 a.f1 a.f2 a.f3).bind fun d=>(dG 8 j d).bind fun g=>some (.inl (g,(IntKind.wrap .i64 (c+(1:Int)))))else some (.inr (j,c,false))
def iS(n:Nat)(b:iM)(g:List aA):((List Int)×Int)→Option (((List Int)×Int)⊕(((List Int)×Int×Bool)))
  | (d,c)=>bif decide (c<(g.length:Int))then(ix g c).bind fun a=>(b a.f0 a.f1 a.f2 a.f3).bind fun f=>(dG 8 d f).bind fun j=>some (.inl (j,(IntKind.wrap .i64 (c+(1:Int)))))else some (.inr (d,c,false))
def lT(n:Nat)(a:iM)(j:Int)(b:Int)(s:List UInt8)(c:List aA):Option ((List Int)):=
  (bif decide (j=(3:Int))then some (!decide (b=((-1):Int)))else some false).bind fun d=>bif d then(dG 8 ([]:List Int) ([b]:List Int)).bind fun f=>(loopN (iT n a c) n (f,(0:Int))).bind fun(l,t,o)=>some l else(loopN (iS n a c) n (([]:List Int),(0:Int))).bind fun(g,p,m)=>some g
theorem BH{n:Nat}{b:iM}(a:oW b):oW (lT n b):=by
 intro J v K M r h; unfold lT at h; refine bF Try.func67 rfl rfl<|gco 3 rfl<|wAe (Li aR []) rfl rfl rfl rfl<|oRs<|cW (L:=([]:List Int)) (f:=aR) rfl rfl rfl rfl rfl rfl rfl<|goo 5 rfl<|oJn h [(6,13)] [] (fun d=>(.n,[(13,Bo d)],[])) (fun _ h=> ?_) (fun d h=> ?_)
 refine goo 4 rfl<|oIf 9 h rfl (fun H h=> ?_) (fun H h=> ?_)
 exact geo; exact geo; refine cIf h rfl (fun I h=> ?_) (fun I h=> ?_)
 refine gco 4 rfl<|cW (L:=([v]:List Int)) (f:=aR) rfl rfl rfl rfl rfl rfl rfl<|wAp (f:=aR) h rfl rfl rfl rfl rfl rfl rfl rfl rfl (fun _=>rfl) rfl (fun G h=> ?_)
 refine goc 7 rfl<|cLp h [(3,4),(19,33)] [] (fun(p,t)=>([(3,Li aR p),(4,I64 t)],[])) (fun(s,u,g)=>(.e 0,[(3,Li aR s),(4,I64 u),(23,Bo g)],[])) rfl (fun st _ h=> ?_) (fun q h=> ?_)
 obtain⟨p,t⟩:=st; unfold iT at h; refine gco 6 rfl<|xLn rfl<|goc 2 rfl<|cIf h rfl (fun B h=> ?_) (fun B h=> ?_)
 refine gco 8 rfl<|xIx h aX rfl (fun z h=> ?_)
 refine xLd rfl<|xC0 h (a ·) rfl (fun w h=> ?_)
 refine wAp (f:=aR) h rfl rfl rfl rfl rfl rfl rfl rfl rfl (fun _=>rfl) rfl (fun D h=> ?_)
 exact geo; exact gec; obtain⟨s,u,g⟩:=q; exact gec; refine gcc 6 rfl<|cLp h [(3,4),(19,33)] [] (fun(j,m)=>([(3,Li aR j),(4,I64 m)],[])) (fun(l,o,c)=>(.e 0,[(3,Li aR l),(4,I64 o),(23,Bo c)],[])) rfl (fun st _ h=> ?_) (fun q h=> ?_)
 obtain⟨j,m⟩:=st; unfold iS at h; refine gco 6 rfl<|xLn rfl<|goc 2 rfl<|cIf h rfl (fun C h=> ?_) (fun C h=> ?_)
 refine gco 8 rfl<|xIx h aX rfl (fun A h=> ?_)
 refine xLd rfl<|xC0 h (a ·) rfl (fun y h=> ?_)
 refine wAp (f:=aR) h rfl rfl rfl rfl rfl rfl rfl rfl rfl (fun _=>rfl) rfl (fun E h=> ?_)
 exact geo; exact gec; obtain⟨l,o,c⟩:=q; exact gec
def xP:Nat→(iM)
  | 0=>(fun _ _ _ _=>none)
  | n+1=>lT n (xP n)
def eU(n:Nat):iM:=xP n
theorem BL(n:Nat):oW (eU n):=by
  induction n with
  | zero=>exact(fun h=>nomatch h)
  | succ n ih=>exact BH (n:=n) ih
theorem Cb{n:Nat}:oW (eU n):=(BL n)
theorem yQ(n:Nat):eU (n+1)=lT n (eU n):=rfl
abbrev Fn(p:Int→Int→(List UInt8)→(List aA)→Int→Option (Bool)):Prop:= ∀ {a b:Int} {d:List UInt8} {f:List aA} {g:Int} {r:Bool},p a b d f g=some r→Big Try.prog τ An (.fn 50 [.one (.ag [.int .i64 a, .int .i64 b, .str d, .sl (f.map aH)]), .one (.c (.int .i64 g))] [] (.one (.c (.bool r))) none [] none)
def iW(n:Nat)(b:(List Int))(f:Int):(Int)→Option ((Int)⊕((Bool)⊕(Int×Bool)))
  | a=>bif decide (a<f)then(ix b a).bind fun c=>(ix b f).bind fun d=>bif decide (c=d)then some (.inr (.inl false))else some (.inl (IntKind.wrap .i64 (a+(1:Int))))else some (.inr (.inr (a,false)))
def lK(n:Nat)(b:(List Int)):(Int)→Option ((Int)⊕((Bool)⊕(Int×Bool)))
  | a=>bif decide (a<(b.length:Int))then(loopN (iW n b a) n (0:Int)).bind fun q=>(match q with | .inl c=>some (.inr (.inl c)) | .inr (f,d)=>some (.inl (IntKind.wrap .i64 (a+(1:Int)))))else some (.inr (.inr (a,false)))
def iI(n:Nat)(a:Int)(b:Int)(c:List UInt8)(d:List aA)(f:Int):Option (Bool):=
  ((aT n f (0:Int) (400:Int)).bind fun m=>bif !m then some true else(fX n a b c d f (10:Int) (300:Int)).bind fun g=>some (decide (g<(0:Int)))).bind fun l=>bif l then some false else(eU n a b c d).bind fun j=>(loopN (lK n j) n (0:Int)).bind fun q=>(match q with | .inl o=>some o | .inr (s,p)=>some true)
theorem uS{n:Nat}:Fn (iI n):=by
 intro B C D E G r h; unfold iI at h; refine bF Try.func50 rfl rfl<|gco 8 rfl<|oJn h [(8,16)] [] (fun c=>(.n,[(16,Bo c)],[])) (fun _ h=> ?_) (fun c h=> ?_)
 refine xMv rfl<|xC0 h (aV ·) rfl (fun y h=> ?_)
 refine goo 2 rfl<|oIf 11 h rfl (fun z h=> ?_) (fun z h=> ?_)
 exact geo; refine goo 2 rfl<|xC0 h (EX ·) rfl (fun v h=> ?_)
 exact geo; refine cIf h rfl (fun A h=> ?_) (fun A h=> ?_)
 exact gec; refine gco 4 rfl<|xC0 h (Cb ·) rfl (fun w h=> ?_)
 refine goc 7 rfl<|cLp h [(4,4),(6,7),(19,38)] [] (fun l=>([(6,I64 l)],[])) (fun q=>match q with | .inl j=>(.r,[(4,Bo j)],[]) | .inr (m,a)=>(.e 0,[(6,I64 m),(22,Bo a)],[])) rfl (fun l _ h=> ?_) (fun q h=> ?_)
 unfold lK at h; refine gco 5 rfl<|xLn rfl<|goc 2 rfl<|cIf h rfl (fun s h=> ?_) (fun s h=> ?_)
 refine gcc 7 rfl<|cLp h [(4,4),(7,7),(25,38)] [] (fun f=>([(7,I64 f)],[])) (fun q=>match q with | .inl d=>(.r,[(4,Bo d)],[]) | .inr (g,b)=>(.e 2,[(7,I64 g),(27,Bo b)],[])) rfl (fun f _ h=> ?_) (fun q h=> ?_)
 unfold iW at h; refine gcc 7 rfl<|cIf h rfl (fun t h=> ?_) (fun t h=> ?_)
 refine gco 7 rfl<|xIx h gU rfl (fun o h=> ?_)
 refine goo 3 rfl<|xIx h gU rfl (fun p h=> ?_)
 refine goc 3 rfl<|cIf h rfl (fun u h=> ?_) (fun u h=> ?_)
 exact gec; exact gec; exact gec; rcases q with d | ⟨g,b⟩; exact en; exact gec; exact gec; rcases q with j | ⟨m,a⟩; exact en; exact gec
abbrev Lb(p:(List UInt8)→Option (Bool)):Prop:= ∀ {a:List UInt8} {r:Bool},p a=some r→Big Try.prog τ An (.fn 80 [.one (.c (.str a))] [] (.one (.c (.bool r))) none [] none)
def oF(n:Nat)(a:List UInt8):Option (Bool):=
  (bif decide (a=([43]:List UInt8))then some true else bif decide (a=([45]:List UInt8))then some true else bif decide (a=([42]:List UInt8))then some true else bif decide (a=([61,61]:List UInt8))then some true else some (decide (a=([60]:List UInt8)))).bind fun b=>some b
theorem AH{n:Nat}:Lb (oF n):=by
 intro g r h; unfold oF at h; refine bF Try.func80 rfl rfl<|gco 6 rfl<|oJn h [(2,20)] [] (fun a=>(.n,[(2,Bo a)],[])) (fun _ h=> ?_) (fun a h=> ?_)
 refine goo 3 rfl<|oIf 5 h rfl (fun b h=> ?_) (fun b h=> ?_)
 exact geo; refine goo 4 rfl<|oIf 9 h rfl (fun c h=> ?_) (fun c h=> ?_)
 exact geo; refine goo 4 rfl<|oIf 13 h rfl (fun d h=> ?_) (fun d h=> ?_)
 exact geo; refine goo 4 rfl<|oIf 17 h rfl (fun f h=> ?_) (fun f h=> ?_)
 exact geo; exact geo; exact gec
abbrev Jy(p:(List aF)→(List aA)→(List UInt8)→Int→Int→(List aG)→Int→Option (Bool)):Prop:= ∀ {a:List aF} {b:List aA} {d:List UInt8} {f g:Int} {j:List aG} {l:Int} {r:Bool},p a b d f g j l=some r→Big Try.prog τ An (.fn 64 [.one (.ag [.sl (a.map aL), .sl (b.map aH)]), .one (.ag [.str d, .int .i64 f, .int .i64 g, .sl (j.map aK)]), .one (.c (.int .i64 l))] [] (.one (.c (.bool r))) none [] none)
def mV(n:Nat)(y:List aF)(f:List aA)(T:List UInt8)(U:Int)(z:Int)(A:List aG)(B:Int):Option (Bool):=
  (ix A B).bind fun a=>(bif decide (a.f2=([]:List UInt8))then some (decide (a.f3=(0:Int)))else some false).bind fun c=>(bif decide (a.f2=([]:List UInt8))then(aT n a.f3 (IntKind.wrap .i64 (B+(1:Int))) (IntKind.wrap .i64 ((A.length:Int) - (1:Int)))).bind fun D=>some D else some false).bind fun C=>bif decide (a.f0=(1:Int))then(bif c then(aT n a.f1 (0:Int) (1000000000000:Int)).bind fun o=>some o else some false).bind fun R=>some R else bif decide (a.f0=(2:Int))then((eT n a.f2).bind fun p=>bif p then bif decide (a.f1=(0:Int))then some (decide (a.f3=(0:Int)))else some false else some false).bind fun E=>some E else bif decide (a.f0=(3:Int))then(bif c then(aT n a.f1 (0:Int) (IntKind.wrap .i64 (z - (1:Int)))).bind fun s=>some s else some false).bind fun G=>some G else bif decide (a.f0=(4:Int))then(bif c then(aT n a.f1 (0:Int) (20:Int)).bind fun t=>some t else some false).bind fun H=>some H else bif decide (a.f0=(5:Int))then(bif c then(aT n a.f1 (0:Int) (20:Int)).bind fun u=>some u else some false).bind fun I=>some I else bif decide (a.f0=(6:Int))then(bif c then(aT n a.f1 (2:Int) (6:Int)).bind fun v=>some v else some false).bind fun J=>some J else bif decide (a.f0=(7:Int))then((oF n a.f2).bind fun w=>bif w then bif decide (a.f1=(0:Int))then some (decide (a.f3=(0:Int)))else some false else some false).bind fun K=>some K else bif decide (a.f0=(8:Int))then(jB n y f a.f2).bind fun d=>(bif decide ((0:Int)≤d)then(ix y d).bind fun m=>bif decide (m.f1=a.f1)then some (decide (a.f3=(0:Int)))else some false else some false).bind fun L=>some L else bif decide (a.f0=(9:Int))then(bif C then(aT n a.f1 (0:Int) (IntKind.wrap .i64 ((f.length:Int) - (1:Int)))).bind fun g=>bif g then(ix f a.f1).bind fun b=>(iI n b.f0 b.f1 b.f2 b.f3 z).bind fun j=>some j else some false else some false).bind fun M=>some M else bif decide (a.f0=(10:Int))then(bif C then some (decide (a.f1=(0:Int)))else some false).bind fun N=>some N else(bif c then bif decide (a.f1=(0:Int))then(aT n a.f0 (11:Int) (12:Int)).bind fun l=>some l else some false else some false).bind fun Q=>some Q
theorem FW{n:Nat}:Jy (mV n):=by
 intro b6 b7 b8 b9 c0 c1 c2 r h; unfold mV at h; refine bF Try.func64 rfl rfl<|gco 11 rfl<|xIx h iF rfl (fun b1 h=> ?_)
 refine xLd rfl<|xAc rfl<|goo 4 rfl<|oJn h [(8,8),(16,23)] [] (fun s=>(.n,[(8,Bo s)],[])) (fun _ h=> ?_) (fun s h=> ?_)
 refine goo 4 rfl<|oIf 19 h rfl (fun q3 h=> ?_) (fun q3 h=> ?_)
 exact geo; exact geo; refine cRs<|oJn h [(9,9),(24,37)] [] (fun t=>(.n,[(9,Bo t)],[])) (fun _ h=> ?_) (fun t h=> ?_)
 refine goo 4 rfl<|oIf 27 h rfl (fun q5 h=> ?_) (fun q5 h=> ?_)
 refine goo 6 rfl<|xLn rfl<|RL rfl<|xC0 h (aV ·) rfl (fun b0 h=> ?_)
 exact geo; exact geo; refine gcc 12 rfl<|cIf h rfl (fun q7 h=> ?_) (fun q7 h=> ?_)
 refine cRs<|oJn h [(6,6),(42,47)] [] (fun p=>(.n,[(6,Bo p)],[])) (fun _ h=> ?_) (fun p h=> ?_)
 refine goo 2 rfl<|oIf 43 h rfl (fun q9 h=> ?_) (fun q9 h=> ?_)
 refine goo 2 rfl<|xC0 h (aV ·) rfl (fun B h=> ?_)
 exact geo; exact geo; exact gec; refine gcc 5 rfl<|cIf h rfl (fun J h=> ?_) (fun J h=> ?_)
 refine cRs<|oJn h [(6,6),(50,62)] [] (fun a=>(.n,[(6,Bo a)],[])) (fun _ h=> ?_) (fun a h=> ?_)
 refine goo 2 rfl<|xC0 h (kT ·) rfl (fun C h=> ?_)
 refine xMv rfl<|oIf 53 h rfl (fun K h=> ?_) (fun K h=> ?_)
 refine goo 5 rfl<|oIf 58 h rfl (fun L h=> ?_) (fun L h=> ?_)
 exact geo; exact geo; exact geo; exact gec; refine gcc 5 rfl<|cIf h rfl (fun M h=> ?_) (fun M h=> ?_)
 refine cRs<|oJn h [(6,6),(65,73)] [] (fun b=>(.n,[(6,Bo b)],[])) (fun _ h=> ?_) (fun b h=> ?_)
 refine goo 2 rfl<|oIf 66 h rfl (fun N h=> ?_) (fun N h=> ?_)
 refine goo 5 rfl<|xC0 h (aV ·) rfl (fun D h=> ?_)
 exact geo; exact geo; exact gec; refine gcc 6 rfl<|cIf h rfl (fun Q h=> ?_) (fun Q h=> ?_)
 refine gco 4 rfl<|oJn h [(6,6),(77,82)] [] (fun c=>(.n,[(6,Bo c)],[])) (fun _ h=> ?_) (fun c h=> ?_)
 refine goo 2 rfl<|oIf 78 h rfl (fun R h=> ?_) (fun R h=> ?_)
 refine goo 2 rfl<|xC0 h (aV ·) rfl (fun E h=> ?_)
 exact geo; exact geo; exact gec; refine gcc 4 rfl<|cIf h rfl (fun T h=> ?_) (fun T h=> ?_)
 refine cRs<|oJn h [(6,6),(77,82)] [] (fun d=>(.n,[(6,Bo d)],[])) (fun _ h=> ?_) (fun d h=> ?_)
 refine goo 2 rfl<|oIf 78 h rfl (fun U h=> ?_) (fun U h=> ?_)
 refine goo 2 rfl<|xC0 h (aV ·) rfl (fun G h=> ?_)
 exact geo; exact geo; exact gec; refine gcc 5 rfl<|cIf h rfl (fun V h=> ?_) (fun V h=> ?_)
 refine cRs<|oJn h [(6,6),(85,90)] [] (fun f=>(.n,[(6,Bo f)],[])) (fun _ h=> ?_) (fun f h=> ?_)
 refine goo 2 rfl<|oIf 86 h rfl (fun W h=> ?_) (fun W h=> ?_)
 refine goo 2 rfl<|xC0 h (aV ·) rfl (fun H h=> ?_)
 exact geo; exact geo; exact gec; refine gcc 5 rfl<|cIf h rfl (fun X h=> ?_) (fun X h=> ?_)
 refine cRs<|oJn h [(6,6),(93,105)] [] (fun g=>(.n,[(6,Bo g)],[])) (fun _ h=> ?_) (fun g h=> ?_)
 refine goo 2 rfl<|xC0 h (AH ·) rfl (fun I h=> ?_)
 refine xMv rfl<|oIf 96 h rfl (fun Y h=> ?_) (fun Y h=> ?_)
 refine goo 5 rfl<|oIf 101 h rfl (fun Z h=> ?_) (fun Z h=> ?_)
 exact geo; exact geo; exact geo; exact gec; refine gcc 5 rfl<|cIf h rfl (fun a0 h=> ?_) (fun a0 h=> ?_)
 refine gco 5 rfl<|xC0 h (vW ·) rfl (fun u h=> ?_)
 refine goo 4 rfl<|oJn h [(6,6),(112,129)] [] (fun j=>(.n,[(6,Bo j)],[])) (fun _ h=> ?_) (fun j h=> ?_)
 refine goo 3 rfl<|oIf 114 h rfl (fun a1 h=> ?_) (fun a1 h=> ?_)
 refine goo 3 rfl<|xIx h fV rfl (fun z h=> ?_)
 refine goo 7 rfl<|oIf 125 h rfl (fun a2 h=> ?_) (fun a2 h=> ?_)
 exact geo; exact geo; exact geo; exact gec; refine gcc 5 rfl<|cIf h rfl (fun a3 h=> ?_) (fun a3 h=> ?_)
 refine cRs<|oJn h [(6,6),(132,152)] [] (fun l=>(.n,[(6,Bo l)],[])) (fun _ h=> ?_) (fun l h=> ?_)
 refine goo 2 rfl<|oIf 133 h rfl (fun a4 h=> ?_) (fun a4 h=> ?_)
 refine goo 4 rfl<|xLn rfl<|RL rfl<|xC0 h (aV ·) rfl (fun v h=> ?_)
 refine goo 2 rfl<|oIf 142 h rfl (fun a5 h=> ?_) (fun a5 h=> ?_)
 refine goo 4 rfl<|xIx h aX rfl (fun A h=> ?_)
 refine goo 3 rfl<|xC0 h (uS ·) rfl (fun w h=> ?_)
 exact geo; exact geo; exact geo; exact gec; refine gcc 5 rfl<|cIf h rfl (fun a6 h=> ?_) (fun a6 h=> ?_)
 refine cRs<|oJn h [(6,6),(155,160)] [] (fun m=>(.n,[(6,Bo m)],[])) (fun _ h=> ?_) (fun m h=> ?_)
 refine goo 2 rfl<|oIf 156 h rfl (fun a7 h=> ?_) (fun a7 h=> ?_)
 exact geo; exact geo; exact gec; refine gco 3 rfl<|oJn h [(6,6),(161,171)] [] (fun o=>(.n,[(6,Bo o)],[])) (fun _ h=> ?_) (fun o h=> ?_)
 refine goo 2 rfl<|oIf 162 h rfl (fun a8 h=> ?_) (fun a8 h=> ?_)
 refine goo 5 rfl<|oIf 167 h rfl (fun a9 h=> ?_) (fun a9 h=> ?_)
 refine goo 2 rfl<|xC0 h (aV ·) rfl (fun y h=> ?_)
 exact geo; exact geo; exact geo; exact gec
abbrev Fb(p:Int→Int→(List UInt8)→Int→Option (Int×Int)):Prop:= ∀ {a b:Int} {d:List UInt8} {f:Int} {r:Int×Int},p a b d f=some r→Big Try.prog τ An (.fn 81 [.one (.ag [.int .i64 a, .int .i64 b, .str d, .int .i64 f])] [] (.tup [.c (.int .i64 r.1), .c (.int .i64 r.2)]) none [] none)
def lU(n:Nat)(a:Int)(b:Int)(c:List UInt8)(d:Int):Option (Int×Int):=
  bif decide (a=(1:Int))then some ((0:Int),(1:Int))else bif decide (a=(2:Int))then some ((0:Int),(1:Int))else bif decide (a=(3:Int))then some ((0:Int),(1:Int))else bif decide (a=(4:Int))then some (b,(1:Int))else bif decide (a=(5:Int))then some (b,(1:Int))else bif decide (a=(6:Int))then some (b,(1:Int))else bif decide (a=(8:Int))then some (b,(1:Int))else bif decide (a=(7:Int))then some ((2:Int),(1:Int))else bif decide (a=(9:Int))then some ((1:Int),(0:Int))else bif decide (a=(12:Int))then some ((1:Int),(0:Int))else some ((0:Int),(0:Int))
theorem Ca{n:Nat}:Fb (lU n):=by
 intro p s t u r h; unfold lU at h; refine bF Try.func81 rfl rfl<|gcc 19 rfl<|cIf h rfl (fun b h=> ?_) (fun b h=> ?_)
 exact gec; refine gcc 5 rfl<|cIf h rfl (fun c h=> ?_) (fun c h=> ?_)
 exact gec; refine gcc 4 rfl<|cIf h rfl (fun d h=> ?_) (fun d h=> ?_)
 exact gec; refine gcc 6 rfl<|cIf h rfl (fun f h=> ?_) (fun f h=> ?_)
 exact gec; refine gcc 5 rfl<|cIf h rfl (fun g h=> ?_) (fun g h=> ?_)
 exact gec; refine gcc 5 rfl<|cIf h rfl (fun j h=> ?_) (fun j h=> ?_)
 exact gec; refine gcc 4 rfl<|cIf h rfl (fun l h=> ?_) (fun l h=> ?_)
 exact gec; refine gcc 5 rfl<|cIf h rfl (fun m h=> ?_) (fun m h=> ?_)
 exact gec; refine gcc 6 rfl<|cIf h rfl (fun o h=> ?_) (fun o h=> ?_)
 exact gec; refine gcc 4 rfl<|cIf h rfl (fun a h=> ?_) (fun a h=> ?_)
 exact gec; exact gec
abbrev Ho(p:(List Int)→Int→Int→Option (Bool×(List Int))):Prop:= ∀ {a:List Int} {b d:Int} {r:Bool×(List Int)},p a b d=some r→Big Try.prog τ An (.fn 82 [.one (.c (.sl (a.map aR))), .one (.c (.int .i64 b)), .one (.c (.int .i64 d))] [] (.one (.c (.bool r.1))) (some (.sl (r.2.map aR))) [] none)
def fY(n:Nat)(a:List Int)(b:Int)(c:Int):Option (Bool×(List Int)):=
  (ix a b).bind fun j=>bif decide (j=((-1):Int))then(ix a b).bind fun l=>(some (a.set (Int.toNat b) c)).bind fun d=>(ix d b).bind fun f=>some ((decide (f=c)),d)else(ix a b).bind fun g=>some ((decide (g=c)),a)
theorem nU{n:Nat}:Ho (fY n):=by
 intro l m a r h; unfold fY at h; refine bFi Try.func82 rfl rfl<|gco 9 rfl<|xIx h gU rfl (fun g h=> ?_)
 refine goc 3 rfl<|cIf h rfl (fun j h=> ?_) (fun j h=> ?_)
 refine cRg<|wAl rfl rfl rfl rfl<|goo 2 rfl<|wIp (f:=aR) h rfl rfl rfl rfl rfl rfl (fun _=>rfl) rfl (fun b ke15_3 h=> ?_)
 refine Qi (f:=aR) (v':=a) h ke15_3 rfl rfl rfl rfl rfl rfl rfl rfl rfl (fun o h=> ?_)
 refine goo 5 rfl<|xIx h gU rfl (fun c h=> ?_)
 exact geo; refine gco 5 rfl<|xIx h gU rfl (fun d h=> ?_)
 exact geo
abbrev Cq(p:(List UInt8)→Int→Int→(List aG)→Option ((List Int)×Bool)):Prop:= ∀ {a:List UInt8} {b d:Int} {f:List aG} {r:(List Int)×Bool},p a b d f=some r→Big Try.prog τ An (.fn 65 [.one (.ag [.str a, .int .i64 b, .int .i64 d, .sl (f.map aK)])] [] (.tup [.c (.sl (r.1.map aR)), .c (.bool r.2)]) none [] none)
def eP(n:Nat):((List Int)×Int)→Option (((List Int)×Int)⊕(((List Int)×Int×Bool)))
  | (b,a)=>bif decide (a<(b.length:Int))then(ix b a).bind fun d=>(some (b.set (Int.toNat a) ((-1):Int))).bind fun c=>some (.inl (c,(IntKind.wrap .i64 (a+(1:Int)))))else some (.inr (b,a,false))
def dK(n:Nat)(z:List aG):((List Int)×Int)→Option (((List Int)×Int)⊕(((List Int)×Bool)⊕((List Int)×Int×Bool)))
  | (b,c)=>bif decide (c<(b.length:Int))then(((ix z c).bind fun a=>(lU n a.f0 a.f1 a.f2 a.f3).bind fun g=>(ix b c).bind fun d=>(bif decide (d<g.1)then some true else bif decide ((300:Int)<d)then some true else bif decide (a.f0=(12:Int))then some (!decide (d=(1:Int)))else some false).bind fun u=>bif u then some (.inl (b,false))else bif decide (a.f0=(11:Int))then bif !true then some (.inl (b,false))else some (.inr (b,false,a.f0,a.f1,a.f2,a.f3))else bif decide (a.f0=(12:Int))then bif !true then some (.inl (b,false))else some (.inr (b,false,a.f0,a.f1,a.f2,a.f3))else bif decide (a.f0=(10:Int))then(fY n b a.f3 d).bind fun j=>bif !j.1 then some (.inl (j.2,false))else some (.inr (j.2,false,a.f0,a.f1,a.f2,a.f3))else bif decide (a.f0=(9:Int))then((fY n b a.f3 d).bind fun f=>bif f.1 then bif decide ((IntKind.wrap .i64 (c+(1:Int)))<(f.2.length:Int))then(fY n f.2 (IntKind.wrap .i64 (c+(1:Int))) (IntKind.wrap .i64 (d - (1:Int)))).bind fun l=>some (l.2,l.1)else some (f.2,false)else some (f.2,false)).bind fun(o,s)=>bif !s then some (.inl (o,false))else some (.inr (o,false,a.f0,a.f1,a.f2,a.f3))else(bif decide ((IntKind.wrap .i64 (c+(1:Int)))<(b.length:Int))then(fY n b (IntKind.wrap .i64 (c+(1:Int))) (IntKind.wrap .i64 ((IntKind.wrap .i64 (d - g.1))+g.2))).bind fun m=>some (m.2,m.1)else some (b,false)).bind fun(p,t)=>bif !t then some (.inl (p,false))else some (.inr (p,false,a.f0,a.f1,a.f2,a.f3)):Option (((List Int)×Bool)⊕((List Int)×Bool×Int×Int×(List UInt8)×Int)))).bind fun q=>(match q with | .inl (v,w)=>some (.inr (.inl (v,w))) | .inr (y,A,B,C,D,E)=>some (.inl (y,(IntKind.wrap .i64 (c+(1:Int))))))else some (.inr (.inr (b,c,false)))
def jP(n:Nat)(m:List UInt8)(o:Int)(p:Int)(a:List aG):Option ((List Int)×Bool):=
  (ck (decide (0≤(a.length:Int)∧(a.length:Int)≤maxLen∧8*(a.length:Int)≤281474976710656))).bind fun _=>(loopN (eP n) n ((List.replicate (Int.toNat (a.length:Int)) (0:Int)),(1:Int))).bind fun(f,s,j)=>(loopN (dK n a) n (f,(0:Int))).bind fun q=>(match q with | .inl (b,c)=>some (b,c) | .inr (d,l,g)=>some (d,true))
theorem AX{n:Nat}:Cq (jP n):=by
 intro b4 b5 b6 b7 r h; unfold jP at h; refine bF Try.func65 rfl rfl<|gco 3 rfl<|wAe (Li aR []) rfl rfl rfl rfl<|goo 6 rfl<|xLn rfl<|oCk h (fun Q h=> ?_)
 refine wMk (z:=(0:Int)) (f:=aR) Q rfl rfl rfl rfl rfl rfl rfl<|goc 7 rfl<|cLp h [(4,5),(16,24)] [] (fun(K,M)=>([(4,Li aR K),(5,I64 M)],[])) (fun(L,N,p)=>(.e 0,[(4,Li aR L),(5,I64 N),(19,Bo p)],[])) rfl (fun st _ h=> ?_) (fun q h=> ?_)
 obtain⟨K,M⟩:=st; unfold eP at h; refine gco 5 rfl<|xLn rfl<|goc 2 rfl<|cIf h rfl (fun q7 h=> ?_) (fun q7 h=> ?_)
 refine gco 4 rfl<|wAl rfl rfl rfl rfl<|xMv rfl<|wIp (f:=aR) h rfl rfl rfl rfl rfl rfl (fun _=>rfl) rfl (fun b2 ke24_8 h=> ?_)
 refine Qi (f:=aR) (v':=((-1):Int)) h ke24_8 rfl rfl rfl rfl rfl rfl rfl rfl rfl (fun b8 h=> ?_)
 exact geo; exact gec; obtain⟨L,N,p⟩:=q; refine gcc 5 rfl<|cLp h [(2,4),(6,11),(25,114)] [(7,7)] (fun(w,D)=>([(4,Li aR w),(6,I64 D)],[])) (fun q=>match q with | .inl (s,u)=>(.r,[(2,Li aR s),(3,Bo u)],[]) | .inr (y,E,m)=>(.e 2,[(4,Li aR y),(6,I64 E),(28,Bo m)],[])) rfl (fun st _ h=> ?_) (fun q h=> ?_)
 obtain⟨w,D⟩:=st; unfold dK at h; refine gco 5 rfl<|xLn rfl<|goc 2 rfl<|cIf h rfl (fun V h=> ?_) (fun V h=> ?_)
 refine gcc 2 rfl<|cJn h [(2,4),(7,11),(31,114)] [(7,7)] (fun q=>match q with | .inl (t,v)=>(.r,[(2,Li aR t),(3,Bo v)],[]) | .inr (A,b,G,H,I,J)=>(.n,[(4,Li aR A),(113,Bo b)],[(7,[.int .i64 G, .int .i64 H, .str I, .int .i64 J])])) (fun _ h=> ?_) (fun q h=> ?_)
 refine gco 6 rfl<|xIx h iF rfl (fun T h=> ?_)
 refine xLd rfl<|xAc rfl<|goo 5 rfl<|xC0 h (Ca ·) rfl (fun R h=> ?_)
 refine goo 10 rfl<|xIx h gU rfl (fun U h=> ?_)
 refine goo 6 rfl<|oJn h [(45,60)] [] (fun o=>(.n,[(60,Bo o)],[])) (fun _ h=> ?_) (fun o h=> ?_)
 refine goo 4 rfl<|oIf 48 h rfl (fun W h=> ?_) (fun W h=> ?_)
 exact geo; refine goo 4 rfl<|oIf 52 h rfl (fun X h=> ?_) (fun X h=> ?_)
 exact geo; refine goo 4 rfl<|oIf 56 h rfl (fun Y h=> ?_) (fun Y h=> ?_)
 exact geo; exact geo; refine cIf h rfl (fun Z h=> ?_) (fun Z h=> ?_)
 exact gec; refine gcc 18 rfl<|cIf h rfl (fun a0 h=> ?_) (fun a0 h=> ?_)
 refine gcc 8 rfl<|cIf h rfl (fun a1 h=> ?_) (fun a1 h=> ?_)
 exact gec; exact gec; refine gcc 4 rfl<|cIf h rfl (fun a2 h=> ?_) (fun a2 h=> ?_)
 refine gcc 6 rfl<|cIf h rfl (fun a3 h=> ?_) (fun a3 h=> ?_)
 exact gec; exact gec; refine gcc 5 rfl<|cIf h rfl (fun a4 h=> ?_) (fun a4 h=> ?_)
 refine cRg<|wAl rfl rfl rfl rfl<|goo 3 rfl<|xIo (fun d=> .sl (d.2.map aR)) h (nU ·) rfl (Wm _) (fun _=>Km _ _) (fun d h=> ?_)
 refine goc 7 rfl<|cIf h rfl (fun a5 h=> ?_) (fun a5 h=> ?_)
 exact gec; exact gec; refine gcc 5 rfl<|cIf h rfl (fun a6 h=> ?_) (fun a6 h=> ?_)
 refine cRg<|oJn h [(4,4),(11,11),(92,111)] [] (fun(B,j)=>(.n,[(4,Li aR B),(11,Bo j)],[])) (fun _ h=> ?_) (fun q h=> ?_)
 refine wAl rfl rfl rfl rfl<|goo 3 rfl<|xIo (fun g=> .sl (g.2.map aR)) h (nU ·) rfl (Wm _) (fun _=>Km _ _) (fun g h=> ?_)
 refine xMv rfl<|oIf 97 h rfl (fun a7 h=> ?_) (fun a7 h=> ?_)
 refine goo 3 rfl<|xLn rfl<|goo 3 rfl<|oIf 104 h rfl (fun a8 h=> ?_) (fun a8 h=> ?_)
 refine wAl rfl rfl rfl rfl<|goo 4 rfl<|xIo (fun a=> .sl (a.2.map aR)) h (nU ·) rfl (Wm _) (fun _=>Km _ _) (fun a h=> ?_)
 exact geo; exact geo; exact geo; obtain⟨B,j⟩:=q; refine gcc 5 rfl<|cIf h rfl (fun a9 h=> ?_) (fun a9 h=> ?_)
 exact gec; exact gec; refine cRg<|oJn h [(4,4),(11,11),(64,79)] [] (fun(C,l)=>(.n,[(4,Li aR C),(11,Bo l)],[])) (fun _ h=> ?_) (fun q h=> ?_)
 refine goo 3 rfl<|xLn rfl<|goo 2 rfl<|oIf 69 h rfl (fun b0 h=> ?_) (fun b0 h=> ?_)
 refine wAl rfl rfl rfl rfl<|goo 7 rfl<|xIo (fun c=> .sl (c.2.map aR)) h (nU ·) rfl (Wm _) (fun _=>Km _ _) (fun c h=> ?_)
 exact geo; exact geo; obtain⟨C,l⟩:=q; refine gcc 5 rfl<|cIf h rfl (fun b1 h=> ?_) (fun b1 h=> ?_)
 exact gec; exact gec; rcases q with⟨t,v⟩ | ⟨A,b,G,H,I,J⟩; exact en; exact gec; exact gec; rcases q with⟨s,u⟩ | ⟨y,E,m⟩; exact en; exact gec
abbrev Hk(p:(List aF)→(List aA)→Int→Option (Bool)):Prop:= ∀ {a:List aF} {b:List aA} {d:Int} {r:Bool},p a b d=some r→Big Try.prog τ An (.fn 49 [.one (.ag [.sl (a.map aL), .sl (b.map aH)]), .one (.c (.int .i64 d))] [] (.one (.c (.bool r))) none [] none)
def mH(n:Nat)(d:List aF)(a:aF)(f:List aA):(Int)→Option ((Int)⊕((Bool)⊕(Int×Bool)))
  | b=>bif decide (b<(a.f3.length:Int))then(mV n d f a.f0 a.f1 a.f2 a.f3 b).bind fun c=>bif !c then some (.inr (.inl false))else some (.inl (IntKind.wrap .i64 (b+(1:Int))))else some (.inr (.inr (b,false)))
def nH(n:Nat)(c:List aF)(g:List aA)(j:Int):Option (Bool):=
  (ix c j).bind fun a=>((eT n a.f0).bind fun l=>bif !l then some true else(jB n c g a.f0).bind fun m=>bif !decide (m=j)then some true else(aT n a.f1 (0:Int) (4:Int)).bind fun o=>bif !o then some true else(aT n a.f2 a.f1 (400:Int)).bind fun p=>bif !p then some true else(aT n (a.f3.length:Int) (1:Int) (1500:Int)).bind fun d=>some (!d)).bind fun s=>bif s then some false else(loopN (mH n c a g) n (0:Int)).bind fun q=>(match q with | .inl t=>some t | .inr (w,v)=>(jP n a.f0 a.f1 a.f2 a.f3).bind fun f=>(ix a.f3 (IntKind.wrap .i64 ((a.f3.length:Int) - (1:Int)))).bind fun b=>(bif f.2 then bif decide (b.f0=(12:Int))then some true else some (decide (b.f0=(11:Int)))else some false).bind fun u=>some u)
theorem EY{n:Nat}:Hk (nH n):=by
 intro H I J r h; unfold nH at h; refine bF Try.func49 rfl rfl<|gco 10 rfl<|xIx h fV rfl (fun C h=> ?_)
 refine xLd rfl<|xAz [.str [], .int .i64 0, .int .i64 0, .sl ([].map aK)] rfl<|goo 5 rfl<|oJn h [(15,47)] [] (fun b=>(.n,[(47,Bo b)],[])) (fun _ h=> ?_) (fun b h=> ?_)
 refine goo 2 rfl<|xC0 h (kT ·) rfl (fun y h=> ?_)
 refine goo 2 rfl<|oIf 19 h rfl (fun D h=> ?_) (fun D h=> ?_)
 exact geo; refine goo 3 rfl<|xC0 h (vW ·) rfl (fun z h=> ?_)
 refine goo 4 rfl<|oIf 27 h rfl (fun E h=> ?_) (fun E h=> ?_)
 exact geo; refine goo 2 rfl<|xC0 h (aV ·) rfl (fun A h=> ?_)
 refine goo 3 rfl<|oIf 33 h rfl (fun G h=> ?_) (fun G h=> ?_)
 exact geo; refine goo 4 rfl<|xC0 h (aV ·) rfl (fun B h=> ?_)
 refine goo 3 rfl<|oIf 41 h rfl (fun p h=> ?_) (fun p h=> ?_)
 exact geo; refine goo 2 rfl<|xLn rfl<|xC0 h (aV ·) rfl (fun j h=> ?_)
 exact geo; refine cIf h rfl (fun s h=> ?_) (fun s h=> ?_)
 exact gec; refine gcc 6 rfl<|cLp h [(4,4),(6,6),(48,59)] [] (fun f=>([(6,I64 f)],[])) (fun q=>match q with | .inl c=>(.r,[(4,Bo c)],[]) | .inr (g,a)=>(.e 0,[(6,I64 g),(52,Bo a)],[])) rfl (fun f _ h=> ?_) (fun q h=> ?_)
 unfold mH at h; refine gco 6 rfl<|xLn rfl<|goc 2 rfl<|cIf h rfl (fun t h=> ?_) (fun t h=> ?_)
 refine gco 8 rfl<|xC0 h (FW ·) rfl (fun l h=> ?_)
 refine goc 2 rfl<|cIf h rfl (fun u h=> ?_) (fun u h=> ?_)
 exact gec; exact gec; exact gec; rcases q with c | ⟨g,a⟩; exact en; refine gco 3 rfl<|xC0 h (AX ·) rfl (fun m h=> ?_)
 refine goo 12 rfl<|xLn rfl<|RL rfl<|xIx h iF rfl (fun o h=> ?_)
 refine goo 6 rfl<|oJn h [(4,4),(74,82)] [] (fun d=>(.n,[(4,Bo d)],[])) (fun _ h=> ?_) (fun d h=> ?_)
 refine goo 2 rfl<|oIf 75 h rfl (fun v h=> ?_) (fun v h=> ?_)
 refine goo 3 rfl<|oIf 78 h rfl (fun w h=> ?_) (fun w h=> ?_)
 exact geo; exact geo; exact geo; exact gec
abbrev IA(p:(List aF)→(List aA)→Option (Bool)):Prop:= ∀ {a:List aF} {b:List aA} {r:Bool},p a b=some r→Big Try.prog τ An (.fn 29 [.one (.ag [.sl (a.map aL), .sl (b.map aH)])] [] (.one (.c (.bool r))) none [] none)
def mN(n:Nat)(b:List aF)(d:List aA):(Int)→Option ((Int)⊕((Bool)⊕(Int×Bool)))
  | a=>bif decide (a<(b.length:Int))then(nH n b d a).bind fun c=>bif !c then some (.inr (.inl false))else some (.inl (IntKind.wrap .i64 (a+(1:Int))))else some (.inr (.inr (a,false)))
def nL(n:Nat)(a:List aF)(b:List aA):Option (Bool):=
  (bif decide ((12:Int)<(a.length:Int))then some true else some (decide ((2000:Int)<(b.length:Int)))).bind fun c=>bif c then some false else(loopN (mN n a b) n (0:Int)).bind fun q=>(match q with | .inl d=>some d | .inr (g,f)=>some true)
theorem Eh{n:Nat}:IA (nL n):=by
 intro p s r h; unfold nL at h; refine bF Try.func29 rfl rfl<|gco 8 rfl<|oJn h [(4,13)] [] (fun a=>(.n,[(13,Bo a)],[])) (fun _ h=> ?_) (fun a h=> ?_)
 refine goo 2 rfl<|xLn rfl<|goo 2 rfl<|oIf 8 h rfl (fun l h=> ?_) (fun l h=> ?_)
 exact geo; exact goo 2 rfl<|xLn rfl<|geo
 refine cIf h rfl (fun m h=> ?_) (fun m h=> ?_)
 exact gec; refine gcc 6 rfl<|cLp h [(2,3),(14,24)] [] (fun d=>([(3,I64 d)],[])) (fun q=>match q with | .inl c=>(.r,[(2,Bo c)],[]) | .inr (f,b)=>(.e 0,[(3,I64 f),(18,Bo b)],[])) rfl (fun d _ h=> ?_) (fun q h=> ?_)
 unfold mN at h; refine gco 6 rfl<|xLn rfl<|goc 2 rfl<|cIf h rfl (fun o h=> ?_) (fun o h=> ?_)
 refine gco 7 rfl<|xC0 h (EY ·) rfl (fun j h=> ?_)
 refine goc 2 rfl<|cIf h rfl (fun g h=> ?_) (fun g h=> ?_)
 exact gec; exact gec; exact gec; rcases q with c | ⟨f,b⟩; exact en; exact gec
abbrev Fk(p:(List aF)→(List aA)→Option (Bool)):Prop:= ∀ {a:List aF} {b:List aA} {r:Bool},p a b=some r→Big Try.prog τ An (.fn 30 [.one (.ag [.sl (a.map aL), .sl (b.map aH)])] [] (.one (.c (.bool r))) none [] none)
def lJ(n:Nat)(c:List aA):(Int)→Option ((Int)⊕((Bool)⊕(Int×Bool)))
  | b=>bif decide (b<(c.length:Int))then(ix c b).bind fun a=>(iI n a.f0 a.f1 a.f2 a.f3 (400:Int)).bind fun d=>bif !d then some (.inr (.inl false))else some (.inl (IntKind.wrap .i64 (b+(1:Int))))else some (.inr (.inr (b,false)))
def mB(n:Nat)(c:List aF)(a:List aA):Option (Bool):=
  (loopN (lJ n a) n (0:Int)).bind fun q=>(match q with | .inl b=>some b | .inr (d,f)=>some true)
theorem Cj{n:Nat}:Fk (mB n):=by
 intro m o r h; unfold mB at h; refine bF Try.func30 rfl rfl<|gcc 10 rfl<|cLp h [(2,17)] [] (fun b=>([(3,I64 b)],[])) (fun q=>match q with | .inl a=>(.r,[(2,Bo a)],[]) | .inr (c,d)=>(.e 0,[(3,I64 c),(8,Bo d)],[])) rfl (fun b _ h=> ?_) (fun q h=> ?_)
 unfold lJ at h; refine gco 6 rfl<|xLn rfl<|goc 2 rfl<|cIf h rfl (fun j h=> ?_) (fun j h=> ?_)
 refine gco 8 rfl<|xIx h aX rfl (fun g h=> ?_)
 refine xLd rfl<|xC0 h (uS ·) rfl (fun f h=> ?_)
 refine goc 2 rfl<|cIf h rfl (fun l h=> ?_) (fun l h=> ?_)
 exact gec; exact gec; exact gec; rcases q with a | ⟨c,d⟩; exact en; exact gec
abbrev Hw(p:(List Int)→Int→Option ((List Int))):Prop:= ∀ {a:List Int} {b:Int} {r:(List Int)},p a b=some r→Big Try.prog τ An (.fn 31 [.one (.c (.sl (a.map rI_u8))), .one (.c (.int .i64 b))] [] (.one (.c (.sl (r.map rI_u8)))) none [] none)
def cH(n:Nat):((List Int)×Int)→Option (((List Int)×Int)⊕(((List Int)×Int×Bool)))
  | (c,a)=>bif decide ((127:Int)<a)then(dG 1 c ([(IntKind.wrap .u8 (bits .or .i64 (bits .and .i64 a (127:Int)) (128:Int)))]:List Int)).bind fun b=>some (.inl (b,(Int.fdiv a (2 ^ 7))))else some (.inr (c,a,false))
def pR(n:Nat):((List Int)×Int)→Option (((List Int)×Int)⊕(((List Int)×Int×Bool)))
  | (b,a)=>bif decide ((127:Int)<a)then(dG 1 b ([(IntKind.wrap .u8 (bits .or .i64 (bits .and .i64 a (127:Int)) (128:Int)))]:List Int)).bind fun c=>some (.inl (c,(Int.fdiv a (2 ^ 7))))else some (.inr (b,a,false))
def pQ(n:Nat):((List Int)×Int)→Option (((List Int)×Int)⊕(((List Int)×Int×Bool)))
  | (b,a)=>bif decide ((127:Int)<a)then(dG 1 b ([(IntKind.wrap .u8 (bits .or .i64 (bits .and .i64 a (127:Int)) (128:Int)))]:List Int)).bind fun c=>some (.inl (c,(Int.fdiv a (2 ^ 7))))else some (.inr (b,a,false))
def pP(n:Nat):((List Int)×Int)→Option (((List Int)×Int)⊕(((List Int)×Int×Bool)))
  | (b,a)=>bif decide ((127:Int)<a)then(dG 1 b ([(IntKind.wrap .u8 (bits .or .i64 (bits .and .i64 a (127:Int)) (128:Int)))]:List Int)).bind fun c=>some (.inl (c,(Int.fdiv a (2 ^ 7))))else some (.inr (b,a,false))
def pO(n:Nat):((List Int)×Int)→Option (((List Int)×Int)⊕(((List Int)×Int×Bool)))
  | (b,a)=>bif decide ((127:Int)<a)then(dG 1 b ([(IntKind.wrap .u8 (bits .or .i64 (bits .and .i64 a (127:Int)) (128:Int)))]:List Int)).bind fun c=>some (.inl (c,(Int.fdiv a (2 ^ 7))))else some (.inr (b,a,false))
def pN(n:Nat):((List Int)×Int)→Option (((List Int)×Int)⊕(((List Int)×Int×Bool)))
  | (b,a)=>bif decide ((127:Int)<a)then(dG 1 b ([(IntKind.wrap .u8 (bits .or .i64 (bits .and .i64 a (127:Int)) (128:Int)))]:List Int)).bind fun c=>some (.inl (c,(Int.fdiv a (2 ^ 7))))else some (.inr (b,a,false))
def pM(n:Nat):((List Int)×Int)→Option (((List Int)×Int)⊕(((List Int)×Int×Bool)))
  | (b,a)=>bif decide ((127:Int)<a)then(dG 1 b ([(IntKind.wrap .u8 (bits .or .i64 (bits .and .i64 a (127:Int)) (128:Int)))]:List Int)).bind fun c=>some (.inl (c,(Int.fdiv a (2 ^ 7))))else some (.inr (b,a,false))
def pL(n:Nat):((List Int)×Int)→Option (((List Int)×Int)⊕(((List Int)×Int×Bool)))
  | (b,a)=>bif decide ((127:Int)<a)then(dG 1 b ([(IntKind.wrap .u8 (bits .or .i64 (bits .and .i64 a (127:Int)) (128:Int)))]:List Int)).bind fun c=>some (.inl (c,(Int.fdiv a (2 ^ 7))))else some (.inr (b,a,false))
def bP(n:Nat)(H:List Int)(b:Int):Option ((List Int)):=
  (dG 1 ([]:List Int) H).bind fun a=>bif decide ((1000000000000:Int)<b)then bif decide ((1000000000000:Int)<((-1000000000000):Int))then bif decide (((-1000000000000):Int)<(0:Int))then(loopN (cH n) n (a,(IntKind.wrap .i64 ((IntKind.wrap .i64 (((-2):Int)*((-1000000000000):Int))) - (1:Int))))).bind fun(I,J,U)=>(dG 1 I ([(IntKind.wrap .u8 J)]:List Int)).bind fun c=>some c else(loopN (pR n) n (a,(IntKind.wrap .i64 ((2:Int)*((-1000000000000):Int))))).bind fun(p,z,K)=>(dG 1 p ([(IntKind.wrap .u8 z)]:List Int)).bind fun d=>some d else bif decide ((1000000000000:Int)<(0:Int))then(loopN (pQ n) n (a,(IntKind.wrap .i64 ((IntKind.wrap .i64 (((-2):Int)*(1000000000000:Int))) - (1:Int))))).bind fun(s,A,L)=>(dG 1 s ([(IntKind.wrap .u8 A)]:List Int)).bind fun f=>some f else(loopN (pP n) n (a,(IntKind.wrap .i64 ((2:Int)*(1000000000000:Int))))).bind fun(t,B,M)=>(dG 1 t ([(IntKind.wrap .u8 B)]:List Int)).bind fun g=>some g else bif decide (b<((-1000000000000):Int))then bif decide (((-1000000000000):Int)<(0:Int))then(loopN (pO n) n (a,(IntKind.wrap .i64 ((IntKind.wrap .i64 (((-2):Int)*((-1000000000000):Int))) - (1:Int))))).bind fun(u,C,N)=>(dG 1 u ([(IntKind.wrap .u8 C)]:List Int)).bind fun j=>some j else(loopN (pN n) n (a,(IntKind.wrap .i64 ((2:Int)*((-1000000000000):Int))))).bind fun(v,D,Q)=>(dG 1 v ([(IntKind.wrap .u8 D)]:List Int)).bind fun l=>some l else bif decide (b<(0:Int))then(loopN (pM n) n (a,(IntKind.wrap .i64 ((IntKind.wrap .i64 (((-2):Int)*b)) - (1:Int))))).bind fun(w,E,R)=>(dG 1 w ([(IntKind.wrap .u8 E)]:List Int)).bind fun m=>some m else(loopN (pL n) n (a,(IntKind.wrap .i64 ((2:Int)*b)))).bind fun(y,G,T)=>(dG 1 y ([(IntKind.wrap .u8 G)]:List Int)).bind fun o=>some o
theorem cE{n:Nat}:Hw (bP n):=by
 intro d3 d4 r h; unfold bP at h; refine bF Try.func31 rfl rfl<|cRs<|wAe (Li rI_u8 []) rfl rfl rfl rfl<|oRs<|cW (L:=([]:List Int)) (f:=rI_u8) rfl rfl rfl rfl rfl rfl rfl<|xMv rfl<|wAp (f:=rI_u8) h rfl rfl rfl rfl rfl rfl rfl rfl rfl (fun _=>rfl) rfl (fun d5 h=> ?_)
 refine goc 8 rfl<|cIf h rfl (fun q2 h=> ?_) (fun q2 h=> ?_)
 refine gcc 9 rfl<|cIf h rfl (fun q3 h=> ?_) (fun q3 h=> ?_)
 refine gcc 15 rfl<|cIf h rfl (fun q4 h=> ?_) (fun q4 h=> ?_)
 refine gcc 7 rfl<|cLp h [(5,6),(21,31)] [] (fun(a0,m)=>([(5,Li rI_u8 a0),(6,I64 m)],[])) (fun(a1,G,H)=>(.e 0,[(5,Li rI_u8 a1),(6,I64 G),(22,Bo H)],[])) rfl (fun st _ h=> ?_) (fun q h=> ?_)
 obtain⟨a0,m⟩:=st; unfold cH at h; refine gcc 6 rfl<|cIf h rfl (fun a2 h=> ?_) (fun a2 h=> ?_)
 refine gco 6 rfl<|wBi (.int .i64 (bits .and .i64 m (127:Int))) rfl rfl rfl rfl rfl<|wBi (.int .i64 (bits .or .i64 (bits .and .i64 m (127:Int)) (128:Int))) rfl rfl rfl rfl rfl<|wCv rfl rfl rfl rfl rfl<|cW (L:=([(IntKind.wrap .u8 (bits .or .i64 (bits .and .i64 m (127:Int)) (128:Int)))]:List Int)) (f:=rI_u8) rfl rfl rfl rfl rfl rfl rfl<|wAp (f:=rI_u8) h rfl rfl rfl rfl rfl rfl rfl rfl rfl (fun _=>rfl) rfl (fun b4 h=> ?_)
 exact goo 4 rfl<|wBi (.int .i64 (Int.fdiv m (2 ^ 7))) rfl rfl rfl rfl rfl<|geo
 exact gec; obtain⟨a1,G,H⟩:=q; refine gco 5 rfl<|cW (L:=([(IntKind.wrap .u8 G)]:List Int)) (f:=rI_u8) rfl rfl rfl rfl rfl rfl rfl<|wAp (f:=rI_u8) h rfl rfl rfl rfl rfl rfl rfl rfl rfl (fun _=>rfl) rfl (fun c2 h=> ?_)
 exact geo; refine gcc 2 rfl<|cLp h [(5,6),(21,31)] [] (fun(I,a)=>([(5,Li rI_u8 I),(6,I64 a)],[])) (fun(J,o,y)=>(.e 0,[(5,Li rI_u8 J),(6,I64 o),(22,Bo y)],[])) rfl (fun st _ h=> ?_) (fun q h=> ?_)
 obtain⟨I,a⟩:=st; unfold pR at h; refine gcc 6 rfl<|cIf h rfl (fun a3 h=> ?_) (fun a3 h=> ?_)
 refine gco 6 rfl<|wBi (.int .i64 (bits .and .i64 a (127:Int))) rfl rfl rfl rfl rfl<|wBi (.int .i64 (bits .or .i64 (bits .and .i64 a (127:Int)) (128:Int))) rfl rfl rfl rfl rfl<|wCv rfl rfl rfl rfl rfl<|cW (L:=([(IntKind.wrap .u8 (bits .or .i64 (bits .and .i64 a (127:Int)) (128:Int)))]:List Int)) (f:=rI_u8) rfl rfl rfl rfl rfl rfl rfl<|wAp (f:=rI_u8) h rfl rfl rfl rfl rfl rfl rfl rfl rfl (fun _=>rfl) rfl (fun b5 h=> ?_)
 exact goo 4 rfl<|wBi (.int .i64 (Int.fdiv a (2 ^ 7))) rfl rfl rfl rfl rfl<|geo
 exact gec; obtain⟨J,o,y⟩:=q; refine gco 5 rfl<|cW (L:=([(IntKind.wrap .u8 o)]:List Int)) (f:=rI_u8) rfl rfl rfl rfl rfl rfl rfl<|wAp (f:=rI_u8) h rfl rfl rfl rfl rfl rfl rfl rfl rfl (fun _=>rfl) rfl (fun c3 h=> ?_)
 exact geo; refine gcc 13 rfl<|cIf h rfl (fun a4 h=> ?_) (fun a4 h=> ?_)
 refine gcc 7 rfl<|cLp h [(5,6),(21,31)] [] (fun(K,b)=>([(5,Li rI_u8 K),(6,I64 b)],[])) (fun(M,p,z)=>(.e 0,[(5,Li rI_u8 M),(6,I64 p),(22,Bo z)],[])) rfl (fun st _ h=> ?_) (fun q h=> ?_)
 obtain⟨K,b⟩:=st; unfold pQ at h; refine gcc 6 rfl<|cIf h rfl (fun a5 h=> ?_) (fun a5 h=> ?_)
 refine gco 6 rfl<|wBi (.int .i64 (bits .and .i64 b (127:Int))) rfl rfl rfl rfl rfl<|wBi (.int .i64 (bits .or .i64 (bits .and .i64 b (127:Int)) (128:Int))) rfl rfl rfl rfl rfl<|wCv rfl rfl rfl rfl rfl<|cW (L:=([(IntKind.wrap .u8 (bits .or .i64 (bits .and .i64 b (127:Int)) (128:Int)))]:List Int)) (f:=rI_u8) rfl rfl rfl rfl rfl rfl rfl<|wAp (f:=rI_u8) h rfl rfl rfl rfl rfl rfl rfl rfl rfl (fun _=>rfl) rfl (fun b6 h=> ?_)
 exact goo 4 rfl<|wBi (.int .i64 (Int.fdiv b (2 ^ 7))) rfl rfl rfl rfl rfl<|geo
 exact gec; obtain⟨M,p,z⟩:=q; refine gco 5 rfl<|cW (L:=([(IntKind.wrap .u8 p)]:List Int)) (f:=rI_u8) rfl rfl rfl rfl rfl rfl rfl<|wAp (f:=rI_u8) h rfl rfl rfl rfl rfl rfl rfl rfl rfl (fun _=>rfl) rfl (fun c4 h=> ?_)
 exact geo; refine gcc 2 rfl<|cLp h [(5,6),(21,31)] [] (fun(N,c)=>([(5,Li rI_u8 N),(6,I64 c)],[])) (fun(Q,s,A)=>(.e 0,[(5,Li rI_u8 Q),(6,I64 s),(22,Bo A)],[])) rfl (fun st _ h=> ?_) (fun q h=> ?_)
 obtain⟨N,c⟩:=st; unfold pP at h; refine gcc 6 rfl<|cIf h rfl (fun a6 h=> ?_) (fun a6 h=> ?_)
 refine gco 6 rfl<|wBi (.int .i64 (bits .and .i64 c (127:Int))) rfl rfl rfl rfl rfl<|wBi (.int .i64 (bits .or .i64 (bits .and .i64 c (127:Int)) (128:Int))) rfl rfl rfl rfl rfl<|wCv rfl rfl rfl rfl rfl<|cW (L:=([(IntKind.wrap .u8 (bits .or .i64 (bits .and .i64 c (127:Int)) (128:Int)))]:List Int)) (f:=rI_u8) rfl rfl rfl rfl rfl rfl rfl<|wAp (f:=rI_u8) h rfl rfl rfl rfl rfl rfl rfl rfl rfl (fun _=>rfl) rfl (fun b7 h=> ?_)
 exact goo 4 rfl<|wBi (.int .i64 (Int.fdiv c (2 ^ 7))) rfl rfl rfl rfl rfl<|geo
 exact gec; obtain⟨Q,s,A⟩:=q; refine gco 5 rfl<|cW (L:=([(IntKind.wrap .u8 s)]:List Int)) (f:=rI_u8) rfl rfl rfl rfl rfl rfl rfl<|wAp (f:=rI_u8) h rfl rfl rfl rfl rfl rfl rfl rfl rfl (fun _=>rfl) rfl (fun c5 h=> ?_)
 exact geo; refine gcc 7 rfl<|cIf h rfl (fun a7 h=> ?_) (fun a7 h=> ?_)
 refine gcc 15 rfl<|cIf h rfl (fun a8 h=> ?_) (fun a8 h=> ?_)
 refine gcc 7 rfl<|cLp h [(5,6),(21,31)] [] (fun(R,d)=>([(5,Li rI_u8 R),(6,I64 d)],[])) (fun(T,t,B)=>(.e 0,[(5,Li rI_u8 T),(6,I64 t),(22,Bo B)],[])) rfl (fun st _ h=> ?_) (fun q h=> ?_)
 obtain⟨R,d⟩:=st; unfold pO at h; refine gcc 6 rfl<|cIf h rfl (fun a9 h=> ?_) (fun a9 h=> ?_)
 refine gco 6 rfl<|wBi (.int .i64 (bits .and .i64 d (127:Int))) rfl rfl rfl rfl rfl<|wBi (.int .i64 (bits .or .i64 (bits .and .i64 d (127:Int)) (128:Int))) rfl rfl rfl rfl rfl<|wCv rfl rfl rfl rfl rfl<|cW (L:=([(IntKind.wrap .u8 (bits .or .i64 (bits .and .i64 d (127:Int)) (128:Int)))]:List Int)) (f:=rI_u8) rfl rfl rfl rfl rfl rfl rfl<|wAp (f:=rI_u8) h rfl rfl rfl rfl rfl rfl rfl rfl rfl (fun _=>rfl) rfl (fun b8 h=> ?_)
 exact goo 4 rfl<|wBi (.int .i64 (Int.fdiv d (2 ^ 7))) rfl rfl rfl rfl rfl<|geo
 exact gec; obtain⟨T,t,B⟩:=q; refine gco 5 rfl<|cW (L:=([(IntKind.wrap .u8 t)]:List Int)) (f:=rI_u8) rfl rfl rfl rfl rfl rfl rfl<|wAp (f:=rI_u8) h rfl rfl rfl rfl rfl rfl rfl rfl rfl (fun _=>rfl) rfl (fun c6 h=> ?_)
 exact geo; refine gcc 2 rfl<|cLp h [(5,6),(21,31)] [] (fun(U,g)=>([(5,Li rI_u8 U),(6,I64 g)],[])) (fun(V,u,C)=>(.e 0,[(5,Li rI_u8 V),(6,I64 u),(22,Bo C)],[])) rfl (fun st _ h=> ?_) (fun q h=> ?_)
 obtain⟨U,g⟩:=st; unfold pN at h; refine gcc 6 rfl<|cIf h rfl (fun b0 h=> ?_) (fun b0 h=> ?_)
 refine gco 6 rfl<|wBi (.int .i64 (bits .and .i64 g (127:Int))) rfl rfl rfl rfl rfl<|wBi (.int .i64 (bits .or .i64 (bits .and .i64 g (127:Int)) (128:Int))) rfl rfl rfl rfl rfl<|wCv rfl rfl rfl rfl rfl<|cW (L:=([(IntKind.wrap .u8 (bits .or .i64 (bits .and .i64 g (127:Int)) (128:Int)))]:List Int)) (f:=rI_u8) rfl rfl rfl rfl rfl rfl rfl<|wAp (f:=rI_u8) h rfl rfl rfl rfl rfl rfl rfl rfl rfl (fun _=>rfl) rfl (fun b9 h=> ?_)
 exact goo 4 rfl<|wBi (.int .i64 (Int.fdiv g (2 ^ 7))) rfl rfl rfl rfl rfl<|geo
 exact gec; obtain⟨V,u,C⟩:=q; refine gco 5 rfl<|cW (L:=([(IntKind.wrap .u8 u)]:List Int)) (f:=rI_u8) rfl rfl rfl rfl rfl rfl rfl<|wAp (f:=rI_u8) h rfl rfl rfl rfl rfl rfl rfl rfl rfl (fun _=>rfl) rfl (fun c7 h=> ?_)
 exact geo; refine gcc 13 rfl<|cIf h rfl (fun b1 h=> ?_) (fun b1 h=> ?_)
 refine gcc 7 rfl<|cLp h [(5,6),(21,31)] [] (fun(W,j)=>([(5,Li rI_u8 W),(6,I64 j)],[])) (fun(X,v,D)=>(.e 0,[(5,Li rI_u8 X),(6,I64 v),(22,Bo D)],[])) rfl (fun st _ h=> ?_) (fun q h=> ?_)
 obtain⟨W,j⟩:=st; unfold pM at h; refine gcc 6 rfl<|cIf h rfl (fun b2 h=> ?_) (fun b2 h=> ?_)
 refine gco 6 rfl<|wBi (.int .i64 (bits .and .i64 j (127:Int))) rfl rfl rfl rfl rfl<|wBi (.int .i64 (bits .or .i64 (bits .and .i64 j (127:Int)) (128:Int))) rfl rfl rfl rfl rfl<|wCv rfl rfl rfl rfl rfl<|cW (L:=([(IntKind.wrap .u8 (bits .or .i64 (bits .and .i64 j (127:Int)) (128:Int)))]:List Int)) (f:=rI_u8) rfl rfl rfl rfl rfl rfl rfl<|wAp (f:=rI_u8) h rfl rfl rfl rfl rfl rfl rfl rfl rfl (fun _=>rfl) rfl (fun c0 h=> ?_)
 exact goo 4 rfl<|wBi (.int .i64 (Int.fdiv j (2 ^ 7))) rfl rfl rfl rfl rfl<|geo
 exact gec; obtain⟨X,v,D⟩:=q; refine gco 5 rfl<|cW (L:=([(IntKind.wrap .u8 v)]:List Int)) (f:=rI_u8) rfl rfl rfl rfl rfl rfl rfl<|wAp (f:=rI_u8) h rfl rfl rfl rfl rfl rfl rfl rfl rfl (fun _=>rfl) rfl (fun c8 h=> ?_)
 exact geo; refine gcc 2 rfl<|cLp h [(5,6),(21,31)] [] (fun(Y,l)=>([(5,Li rI_u8 Y),(6,I64 l)],[])) (fun(Z,w,E)=>(.e 0,[(5,Li rI_u8 Z),(6,I64 w),(22,Bo E)],[])) rfl (fun st _ h=> ?_) (fun q h=> ?_)
 obtain⟨Y,l⟩:=st; unfold pL at h; refine gcc 6 rfl<|cIf h rfl (fun b3 h=> ?_) (fun b3 h=> ?_)
 refine gco 6 rfl<|wBi (.int .i64 (bits .and .i64 l (127:Int))) rfl rfl rfl rfl rfl<|wBi (.int .i64 (bits .or .i64 (bits .and .i64 l (127:Int)) (128:Int))) rfl rfl rfl rfl rfl<|wCv rfl rfl rfl rfl rfl<|cW (L:=([(IntKind.wrap .u8 (bits .or .i64 (bits .and .i64 l (127:Int)) (128:Int)))]:List Int)) (f:=rI_u8) rfl rfl rfl rfl rfl rfl rfl<|wAp (f:=rI_u8) h rfl rfl rfl rfl rfl rfl rfl rfl rfl (fun _=>rfl) rfl (fun c1 h=> ?_)
 exact goo 4 rfl<|wBi (.int .i64 (Int.fdiv l (2 ^ 7))) rfl rfl rfl rfl rfl<|geo
 exact gec; obtain⟨Z,w,E⟩:=q; refine gco 5 rfl<|cW (L:=([(IntKind.wrap .u8 w)]:List Int)) (f:=rI_u8) rfl rfl rfl rfl rfl rfl rfl<|wAp (f:=rI_u8) h rfl rfl rfl rfl rfl rfl rfl rfl rfl (fun _=>rfl) rfl (fun c9 h=> ?_)
 exact geo
abbrev Fl(p:(List Int)→(List UInt8)→Option ((List Int))):Prop:= ∀ {a:List Int} {b:List UInt8} {r:(List Int)},p a b=some r→Big Try.prog τ An (.fn 32 [.one (.c (.sl (a.map rI_u8))), .one (.c (.str b))] [] (.one (.c (.sl (r.map rI_u8)))) none [] none)
def iG(n:Nat)(f:List Int)(a:List UInt8):Option ((List Int)):=
  (bP n f (a.length:Int)).bind fun d=>(dG 1 d (a.map fun c=>((c.toNat:Nat):Int))).bind fun b=>some b
theorem pT{n:Nat}:Fl (iG n):=by
 intro c d r h; unfold iG at h; refine bF Try.func32 rfl rfl<|cRs<|wAe (Li rI_u8 []) rfl rfl rfl rfl<|goo 5 rfl<|xLs rfl<|xC0 h (cE ·) rfl (fun b h=> ?_)
 refine xMv rfl<|wAps (f:=rI_u8) h rfl rfl rfl rfl rfl (fun _=>rfl) rfl (fun _=>rfl) rfl (fun a h=> ?_)
 exact geo
abbrev gZ:Type:=(List Int)→Int→Int→(List UInt8)→(List aA)→Option ((List Int))
abbrev mR(p:gZ):Prop:= ∀ {a:List Int} {b d:Int} {f:List UInt8} {g:List aA} {r:(List Int)},p a b d f g=some r→Big Try.prog τ An (.fn 33 [.one (.c (.sl (a.map rI_u8))), .one (.ag [.int .i64 b, .int .i64 d, .str f, .sl (g.map aH)])] [] (.one (.c (.sl (r.map rI_u8)))) none [] none)
def gK(n:Nat)(a:gZ)(f:List aA):((List Int)×Int)→Option (((List Int)×Int)⊕(((List Int)×Int×Bool)))
  | (g,c)=>bif decide (c<(f.length:Int))then(ix f c).bind fun b=>(a g b.f0 b.f1 b.f2 b.f3).bind fun d=>some (.inl (d,(IntKind.wrap .i64 (c+(1:Int)))))else some (.inr (g,c,false))
def jN(n:Nat)(a:gZ)(j:List Int)(l:Int)(m:Int)(o:List UInt8)(b:List aA):Option ((List Int)):=
  (bP n j l).bind fun g=>(bP n g m).bind fun c=>(iG n c o).bind fun d=>(bP n d (b.length:Int)).bind fun f=>(loopN (gK n a b) n (f,(0:Int))).bind fun(p,t,s)=>some p
theorem yP{n:Nat}{a:gZ}(b:mR a):mR (jN n a):=by
 intro v w y z A r h; unfold jN at h; refine bF Try.func33 rfl rfl<|gco 3 rfl<|wAe (Li rI_u8 []) rfl rfl rfl rfl<|goo 6 rfl<|xC0 h (cE ·) rfl (fun u h=> ?_)
 refine goo 2 rfl<|xC0 h (cE ·) rfl (fun p h=> ?_)
 refine goo 2 rfl<|xC0 h (pT ·) rfl (fun s h=> ?_)
 refine goo 2 rfl<|xLn rfl<|xC0 h (cE ·) rfl (fun t h=> ?_)
 refine goc 7 rfl<|cLp h [(0,0),(5,5),(20,33)] [] (fun(d,g)=>([(0,Li rI_u8 d),(5,I64 g)],[])) (fun(f,j,c)=>(.e 0,[(0,Li rI_u8 f),(5,I64 j),(24,Bo c)],[])) rfl (fun st _ h=> ?_) (fun q h=> ?_)
 obtain⟨d,g⟩:=st; unfold gK at h; refine gco 6 rfl<|xLn rfl<|goc 2 rfl<|cIf h rfl (fun o h=> ?_) (fun o h=> ?_)
 refine gco 8 rfl<|xIx h aX rfl (fun m h=> ?_)
 refine xLd rfl<|xC0 h (b ·) rfl (fun l h=> ?_)
 exact geo; exact gec; obtain⟨f,j,c⟩:=q; exact gec
def uJ:Nat→(gZ)
  | 0=>(fun _ _ _ _ _=>none)
  | n+1=>jN n (uJ n)
def fO(n:Nat):gZ:=uJ n
theorem yR(n:Nat):mR (fO n):=by
  induction n with
  | zero=>exact(fun h=>nomatch h)
  | succ n ih=>exact yP (n:=n) ih
theorem AZ{n:Nat}:mR (fO n):=(yR n)
theorem wM(n:Nat):fO (n+1)=jN n (fO n):=rfl
abbrev Fm(p:(List aF)→(List aA)→Option ((List Int))):Prop:= ∀ {a:List aF} {b:List aA} {r:(List Int)},p a b=some r→Big Try.prog τ An (.fn 12 [.one (.ag [.sl (a.map aL), .sl (b.map aH)])] [] (.one (.c (.sl (r.map rI_u8)))) none [] none)
def iU(n:Nat)(c:aF):((List Int)×Int)→Option (((List Int)×Int)⊕(((List Int)×Int×Bool)))
  | (d,b)=>bif decide (b<(c.f3.length:Int))then(ix c.f3 b).bind fun a=>(bP n d a.f0).bind fun f=>(bP n f a.f1).bind fun g=>(iG n g a.f2).bind fun j=>(bP n j a.f3).bind fun l=>some (.inl (l,(IntKind.wrap .i64 (b+(1:Int)))))else some (.inr (d,b,false))
def iV(n:Nat)(j:List aF):((List Int)×Int)→Option (((List Int)×Int)⊕(((List Int)×Int×Bool)))
  | (l,b)=>bif decide (b<(j.length:Int))then(ix j b).bind fun a=>(iG n l a.f0).bind fun c=>(bP n c a.f1).bind fun d=>(bP n d a.f2).bind fun f=>(bP n f (a.f3.length:Int)).bind fun g=>(loopN (iU n a) n (g,(0:Int))).bind fun(m,p,o)=>some (.inl (m,(IntKind.wrap .i64 (b+(1:Int)))))else some (.inr (l,b,false))
def gF(n:Nat)(f:List aA):((List Int)×Int)→Option (((List Int)×Int)⊕(((List Int)×Int×Bool)))
  | (c,b)=>bif decide (b<(f.length:Int))then(ix f b).bind fun a=>(fO n c a.f0 a.f1 a.f2 a.f3).bind fun d=>some (.inl (d,(IntKind.wrap .i64 (b+(1:Int)))))else some (.inr (c,b,false))
def iH(n:Nat)(a:List aF)(b:List aA):Option ((List Int)):=
  ((nL n a b).bind fun d=>bif !d then some true else(mB n a b).bind fun f=>some (!f)).bind fun j=>bif j then some ([]:List Int)else(bP n ([]:List Int) (a.length:Int)).bind fun g=>(loopN (iV n a) n (g,(0:Int))).bind fun(m,s,o)=>(bP n m (b.length:Int)).bind fun c=>(loopN (gF n b) n (c,(0:Int))).bind fun(l,t,p)=>some l
theorem uR{n:Nat}:Fm (iH n):=by
 intro Z a0 r h; unfold iH at h; refine bF Try.func12 rfl rfl<|gco 3 rfl<|wAe (Li rI_u8 []) rfl rfl rfl rfl<|goo 4 rfl<|oJn h [(9,16)] [] (fun d=>(.n,[(16,Bo d)],[])) (fun _ h=> ?_) (fun d h=> ?_)
 refine xLd rfl<|xC0 h (Eh ·) rfl (fun U h=> ?_)
 refine goo 2 rfl<|oIf 12 h rfl (fun X h=> ?_) (fun X h=> ?_)
 exact geo; refine xLd rfl<|xC0 h (Cj ·) rfl (fun V h=> ?_)
 exact geo; refine cIf h rfl (fun Y h=> ?_) (fun Y h=> ?_)
 exact cRs<|cW (L:=([]:List Int)) (f:=rI_u8) rfl rfl rfl rfl rfl rfl rfl<|geo
 refine gco 3 rfl<|cW (L:=([]:List Int)) (f:=rI_u8) rfl rfl rfl rfl rfl rfl rfl<|goo 2 rfl<|xLn rfl<|xC0 h (cE ·) rfl (fun W h=> ?_)
 refine goc 7 rfl<|cLp h [(3,7),(23,73)] [(5,5),(7,7)] (fun(v,y)=>([(3,Li rI_u8 v),(4,I64 y)],[])) (fun(w,o,a)=>(.e 0,[(3,Li rI_u8 w),(4,I64 o),(27,Bo a)],[])) rfl (fun st _ h=> ?_) (fun q h=> ?_)
 obtain⟨v,y⟩:=st; unfold iV at h; refine gco 6 rfl<|xLn rfl<|goc 2 rfl<|cIf h rfl (fun Q h=> ?_) (fun Q h=> ?_)
 refine gco 8 rfl<|xIx h fV rfl (fun K h=> ?_)
 refine xLd rfl<|xAz [.str [], .int .i64 0, .int .i64 0, .sl ([].map aK)] rfl<|goo 7 rfl<|xC0 h (pT ·) rfl (fun z h=> ?_)
 refine goo 2 rfl<|xC0 h (cE ·) rfl (fun A h=> ?_)
 refine goo 2 rfl<|xC0 h (cE ·) rfl (fun B h=> ?_)
 refine goo 2 rfl<|xLn rfl<|xC0 h (cE ·) rfl (fun C h=> ?_)
 refine goc 6 rfl<|cLp h [(3,3),(6,7),(49,73)] [(7,7)] (fun(g,p)=>([(3,Li rI_u8 g),(6,I64 p)],[])) (fun(j,s,b)=>(.e 2,[(3,Li rI_u8 j),(6,I64 s),(53,Bo b)],[])) rfl (fun st _ h=> ?_) (fun q h=> ?_)
 obtain⟨g,p⟩:=st; unfold iU at h; refine gco 6 rfl<|xLn rfl<|goc 2 rfl<|cIf h rfl (fun R h=> ?_) (fun R h=> ?_)
 refine gco 8 rfl<|xIx h iF rfl (fun M h=> ?_)
 refine xLd rfl<|xAc rfl<|goo 6 rfl<|xC0 h (cE ·) rfl (fun D h=> ?_)
 refine goo 2 rfl<|xC0 h (cE ·) rfl (fun E h=> ?_)
 refine goo 2 rfl<|xC0 h (pT ·) rfl (fun G h=> ?_)
 refine goo 2 rfl<|xC0 h (cE ·) rfl (fun H h=> ?_)
 exact geo; exact gec; obtain⟨j,s,b⟩:=q; exact gec; exact gec; obtain⟨w,o,a⟩:=q; refine gco 5 rfl<|xLn rfl<|xC0 h (cE ·) rfl (fun I h=> ?_)
 refine goc 7 rfl<|cLp h [(3,3),(8,8),(79,92)] [] (fun(l,t)=>([(3,Li rI_u8 l),(8,I64 t)],[])) (fun(m,u,c)=>(.e 4,[(3,Li rI_u8 m),(8,I64 u),(83,Bo c)],[])) rfl (fun st _ h=> ?_) (fun q h=> ?_)
 obtain⟨l,t⟩:=st; unfold gF at h; refine gco 6 rfl<|xLn rfl<|goc 2 rfl<|cIf h rfl (fun T h=> ?_) (fun T h=> ?_)
 refine gco 8 rfl<|xIx h aX rfl (fun N h=> ?_)
 refine xLd rfl<|xC0 h (AZ ·) rfl (fun J h=> ?_)
 exact geo; exact gec; obtain⟨m,u,c⟩:=q; exact gec
abbrev Hm(p:Int→Int→(List UInt8)→Int→(List aG)→(List aA)→Int→Option ((List aG)×(List aA)×Int)):Prop:= ∀ {d f:Int} {g:List UInt8} {j:Int} {a:List aG} {b:List aA} {c:Int} {r:(List aG)×(List aA)×Int},p d f g j a b c=some r→Big Try.prog τ An (.fn 52 [.one (.ptr 1000000 0), .one (.ag [.int .i64 d, .int .i64 f, .str g, .int .i64 j])] [[.sl (a.map aK), .sl (b.map aH), .int .i64 c]] (.tup []) none [[.sl (r.1.map aK), .sl (r.2.1.map aH), .int .i64 r.2.2]] none)
def bT(n:Nat)(f:Int)(g:Int)(j:List UInt8)(l:Int)(b:List aG)(c:List aA)(d:Int):Option ((List aG)×(List aA)×Int):=
  (dG 40 b ([aG.mk f g j l]:List aG)).bind fun a=>some (a,c,d)
theorem cD{n:Nat}:Hm (bT n):=by
 intro a b c d j l m r h; unfold bT at h; refine bF Try.func52 rfl rfl<|gco 11 rfl<|cW (L:=([aG.mk a b c d]:List aG)) (f:=aK) rfl rfl rfl rfl rfl rfl rfl<|wAp (f:=aK) h rfl rfl rfl rfl rfl rfl rfl rfl rfl (fun _=>rfl) rfl (fun g h=> ?_)
 exact geo
abbrev Et(p:(List (List UInt8))→(List Int)→(List UInt8)→Option (Int)):Prop:= ∀ {a:List (List UInt8)} {b:List Int} {d:List UInt8} {r:Int},p a b d=some r→Big Try.prog τ An (.fn 68 [.one (.c (.sl (a.map fG))), .one (.c (.sl (b.map aR))), .one (.c (.str d))] [] (.one (.c (.int .i64 r))) none [] none)
def nZ(n:Nat)(d:List (List UInt8))(f:List Int)(g:List UInt8):(Int)→Option ((Int)⊕((Int)⊕(Int×Bool)))
  | a=>bif decide ((0:Int)≤a)then(ix d a).bind fun b=>bif decide (b=g)then(ix f a).bind fun c=>some (.inr (.inl c))else some (.inl (IntKind.wrap .i64 (a - (1:Int))))else some (.inr (.inr (a,false)))
def kQ(n:Nat)(a:List (List UInt8))(b:List Int)(c:List UInt8):Option (Int):=
  (loopN (nZ n a b c) n (IntKind.wrap .i64 ((a.length:Int) - (1:Int)))).bind fun q=>(match q with | .inl d=>some d | .inr (g,f)=>some (0:Int))
theorem BM{n:Nat}:Et (kQ n):=by
 intro m o p r h; unfold kQ at h; refine bF Try.func68 rfl rfl<|gco 8 rfl<|xLn rfl<|goc 3 rfl<|cLp h [(6,7),(11,24)] [] (fun c=>([(7,I64 c)],[])) (fun q=>match q with | .inl b=>(.r,[(6,I64 b)],[]) | .inr (d,a)=>(.e 0,[(7,I64 d),(12,Bo a)],[])) rfl (fun c _ h=> ?_) (fun q h=> ?_)
 unfold nZ at h; refine gcc 6 rfl<|cIf h rfl (fun j h=> ?_) (fun j h=> ?_)
 refine gco 7 rfl<|xIx h pW rfl (fun f h=> ?_)
 refine goc 4 rfl<|cIf h rfl (fun l h=> ?_) (fun l h=> ?_)
 refine gco 4 rfl<|xIx h gU rfl (fun g h=> ?_)
 exact geo; exact gec; exact gec; rcases q with b | ⟨d,a⟩; exact en; exact gec
abbrev jA:Type:=Int→Int→(List UInt8)→(List aB)→(List aC)→(List aG)→(List aA)→Int→(List (List UInt8))→(List Int)→Option (Int×Int×(List UInt8)×(List aA)×(List aG)×(List aA)×Int×(List (List UInt8))×(List Int))
abbrev sB(p:jA):Prop:= ∀ {g j:Int} {l:List UInt8} {m:List aB} {o:List aC} {a:List aG} {b:List aA} {c:Int} {d:List (List UInt8)} {f:List Int} {r:Int×Int×(List UInt8)×(List aA)×(List aG)×(List aA)×Int×(List (List UInt8))×(List Int)},p g j l m o a b c d f=some r→Big Try.prog τ An (.fn 84 [.one (.ptr 1000000 0), .one (.ag [.int .i64 g, .int .i64 j, .str l, .sl (m.map aE), .sl (o.map aD)]), .one (.ptr 1000001 0), .one (.ptr 1000002 0)] [[.sl (a.map aK), .sl (b.map aH), .int .i64 c],[.sl (d.map fG)],[.sl (f.map aR)]] (.one (.ag [.int .i64 r.1, .int .i64 r.2.1, .str r.2.2.1, .sl (r.2.2.2.1.map aH)])) none [[.sl (r.2.2.2.2.1.map aK), .sl (r.2.2.2.2.2.1.map aH), .int .i64 r.2.2.2.2.2.2.1],[.sl (r.2.2.2.2.2.2.2.1.map fG)],[.sl (r.2.2.2.2.2.2.2.2.map aR)]] none)
def fA(n:Nat)(m:jA)(o:List aB):(Int×Int×Int×(List UInt8)×(List aA)×(List aG)×(List aA)×Int×(List (List UInt8))×(List Int))→Option ((Int×Int×Int×(List UInt8)×(List aA)×(List aG)×(List aA)×Int×(List (List UInt8))×(List Int))⊕((Int×Bool×Int×Int×(List UInt8)×(List aA)×(List aG)×(List aA)×Int×(List (List UInt8))×(List Int))))
  | (l,s,t,u,v,c,d,f,g,j)=>bif decide (l<(o.length:Int))then(ix o l).bind fun b=>(m b.f0 b.f1 b.f2 b.f3 b.f4 c d f g j).bind fun a=>(dG 56 v ([aA.mk a.1 a.2.1 a.2.2.1 a.2.2.2.1]:List aA)).bind fun p=>some (.inl ((IntKind.wrap .i64 (l+(1:Int))),s,t,u,p,a.2.2.2.2.1,a.2.2.2.2.2.1,a.2.2.2.2.2.2.1,a.2.2.2.2.2.2.2.1,a.2.2.2.2.2.2.2.2))else some (.inr (l,false,s,t,u,v,c,d,f,g,j))
def rE(n:Nat)(m:jA)(u:List aB):(Int×Int×Int×(List UInt8)×(List aA)×(List aG)×(List aA)×Int×(List (List UInt8))×(List Int))→Option ((Int×Int×Int×(List UInt8)×(List aA)×(List aG)×(List aA)×Int×(List (List UInt8))×(List Int))⊕((Int×Bool×Int×Int×(List UInt8)×(List aA)×(List aG)×(List aA)×Int×(List (List UInt8))×(List Int))))
  | (l,o,p,s,t,c,d,f,g,j)=>bif decide (l<(u.length:Int))then(ix u l).bind fun b=>(m b.f0 b.f1 b.f2 b.f3 b.f4 c d f g j).bind fun a=>(dG 56 t ([aA.mk a.1 a.2.1 a.2.2.1 a.2.2.2.1]:List aA)).bind fun v=>some (.inl ((IntKind.wrap .i64 (l+(1:Int))),o,p,s,v,a.2.2.2.2.1,a.2.2.2.2.2.1,a.2.2.2.2.2.2.1,a.2.2.2.2.2.2.2.1,a.2.2.2.2.2.2.2.2))else some (.inr (l,false,o,p,s,t,c,d,f,g,j))
def rD(n:Nat)(m:jA)(u:List aB):(Int×Int×Int×(List UInt8)×(List aA)×(List aG)×(List aA)×Int×(List (List UInt8))×(List Int))→Option ((Int×Int×Int×(List UInt8)×(List aA)×(List aG)×(List aA)×Int×(List (List UInt8))×(List Int))⊕((Int×Bool×Int×Int×(List UInt8)×(List aA)×(List aG)×(List aA)×Int×(List (List UInt8))×(List Int))))
  | (l,o,p,s,t,c,d,f,g,j)=>bif decide (l<(u.length:Int))then(ix u l).bind fun b=>(m b.f0 b.f1 b.f2 b.f3 b.f4 c d f g j).bind fun a=>(dG 56 t ([aA.mk a.1 a.2.1 a.2.2.1 a.2.2.2.1]:List aA)).bind fun v=>some (.inl ((IntKind.wrap .i64 (l+(1:Int))),o,p,s,v,a.2.2.2.2.1,a.2.2.2.2.2.1,a.2.2.2.2.2.2.1,a.2.2.2.2.2.2.2.1,a.2.2.2.2.2.2.2.2))else some (.inr (l,false,o,p,s,t,c,d,f,g,j))
def oX(n:Nat)(a:jA)(z:Int)(Y:Int)(E:List UInt8)(G:List aB)(a5:List aC)(A:List aG)(B:List aA)(b:Int)(C:List (List UInt8))(D:List Int):Option (Int×Int×(List UInt8)×(List aA)×(List aG)×(List aA)×Int×(List (List UInt8))×(List Int)):=
  bif decide (z=(3:Int))then bif !decide (E=([95]:List UInt8))then(dG 16 C ([E]:List (List UInt8))).bind fun H=>(dG 8 D ([b]:List Int)).bind fun I=>(loopN (fA n a G) n ((0:Int),z,b,([]:List UInt8),([]:List aA),A,B,(IntKind.wrap .i64 (b+(1:Int))),H,I)).bind fun(Z,a2,J,K,L,M,c,d,f,s,v)=>some (J,K,L,M,c,d,f,s,v)else(loopN (rE n a G) n ((0:Int),z,((-1):Int),([]:List UInt8),([]:List aA),A,B,b,C,D)).bind fun(a0,a3,N,Q,R,T,g,j,l,t,w)=>some (N,Q,R,T,g,j,l,t,w)else(loopN (rD n a G) n ((0:Int),z,Y,E,([]:List aA),A,B,b,C,D)).bind fun(a1,a4,U,V,W,X,m,o,p,u,y)=>some (U,V,W,X,m,o,p,u,y)
theorem EP{n:Nat}{c:jA}(b:sB c):sB (oX n c):=by
 intro d3 d4 c7 f2 f3 e6 e7 d2 e8 e9 r h; unfold oX at h; refine bF Try.func84 rfl rfl<|gco 3 rfl<|xAz [.int .i64 0, .int .i64 0, .str [], .sl ([].map aH)] rfl<|goo 9 rfl<|wBd [.int .i64 d3, .int .i64 d4, .str c7, .sl ([].map aH)] rfl rfl rfl rfl rfl rfl<|xAz [.int .i64 0, .int .i64 0, .str [], .sl ([].map aH)] rfl<|goc 9 rfl<|cIf h rfl (fun q1 h=> ?_) (fun q1 h=> ?_)
 refine gcc 16 rfl<|cIf h rfl (fun q2 h=> ?_) (fun q2 h=> ?_)
 refine gco 28 rfl<|cW (L:=([c7]:List (List UInt8))) (f:=fG) rfl rfl rfl rfl rfl rfl rfl<|wAp (f:=fG) h rfl rfl rfl rfl rfl rfl rfl rfl rfl (fun _=>rfl) rfl (fun e4 h=> ?_)
 refine goo 10 rfl<|cW (L:=([d2]:List Int)) (f:=aR) rfl rfl rfl rfl rfl rfl rfl<|wAp (f:=aR) h rfl rfl rfl rfl rfl rfl rfl rfl rfl (fun _=>rfl) rfl (fun e5 h=> ?_)
 refine goc 8 rfl<|cLp h [(10,10),(56,76)] [(9,9),(1000000,1000002)] (fun(a6,c8,c9,d0,d1,d,g,j,E,M)=>([(10,I64 a6)],[(9,[.int .i64 c8, .int .i64 c9, .str d0, .sl (d1.map aH)]),(1000000,[.sl (d.map aK), .sl (g.map aH), .int .i64 j]),(1000001,[.sl (E.map fG)]),(1000002,[.sl (M.map aR)])])) (fun(Y,a3,a7,a8,a9,b0,l,m,o,G,N)=>(.e 0,[(10,I64 Y),(60,Bo a3)],[(9,[.int .i64 a7, .int .i64 a8, .str a9, .sl (b0.map aH)]),(1000000,[.sl (l.map aK), .sl (m.map aH), .int .i64 o]),(1000001,[.sl (G.map fG)]),(1000002,[.sl (N.map aR)])])) rfl (fun st _ h=> ?_) (fun q h=> ?_)
 obtain⟨a6,c8,c9,d0,d1,d,g,j,E,M⟩:=st; unfold fA at h; refine gco 6 rfl<|xLn rfl<|goc 2 rfl<|cIf h rfl (fun d8 h=> ?_) (fun d8 h=> ?_)
 refine gco 10 rfl<|xIx h bE rfl (fun d5 h=> ?_)
 refine goo 3 rfl<|xCk h (b ·) rfl (fun V h=> ?_)
 refine cW (L:=([aA.mk V.1 V.2.1 V.2.2.1 V.2.2.2.1]:List aA)) (f:=aH) rfl rfl rfl rfl (by simp only[List.map,dH]<;>rfl) rfl rfl<|wAp (f:=aH) h rfl rfl rfl rfl rfl rfl rfl rfl rfl (fun a=>by rw[aX]; rfl) rfl (fun e1 h=> ?_)
 exact geo; exact gec; obtain⟨Y,a3,a7,a8,a9,b0,l,m,o,G,N⟩:=q; exact gec; refine gcc 6 rfl<|cLp h [(10,10),(56,76)] [(9,9),(1000000,1000002)] (fun(Z,b1,b2,b3,b4,p,s,t,H,Q)=>([(10,I64 Z)],[(9,[.int .i64 b1, .int .i64 b2, .str b3, .sl (b4.map aH)]),(1000000,[.sl (p.map aK), .sl (s.map aH), .int .i64 t]),(1000001,[.sl (H.map fG)]),(1000002,[.sl (Q.map aR)])])) (fun(a0,a4,b5,b6,b7,b8,u,v,w,I,R)=>(.e 0,[(10,I64 a0),(60,Bo a4)],[(9,[.int .i64 b5, .int .i64 b6, .str b7, .sl (b8.map aH)]),(1000000,[.sl (u.map aK), .sl (v.map aH), .int .i64 w]),(1000001,[.sl (I.map fG)]),(1000002,[.sl (R.map aR)])])) rfl (fun st _ h=> ?_) (fun q h=> ?_)
 obtain⟨Z,b1,b2,b3,b4,p,s,t,H,Q⟩:=st; unfold rE at h; refine gco 6 rfl<|xLn rfl<|goc 2 rfl<|cIf h rfl (fun d9 h=> ?_) (fun d9 h=> ?_)
 refine gco 10 rfl<|xIx h bE rfl (fun d6 h=> ?_)
 refine goo 3 rfl<|xCk h (b ·) rfl (fun W h=> ?_)
 refine cW (L:=([aA.mk W.1 W.2.1 W.2.2.1 W.2.2.2.1]:List aA)) (f:=aH) rfl rfl rfl rfl (by simp only[List.map,dH]<;>rfl) rfl rfl<|wAp (f:=aH) h rfl rfl rfl rfl rfl rfl rfl rfl rfl (fun a=>by rw[aX]; rfl) rfl (fun e2 h=> ?_)
 exact geo; exact gec; obtain⟨a0,a4,b5,b6,b7,b8,u,v,w,I,R⟩:=q; exact gec; refine gcc 6 rfl<|cLp h [(10,10),(56,76)] [(9,9),(1000000,1000002)] (fun(a1,b9,c0,c1,c2,y,z,A,J,T)=>([(10,I64 a1)],[(9,[.int .i64 b9, .int .i64 c0, .str c1, .sl (c2.map aH)]),(1000000,[.sl (y.map aK), .sl (z.map aH), .int .i64 A]),(1000001,[.sl (J.map fG)]),(1000002,[.sl (T.map aR)])])) (fun(a2,a5,c3,c4,c5,c6,B,C,D,K,U)=>(.e 0,[(10,I64 a2),(60,Bo a5)],[(9,[.int .i64 c3, .int .i64 c4, .str c5, .sl (c6.map aH)]),(1000000,[.sl (B.map aK), .sl (C.map aH), .int .i64 D]),(1000001,[.sl (K.map fG)]),(1000002,[.sl (U.map aR)])])) rfl (fun st _ h=> ?_) (fun q h=> ?_)
 obtain⟨a1,b9,c0,c1,c2,y,z,A,J,T⟩:=st; unfold rD at h; refine gco 6 rfl<|xLn rfl<|goc 2 rfl<|cIf h rfl (fun e0 h=> ?_) (fun e0 h=> ?_)
 refine gco 10 rfl<|xIx h bE rfl (fun d7 h=> ?_)
 refine goo 3 rfl<|xCk h (b ·) rfl (fun X h=> ?_)
 refine cW (L:=([aA.mk X.1 X.2.1 X.2.2.1 X.2.2.2.1]:List aA)) (f:=aH) rfl rfl rfl rfl (by simp only[List.map,dH]<;>rfl) rfl rfl<|wAp (f:=aH) h rfl rfl rfl rfl rfl rfl rfl rfl rfl (fun a=>by rw[aX]; rfl) rfl (fun e3 h=> ?_)
 exact geo; exact gec; obtain⟨a2,a5,c3,c4,c5,c6,B,C,D,K,U⟩:=q; exact gec
def BZ:Nat→(jA)
  | 0=>(fun _ _ _ _ _ _ _ _ _ _=>none)
  | n+1=>oX n (BZ n)
def gB(n:Nat):jA:=BZ n
theorem EU(n:Nat):sB (gB n):=by
  induction n with
  | zero=>exact(fun h=>nomatch h)
  | succ n ih=>exact EP (n:=n) ih
theorem FV{n:Nat}:sB (gB n):=(EU n)
theorem BI(n:Nat):gB (n+1)=oX n (gB n):=rfl
abbrev jE:Type:=Int→Int→(List UInt8)→(List aB)→(List aC)→(List (List UInt8))→(List Int)→(List aG)→(List aA)→Int→Option ((List aG)×(List aA)×Int)
abbrev nQ(p:jE):Prop:= ∀ {f g:Int} {j:List UInt8} {l:List aB} {m:List aC} {o:List (List UInt8)} {s:List Int} {a:List aG} {b:List aA} {d:Int} {r:(List aG)×(List aA)×Int},p f g j l m o s a b d=some r→Big Try.prog τ An (.fn 69 [.one (.ptr 1000000 0), .one (.ag [.int .i64 f, .int .i64 g, .str j, .sl (l.map aE), .sl (m.map aD)]), .one (.c (.sl (o.map fG))), .one (.c (.sl (s.map aR)))] [[.sl (a.map aK), .sl (b.map aH), .int .i64 d]] (.tup []) none [[.sl (r.1.map aK), .sl (r.2.1.map aH), .int .i64 r.2.2]] none)
abbrev gA:Type:=Int→Int→(List UInt8)→(List aB)→(List aC)→(List (List UInt8))→(List Int)→(List aG)→(List aA)→Int→Option ((List aG)×(List aA)×Int)
abbrev nP(p:gA):Prop:= ∀ {f g:Int} {j:List UInt8} {l:List aB} {m:List aC} {o:List (List UInt8)} {s:List Int} {a:List aG} {b:List aA} {d:Int} {r:(List aG)×(List aA)×Int},p f g j l m o s a b d=some r→Big Try.prog τ An (.fn 51 [.one (.ptr 1000000 0), .one (.ag [.int .i64 f, .int .i64 g, .str j, .sl (l.map aE), .sl (m.map aD)]), .one (.c (.sl (o.map fG))), .one (.c (.sl (s.map aR)))] [[.sl (a.map aK), .sl (b.map aH), .int .i64 d]] (.tup []) none [[.sl (r.1.map aK), .sl (r.2.1.map aH), .int .i64 r.2.2]] none)
def jT(n:Nat)(o:gA)(C:List (List UInt8))(D:List Int)(v:List aC):((List Int)×Int×(List aG)×(List aA)×Int)→Option (((List Int)×Int×(List aG)×(List aA)×Int)⊕(((List Int)×Int×Bool×(List aG)×(List aA)×Int)))
  | (B,s,j,l,m)=>bif decide (s<(v.length:Int))then(dG 16 ([]:List (List UInt8)) C).bind fun y=>(dG 8 ([]:List Int) D).bind fun z=>(ix v s).bind fun d=>(gB n d.f0 d.f1 d.f2 d.f3 d.f4 j l m y z).bind fun a=>(bT n (9:Int) (a.2.2.2.2.2.1.length:Int) ([]:List UInt8) (0:Int) a.2.2.2.2.1 a.2.2.2.2.2.1 a.2.2.2.2.2.2.1).bind fun b=>(dG 56 b.2.1 ([aA.mk (0:Int) (0:Int) ([]:List UInt8) ([]:List aA)]:List aA)).bind fun u=>(ix u (b.2.1.length:Int)).bind fun E=>(some (u.set (Int.toNat (b.2.1.length:Int)) (aA.mk a.1 a.2.1 a.2.2.1 a.2.2.2.1))).bind fun w=>(ix v s).bind fun f=>(o f.f5 f.f6 f.f7 f.f8 f.f9 a.2.2.2.2.2.2.2.1 a.2.2.2.2.2.2.2.2 b.1 w b.2.2).bind fun g=>(dG 8 B ([(g.1.length:Int)]:List Int)).bind fun A=>(bT n (10:Int) (0:Int) ([]:List UInt8) (0:Int) g.1 g.2.1 g.2.2).bind fun c=>(ix c.1 (a.2.2.2.2.1.length:Int)).bind fun p=>(some (c.1.set (Int.toNat (a.2.2.2.2.1.length:Int)) (aG.mk p.f0 p.f1 p.f2 (c.1.length:Int)))).bind fun t=>some (.inl (A,(IntKind.wrap .i64 (s+(1:Int))),t,c.2.1,c.2.2))else some (.inr (B,s,false,j,l,m))
def jS(n:Nat)(l:List Int):(Int×(List aG)×(List aA)×Int)→Option ((Int×(List aG)×(List aA)×Int)⊕((Int×Bool×(List aG)×(List aA)×Int)))
  | (d,a,b,c)=>bif decide (d<(l.length:Int))then(ix l d).bind fun j=>(ix a j).bind fun f=>(some (a.set (Int.toNat j) (aG.mk f.f0 f.f1 f.f2 (a.length:Int)))).bind fun g=>some (.inl ((IntKind.wrap .i64 (d+(1:Int))),g,b,c))else some (.inr (d,false,a,b,c))
def nC(n:Nat)(a:gA)(m:jE)(B:Int)(C:Int)(D:List UInt8)(E:List aB)(t:List aC)(u:List (List UInt8))(v:List Int)(o:List aG)(p:List aA)(s:Int):Option ((List aG)×(List aA)×Int):=
  (loopN (jT n a u v t) n (([]:List Int),(0:Int),o,p,s)).bind fun(w,G,A,l,c,d)=>(bT n (11:Int) (0:Int) ([]:List UInt8) (0:Int) l c d).bind fun b=>(loopN (jS n w) n ((0:Int),b.1,b.2.1,b.2.2)).bind fun(z,y,f,g,j)=>some (f,g,j)
theorem CM{n:Nat}{d:gA}(A:nP d){c:jE}(H:nQ c):nQ (nC n d c):=by
 intro b0 b1 b2 b3 b4 b5 b6 a7 a8 a9 r h; unfold nC at h; refine bF Try.func69 rfl rfl<|gco 6 rfl<|cW (L:=([]:List Int)) (f:=aR) rfl rfl rfl rfl rfl rfl rfl<|goc 7 rfl<|cLp h [(8,13),(16,93)] [(10,12),(1000000,1000000)] (fun(K,N,u,v,w)=>([(8,Li aR K),(9,I64 N)],[(1000000,[.sl (u.map aK), .sl (v.map aH), .int .i64 w])])) (fun(M,Q,G,y,j,l)=>(.e 0,[(8,Li aR M),(9,I64 Q),(20,Bo G)],[(1000000,[.sl (y.map aK), .sl (j.map aH), .int .i64 l])])) rfl (fun st _ h=> ?_) (fun q h=> ?_)
 obtain⟨K,N,u,v,w⟩:=st; unfold jT at h; refine gco 6 rfl<|xLn rfl<|goc 2 rfl<|cIf h rfl (fun a0 h=> ?_) (fun a0 h=> ?_)
 refine gco 5 rfl<|cW (L:=([]:List (List UInt8))) (f:=fG) rfl rfl rfl rfl rfl rfl rfl<|xMv rfl<|wAp (f:=fG) h rfl rfl rfl rfl rfl rfl rfl rfl rfl (fun _=>rfl) rfl (fun a3 h=> ?_)
 refine xAz [.sl ([].map fG)] rfl<|goo 4 rfl<|cW (L:=([]:List Int)) (f:=aR) rfl rfl rfl rfl rfl rfl rfl<|xMv rfl<|wAp (f:=aR) h rfl rfl rfl rfl rfl rfl rfl rfl rfl (fun _=>rfl) rfl (fun a4 h=> ?_)
 refine xAz [.sl ([].map aR)] rfl<|goo 8 rfl<|xIx h cM rfl (fun X h=> ?_)
 refine goo 2 rfl<|xCk h (FV ·) rfl (fun g h=> ?_)
 refine xAz [.int .i64 0, .int .i64 0, .str [], .sl ([].map aH)] rfl<|goo 8 rfl<|xLn rfl<|goo 9 rfl<|xLn rfl<|wBd [.int .i64 9, .int .i64 (g.2.2.2.2.2.1.length:Int), .str [], .int .i64 0] rfl rfl rfl rfl rfl rfl<|xC1 h (cD ·) rfl (fun V h=> ?_)
 refine goo 8 rfl<|xLn rfl<|cW (L:=([aA.mk (0:Int) (0:Int) ([]:List UInt8) ([]:List aA)]:List aA)) (f:=aH) rfl rfl rfl rfl (by simp only[List.map,dH]<;>rfl) rfl rfl<|wAp (f:=aH) h rfl rfl rfl rfl rfl rfl rfl rfl rfl (fun a=>by rw[aX]; rfl) rfl (fun a5 h=> ?_)
 refine wIs (f:=aH) h rfl rfl rfl rfl (fun a=>by rw[aX]; rfl) rfl (fun Y ke58_19 h=> ?_)
 refine Qi (f:=aH) (v':=aA.mk g.1 g.2.1 g.2.2.1 g.2.2.2.1) h ke58_19 rfl rfl rfl rfl rfl rfl rfl (by rw[aX]; rfl) (by rw[aX,dH]; rfl) (fun a2 h=> ?_)
 refine goo 10 rfl<|xIx h cM rfl (fun Z h=> ?_)
 refine goo 4 rfl<|xC1 h (A ·) rfl (fun I h=> ?_)
 refine goo 8 rfl<|xLn rfl<|cW (L:=([(I.1.length:Int)]:List Int)) (f:=aR) rfl rfl rfl rfl rfl rfl rfl<|wAp (f:=aR) h rfl rfl rfl rfl rfl rfl rfl rfl rfl (fun _=>rfl) rfl (fun a6 h=> ?_)
 refine goo 5 rfl<|wBd [.int .i64 10, .int .i64 0, .str [], .int .i64 0] rfl rfl rfl rfl rfl rfl<|xC1 h (cD ·) rfl (fun J h=> ?_)
 refine goo 5 rfl<|wLa rfl rfl rfl rfl rfl rfl rfl<|goo 5 rfl<|xLn rfl<|wIp (f:=aK) h rfl rfl rfl rfl rfl rfl (fun _=>rfl) rfl (fun B ke92_25 h=> ?_)
 refine xFd rfl<|Qi (f:=aK) (v':=aG.mk B.f0 B.f1 B.f2 (J.1.length:Int)) h ke92_25 rfl rfl rfl rfl rfl rfl rfl rfl rfl (fun R h=> ?_)
 exact geo; exact gec; obtain⟨M,Q,G,y,j,l⟩:=q; refine gco 3 rfl<|wBd [.int .i64 11, .int .i64 0, .str [], .int .i64 0] rfl rfl rfl rfl rfl rfl<|xC1 h (cD ·) rfl (fun W h=> ?_)
 refine goc 5 rfl<|cLp h [(14,14),(97,117)] [(1000000,1000000)] (fun(D,b,m,o)=>([(14,I64 D)],[(1000000,[.sl (b.map aK), .sl (m.map aH), .int .i64 o])])) (fun(E,C,p,s,t)=>(.e 2,[(14,I64 E),(100,Bo C)],[(1000000,[.sl (p.map aK), .sl (s.map aH), .int .i64 t])])) rfl (fun st _ h=> ?_) (fun q h=> ?_)
 obtain⟨D,b,m,o⟩:=st; unfold jS at h; refine gco 5 rfl<|xLn rfl<|goc 2 rfl<|cIf h rfl (fun a1 h=> ?_) (fun a1 h=> ?_)
 refine gco 7 rfl<|wLa rfl rfl rfl rfl rfl rfl rfl<|goo 2 rfl<|xIx h gU rfl (fun U h=> ?_)
 refine goo 5 rfl<|xLn rfl<|wIp (f:=aK) h rfl rfl rfl rfl rfl rfl (fun _=>rfl) rfl (fun z ke116_39 h=> ?_)
 refine xFd rfl<|Qi (f:=aK) (v':=aG.mk z.f0 z.f1 z.f2 (b.length:Int)) h ke116_39 rfl rfl rfl rfl rfl rfl rfl rfl rfl (fun T h=> ?_)
 exact geo; exact gec; obtain⟨E,C,p,s,t⟩:=q; exact en
def jO(n:Nat)(f:gA)(m:List (List UInt8))(o:List Int)(l:List aB):(Int×(List aG)×(List aA)×Int)→Option ((Int×(List aG)×(List aA)×Int)⊕((Int×Bool×(List aG)×(List aA)×Int)))
  | (j,b,c,d)=>bif decide (j<(l.length:Int))then(ix l j).bind fun a=>(f a.f0 a.f1 a.f2 a.f3 a.f4 m o b c d).bind fun g=>some (.inl ((IntKind.wrap .i64 (j+(1:Int))),g.1,g.2.1,g.2.2))else some (.inr (j,false,b,c,d))
def nA(n:Nat)(j:gA)(g:jE)(d:Int)(C:Int)(y:List UInt8)(f:List aB)(H:List aC)(z:List (List UInt8))(A:List Int)(D:List aG)(E:List aA)(G:Int):Option ((List aG)×(List aA)×Int):=
  (loopN (jO n j z A f) n ((0:Int),D,E,G)).bind fun(J,I,a,b,c)=>bif decide (d=(1:Int))then(bT n (1:Int) C ([]:List UInt8) (0:Int) a b c).bind fun l=>some (l.1,l.2.1,l.2.2)else bif decide (d=(2:Int))then(bT n (2:Int) (0:Int) y (0:Int) a b c).bind fun m=>some (m.1,m.2.1,m.2.2)else bif decide (d=(3:Int))then(kQ n z A y).bind fun B=>(bT n (3:Int) B ([]:List UInt8) (0:Int) a b c).bind fun o=>some (o.1,o.2.1,o.2.2)else bif decide (d=(4:Int))then(bT n (4:Int) (f.length:Int) ([]:List UInt8) (0:Int) a b c).bind fun p=>some (p.1,p.2.1,p.2.2)else bif decide (d=(5:Int))then(bT n (5:Int) (f.length:Int) ([]:List UInt8) (0:Int) a b c).bind fun s=>some (s.1,s.2.1,s.2.2)else bif decide (d=(6:Int))then(bT n (6:Int) (f.length:Int) ([]:List UInt8) (0:Int) a b c).bind fun t=>some (t.1,t.2.1,t.2.2)else bif decide (d=(7:Int))then(bT n (7:Int) (0:Int) y (0:Int) a b c).bind fun u=>some (u.1,u.2.1,u.2.2)else bif decide (d=(8:Int))then(bT n (8:Int) (f.length:Int) y (0:Int) a b c).bind fun v=>some (v.1,v.2.1,v.2.2)else bif decide (d=(9:Int))then(g d C y f H z A a b c).bind fun w=>some (w.1,w.2.1,w.2.2)else some (a,b,c)
theorem CK{n:Nat}{b:gA}(o:nP b){a:jE}(m:nQ a):nP (nA n b a):=by
 intro a1 y s p a2 a3 a4 Y Z a0 r h; unfold nA at h; refine bF Try.func51 rfl rfl<|gcc 9 rfl<|cLp h [(8,8),(10,25)] [(1000000,1000000)] (fun(v,c,d,f)=>([(8,I64 v)],[(1000000,[.sl (c.map aK), .sl (d.map aH), .int .i64 f])])) (fun(w,t,g,j,l)=>(.e 0,[(8,I64 w),(14,Bo t)],[(1000000,[.sl (g.map aK), .sl (j.map aH), .int .i64 l])])) rfl (fun st _ h=> ?_) (fun q h=> ?_)
 obtain⟨v,c,d,f⟩:=st; unfold jO at h; refine gco 6 rfl<|xLn rfl<|goc 2 rfl<|cIf h rfl (fun L h=> ?_) (fun L h=> ?_)
 refine gco 8 rfl<|xIx h bE rfl (fun K h=> ?_)
 refine goo 3 rfl<|xC1 h (o ·) rfl (fun z h=> ?_)
 exact geo; exact gec; obtain⟨w,t,g,j,l⟩:=q; refine gco 4 rfl<|xLn rfl<|goc 13 rfl<|cIf h rfl (fun M h=> ?_) (fun M h=> ?_)
 refine gco 4 rfl<|wBd [.int .i64 1, .int .i64 y, .str [], .int .i64 0] rfl rfl rfl rfl rfl rfl<|xC1 h (cD ·) rfl (fun A h=> ?_)
 exact geo; refine gcc 5 rfl<|cIf h rfl (fun N h=> ?_) (fun N h=> ?_)
 refine gco 4 rfl<|wBd [.int .i64 2, .int .i64 0, .str s, .int .i64 0] rfl rfl rfl rfl rfl rfl<|xC1 h (cD ·) rfl (fun B h=> ?_)
 exact geo; refine gcc 5 rfl<|cIf h rfl (fun Q h=> ?_) (fun Q h=> ?_)
 refine gco 6 rfl<|xC0 h (BM ·) rfl (fun u h=> ?_)
 refine wBd [.int .i64 3, .int .i64 u, .str [], .int .i64 0] rfl rfl rfl rfl rfl rfl<|xC1 h (cD ·) rfl (fun C h=> ?_)
 exact geo; refine gcc 5 rfl<|cIf h rfl (fun R h=> ?_) (fun R h=> ?_)
 refine gco 3 rfl<|wBd [.int .i64 4, .int .i64 (p.length:Int), .str [], .int .i64 0] rfl rfl rfl rfl rfl rfl<|xC1 h (cD ·) rfl (fun D h=> ?_)
 exact geo; refine gcc 5 rfl<|cIf h rfl (fun T h=> ?_) (fun T h=> ?_)
 refine gco 3 rfl<|wBd [.int .i64 5, .int .i64 (p.length:Int), .str [], .int .i64 0] rfl rfl rfl rfl rfl rfl<|xC1 h (cD ·) rfl (fun E h=> ?_)
 exact geo; refine gcc 5 rfl<|cIf h rfl (fun U h=> ?_) (fun U h=> ?_)
 refine gco 3 rfl<|wBd [.int .i64 6, .int .i64 (p.length:Int), .str [], .int .i64 0] rfl rfl rfl rfl rfl rfl<|xC1 h (cD ·) rfl (fun G h=> ?_)
 exact geo; refine gcc 5 rfl<|cIf h rfl (fun V h=> ?_) (fun V h=> ?_)
 refine gco 4 rfl<|wBd [.int .i64 7, .int .i64 0, .str s, .int .i64 0] rfl rfl rfl rfl rfl rfl<|xC1 h (cD ·) rfl (fun H h=> ?_)
 exact geo; refine gcc 5 rfl<|cIf h rfl (fun W h=> ?_) (fun W h=> ?_)
 refine gco 5 rfl<|wBd [.int .i64 8, .int .i64 (p.length:Int), .str s, .int .i64 0] rfl rfl rfl rfl rfl rfl<|xC1 h (cD ·) rfl (fun I h=> ?_)
 exact geo; refine gcc 5 rfl<|cIf h rfl (fun X h=> ?_) (fun X h=> ?_)
 refine gco 5 rfl<|xC1 h (m ·) rfl (fun J h=> ?_)
 exact geo; exact gec
def kV:Nat→(gA)×(jE)
  | 0=>((fun _ _ _ _ _ _ _ _ _ _=>none),(fun _ _ _ _ _ _ _ _ _ _=>none))
  | n+1=>(nA n ((kV n).1) ((kV n).2),nC n ((kV n).1) ((kV n).2))
def fW(n:Nat):gA:=(kV n).1
def kW(n:Nat):jE:=(kV n).2
theorem uP(n:Nat):nP (fW n)∧nQ (kW n):=by
  induction n with
  | zero=>exact⟨(fun h=>nomatch h),(fun h=>nomatch h)⟩
  | succ n ih=>exact⟨CK (n:=n) (ih.1) (ih.2),CM (n:=n) (ih.1) (ih.2)⟩
theorem EW{n:Nat}:nP (fW n):=(uP n).1
theorem Qo{n:Nat}:nQ (kW n):=(uP n).2
theorem AR(n:Nat):fW (n+1)=nA n (fW n) (kW n):=rfl
theorem AT(n:Nat):kW (n+1)=nC n (fW n) (kW n):=rfl
abbrev Cr(p:(List bM)→Option ((List aF)×(List aA))):Prop:= ∀ {a:List bM} {r:(List aF)×(List aA)},p a=some r→Big Try.prog τ An (.fn 34 [.one (.ag [.sl (a.map eD)])] [] (.one (.ag [.sl (r.1.map aL), .sl (r.2.map aH)])) none [] none)
def gJ(n:Nat)(d:bM):((List Int)×Int)→Option (((List Int)×Int)⊕(((List Int)×Int×Bool)))
  | (b,a)=>bif decide (a<(d.f1.length:Int))then(dG 8 b ([a]:List Int)).bind fun c=>some (.inl (c,(IntKind.wrap .i64 (a+(1:Int)))))else some (.inr (b,a,false))
def jG(n:Nat)(f:List bM):(Int×(List aF)×(List aA))→Option ((Int×(List aF)×(List aA))⊕((Int×Bool×(List aF)×(List aA))))
  | (d,j,l)=>bif decide (d<(f.length:Int))then(ix f d).bind fun a=>(loopN (gJ n a) n (([]:List Int),(0:Int))).bind fun(m,p,o)=>(fW n a.f2 a.f3 a.f4 a.f5 a.f6 a.f1 m ([]:List aG) l (a.f1.length:Int)).bind fun b=>(bT n (12:Int) (0:Int) ([]:List UInt8) (0:Int) b.1 b.2.1 b.2.2).bind fun c=>(dG 56 j ([aF.mk a.f0 (a.f1.length:Int) c.2.2 c.1]:List aF)).bind fun g=>some (.inl ((IntKind.wrap .i64 (d+(1:Int))),g,c.2.1))else some (.inr (d,false,j,l))
def jR(n:Nat)(a:List bM):Option ((List aF)×(List aA)):=
  (loopN (jG n a) n ((0:Int),([]:List aF),([]:List aA))).bind fun(f,d,b,c)=>some (b,c)
theorem AY{n:Nat}:Cr (jR n):=by
 intro C r h; unfold jR at h; refine bF Try.func34 rfl rfl<|gco 3 rfl<|xAz [.sl ([].map aL), .sl ([].map aH)] rfl<|oRs<|wBd [.sl ([].map aL), .sl ([].map aH)] rfl rfl rfl rfl rfl rfl<|xAz [.sl ([].map aL), .sl ([].map aH)] rfl<|goc 7 rfl<|cLp h [(4,8),(10,74)] [(3,3),(5,5),(28,28)] (fun(p,t,g)=>([(4,I64 p)],[(3,[.sl (t.map aL), .sl (g.map aH)])])) (fun(s,j,u,v)=>(.e 0,[(4,I64 s),(14,Bo j)],[(3,[.sl (u.map aL), .sl (v.map aH)])])) rfl (fun st _ h=> ?_) (fun q h=> ?_)
 obtain⟨p,t,g⟩:=st; unfold jG at h; refine gco 6 rfl<|xLn rfl<|goc 2 rfl<|cIf h rfl (fun B h=> ?_) (fun B h=> ?_)
 refine gco 8 rfl<|xIx h FS rfl (fun b h=> ?_)
 refine xLd rfl<|xAz [.str [], .sl ([].map fG), .int .i64 0, .int .i64 0, .str [], .sl ([].map aE), .sl ([].map aD)] rfl<|goo 8 rfl<|xLn rfl<|wBd [.sl ([].map aK), .sl (g.map aH), .int .i64 (b.f1.length:Int)] rfl rfl rfl rfl rfl rfl<|goo 5 rfl<|cW (L:=([]:List Int)) (f:=aR) rfl rfl rfl rfl rfl rfl rfl<|goc 7 rfl<|cLp h [(7,8),(30,40)] [] (fun(l,c)=>([(7,Li aR l),(8,I64 c)],[])) (fun(m,o,d)=>(.e 2,[(7,Li aR m),(8,I64 o),(34,Bo d)],[])) rfl (fun st _ h=> ?_) (fun q h=> ?_)
 obtain⟨l,c⟩:=st; unfold gJ at h; refine gco 6 rfl<|xLn rfl<|goc 2 rfl<|cIf h rfl (fun y h=> ?_) (fun y h=> ?_)
 refine gco 6 rfl<|cW (L:=([c]:List Int)) (f:=aR) rfl rfl rfl rfl rfl rfl rfl<|wAp (f:=aR) h rfl rfl rfl rfl rfl rfl rfl rfl rfl (fun _=>rfl) rfl (fun z h=> ?_)
 exact geo; exact gec; obtain⟨m,o,d⟩:=q; refine gco 8 rfl<|xC1 h (EW ·) rfl (fun w h=> ?_)
 refine goo 4 rfl<|wBd [.int .i64 12, .int .i64 0, .str [], .int .i64 0] rfl rfl rfl rfl rfl rfl<|xC1 h (cD ·) rfl (fun a h=> ?_)
 refine goo 17 rfl<|xLn rfl<|goo 8 rfl<|wBd [.str b.f0, .int .i64 (b.f1.length:Int), .int .i64 a.2.2, .sl (a.1.map aK)] rfl rfl rfl rfl rfl rfl<|cW (L:=([aF.mk b.f0 (b.f1.length:Int) a.2.2 a.1]:List aF)) (f:=aL) rfl rfl rfl rfl rfl rfl rfl<|wAp (f:=aL) h rfl rfl rfl rfl rfl rfl rfl rfl rfl (fun _=>rfl) rfl (fun A h=> ?_)
 exact geo; exact gec; obtain⟨s,j,u,v⟩:=q; exact gec
abbrev Ht(p:(List Int)→Int→Int→Option (Int×(List Int)×Int×Int)):Prop:= ∀ {a:List Int} {b d:Int} {r:Int×(List Int)×Int×Int},p a b d=some r→Big Try.prog τ An (.fn 36 [.one (.ptr 1000000 0)] [[.sl (a.map rI_u8), .int .i64 b, .int .i64 d]] (.one (.c (.int .i64 r.1))) none [[.sl (r.2.1.map rI_u8), .int .i64 r.2.2.1, .int .i64 r.2.2.2]] none)
def hG(n:Nat)(b:List Int)(c:Int)(a:Int):Option (Int×(List Int)×Int×Int):=
  bif decide (c<(b.length:Int))then(ix b c).bind fun d=>some ((bits .and .i64 (IntKind.wrap .i64 ((bits .and .i64 (bits .xor .i64 (Int.fdiv (IntKind.wrap .i64 ((IntKind.wrap .i64 (a*(6364136223846793005:Int)))+(1442695040888963407:Int))) (2 ^ 33)) (Int.fdiv (IntKind.wrap .i64 ((IntKind.wrap .i64 (a*(6364136223846793005:Int)))+(1442695040888963407:Int))) (2 ^ 47))) (255:Int))+(IntKind.wrap .i64 d))) (255:Int)),b,(IntKind.wrap .i64 (c+(1:Int))),(IntKind.wrap .i64 ((IntKind.wrap .i64 (a*(6364136223846793005:Int)))+(1442695040888963407:Int))))else some ((bits .and .i64 (bits .xor .i64 (Int.fdiv (IntKind.wrap .i64 ((IntKind.wrap .i64 (a*(6364136223846793005:Int)))+(1442695040888963407:Int))) (2 ^ 33)) (Int.fdiv (IntKind.wrap .i64 ((IntKind.wrap .i64 (a*(6364136223846793005:Int)))+(1442695040888963407:Int))) (2 ^ 47))) (255:Int)),b,c,(IntKind.wrap .i64 ((IntKind.wrap .i64 (a*(6364136223846793005:Int)))+(1442695040888963407:Int))))
theorem nV{n:Nat}:Ht (hG n):=by
 intro c d a r h; unfold hG at h; refine bF Try.func36 rfl rfl<|gco 23 rfl<|wBi (.int .i64 (Int.fdiv (IntKind.wrap .i64 ((IntKind.wrap .i64 (a*(6364136223846793005:Int)))+(1442695040888963407:Int))) (2 ^ 33))) rfl rfl rfl rfl rfl<|goo 4 rfl<|wBi (.int .i64 (Int.fdiv (IntKind.wrap .i64 ((IntKind.wrap .i64 (a*(6364136223846793005:Int)))+(1442695040888963407:Int))) (2 ^ 47))) rfl rfl rfl rfl rfl<|wBi (.int .i64 (bits .xor .i64 (Int.fdiv (IntKind.wrap .i64 ((IntKind.wrap .i64 (a*(6364136223846793005:Int)))+(1442695040888963407:Int))) (2 ^ 33)) (Int.fdiv (IntKind.wrap .i64 ((IntKind.wrap .i64 (a*(6364136223846793005:Int)))+(1442695040888963407:Int))) (2 ^ 47)))) rfl rfl rfl rfl rfl<|wBi (.int .i64 (bits .and .i64 (bits .xor .i64 (Int.fdiv (IntKind.wrap .i64 ((IntKind.wrap .i64 (a*(6364136223846793005:Int)))+(1442695040888963407:Int))) (2 ^ 33)) (Int.fdiv (IntKind.wrap .i64 ((IntKind.wrap .i64 (a*(6364136223846793005:Int)))+(1442695040888963407:Int))) (2 ^ 47))) (255:Int))) rfl rfl rfl rfl rfl<|goo 13 rfl<|xLn rfl<|goc 2 rfl<|cIf h rfl (fun f h=> ?_) (fun f h=> ?_)
 refine gco 11 rfl<|xIx h lQ rfl (fun b h=> ?_)
 exact goo 3 rfl<|wBi (.int .i64 (bits .and .i64 (IntKind.wrap .i64 ((bits .and .i64 (bits .xor .i64 (Int.fdiv (IntKind.wrap .i64 ((IntKind.wrap .i64 (a*(6364136223846793005:Int)))+(1442695040888963407:Int))) (2 ^ 33)) (Int.fdiv (IntKind.wrap .i64 ((IntKind.wrap .i64 (a*(6364136223846793005:Int)))+(1442695040888963407:Int))) (2 ^ 47))) (255:Int))+(IntKind.wrap .i64 b))) (255:Int))) rfl rfl rfl rfl rfl<|geo
 exact gec
abbrev Fj(p:Int→(List Int)→Int→Int→Option (Int×(List Int)×Int×Int)):Prop:= ∀ {f:Int} {a:List Int} {b d:Int} {r:Int×(List Int)×Int×Int},p f a b d=some r→Big Try.prog τ An (.fn 14 [.one (.ptr 1000000 0), .one (.c (.int .i64 f))] [[.sl (a.map rI_u8), .int .i64 b, .int .i64 d]] (.one (.c (.int .i64 r.1))) none [[.sl (r.2.1.map rI_u8), .int .i64 r.2.2.1, .int .i64 r.2.2.2]] none)
def aM(n:Nat)(a:Int)(g:List Int)(j:Int)(l:Int):Option (Int×(List Int)×Int×Int):=
  bif decide (a≤(0:Int))then some ((0:Int),g,j,l)else bif decide (a≤(256:Int))then(hG n g j l).bind fun b=>(ck (!decide (a=0))).bind fun _=>some ((Int.tmod b.1 a),b.2.1,b.2.2.1,b.2.2.2)else(hG n g j l).bind fun c=>(hG n c.2.1 c.2.2.1 c.2.2.2).bind fun d=>(hG n d.2.1 d.2.2.1 d.2.2.2).bind fun f=>(ck (!decide (a=0))).bind fun _=>some ((Int.tmod (IntKind.wrap .i64 ((IntKind.wrap .i64 ((IntKind.wrap .i64 (c.1*(65536:Int)))+(IntKind.wrap .i64 (d.1*(256:Int)))))+f.1)) a),f.2.1,f.2.2.1,f.2.2.2)
theorem aP{n:Nat}:Fj (aM n):=by
 intro s j l m r h; unfold aM at h; refine bF Try.func14 rfl rfl<|gcc 10 rfl<|cIf h rfl (fun o h=> ?_) (fun o h=> ?_)
 exact gec; refine gcc 7 rfl<|cIf h rfl (fun p h=> ?_) (fun p h=> ?_)
 refine gco 3 rfl<|xC1 h (nV ·) rfl (fun c h=> ?_)
 refine xMv rfl<|oCk h (fun a h=> ?_)
 exact wRem a rfl rfl rfl rfl<|geo
 refine gco 4 rfl<|xC1 h (nV ·) rfl (fun d h=> ?_)
 refine goo 5 rfl<|xC1 h (nV ·) rfl (fun f h=> ?_)
 refine goo 5 rfl<|xC1 h (nV ·) rfl (fun g h=> ?_)
 refine goo 12 rfl<|oCk h (fun b h=> ?_)
 exact wRem b rfl rfl rfl rfl<|geo
abbrev KD(p:(List Int)→(List Int)→Int→Int→Option (Int×(List Int)×Int×Int)):Prop:= ∀ {f a:List Int} {b d:Int} {r:Int×(List Int)×Int×Int},p f a b d=some r→Big Try.prog τ An (.fn 15 [.one (.ptr 1000000 0), .one (.c (.sl (f.map aR)))] [[.sl (a.map rI_u8), .int .i64 b, .int .i64 d]] (.one (.c (.int .i64 r.1))) none [[.sl (r.2.1.map rI_u8), .int .i64 r.2.2.1, .int .i64 r.2.2.2]] none)
def eZ(n:Nat)(b:List Int)(d:List Int)(f:Int)(g:Int):Option (Int×(List Int)×Int×Int):=
  (aM n (b.length:Int) d f g).bind fun a=>(ix b a.1).bind fun c=>some (c,a.2.1,a.2.2.1,a.2.2.2)
theorem kF{n:Nat}:KD (eZ n):=by
 intro g c d f r h; unfold eZ at h; refine bF Try.func15 rfl rfl<|gco 9 rfl<|xLn rfl<|xC1 h (aP ·) rfl (fun b h=> ?_)
 refine xIx h gU rfl (fun a h=> ?_)
 exact geo
abbrev Jz(p:Int→Option (Int×Int×(List UInt8)×(List aB)×(List aC))):Prop:= ∀ {a:Int} {r:Int×Int×(List UInt8)×(List aB)×(List aC)},p a=some r→Big Try.prog τ An (.fn 72 [.one (.c (.int .i64 a))] [] (.one (.ag [.int .i64 r.1, .int .i64 r.2.1, .str r.2.2.1, .sl (r.2.2.2.1.map aE), .sl (r.2.2.2.2.map aD)])) none [] none)
def cU(n:Nat)(a:Int):Option (Int×Int×(List UInt8)×(List aB)×(List aC)):=
  some ((1:Int),a,([]:List UInt8),([]:List aB),([]:List aC))
theorem dX{n:Nat}:Jz (cU n):=by
 intro a r h; unfold cU at h; exact bF Try.func72 rfl rfl<|cRs<|xAz [.int .i64 0, .int .i64 0, .str [], .sl ([].map aE), .sl ([].map aD)] rfl<|goo 4 rfl<|wBd [.int .i64 1, .int .i64 a, .str [], .sl ([].map aE), .sl ([].map aD)] rfl rfl rfl rfl rfl rfl<|geo
abbrev Lc(p:(List UInt8)→Option (Int×Int×(List UInt8)×(List aB)×(List aC))):Prop:= ∀ {a:List UInt8} {r:Int×Int×(List UInt8)×(List aB)×(List aC)},p a=some r→Big Try.prog τ An (.fn 85 [.one (.c (.str a))] [] (.one (.ag [.int .i64 r.1, .int .i64 r.2.1, .str r.2.2.1, .sl (r.2.2.2.1.map aE), .sl (r.2.2.2.2.map aD)])) none [] none)
def mG(n:Nat)(a:List UInt8):Option (Int×Int×(List UInt8)×(List aB)×(List aC)):=
  some ((2:Int),(0:Int),a,([]:List aB),([]:List aC))
theorem uB{n:Nat}:Lc (mG n):=by
 intro a r h; unfold mG at h; exact bF Try.func85 rfl rfl<|cRs<|xAz [.int .i64 0, .int .i64 0, .str [], .sl ([].map aE), .sl ([].map aD)] rfl<|goo 4 rfl<|wBd [.int .i64 2, .int .i64 0, .str a, .sl ([].map aE), .sl ([].map aD)] rfl rfl rfl rfl rfl rfl<|geo
abbrev KB(p:(List (List UInt8))→(List Int)→Int→Int→Option ((List UInt8)×(List Int)×Int×Int)):Prop:= ∀ {f:List (List UInt8)} {a:List Int} {b d:Int} {r:(List UInt8)×(List Int)×Int×Int},p f a b d=some r→Big Try.prog τ An (.fn 86 [.one (.ptr 1000000 0), .one (.c (.sl (f.map fG)))] [[.sl (a.map rI_u8), .int .i64 b, .int .i64 d]] (.one (.c (.str r.1))) none [[.sl (r.2.1.map rI_u8), .int .i64 r.2.2.1, .int .i64 r.2.2.2]] none)
def bS(n:Nat)(b:List (List UInt8))(d:List Int)(f:Int)(g:Int):Option ((List UInt8)×(List Int)×Int×Int):=
  (aM n (b.length:Int) d f g).bind fun a=>(ix b a.1).bind fun c=>some (c,a.2.1,a.2.2.1,a.2.2.2)
theorem dA{n:Nat}:KB (bS n):=by
 intro g c d f r h; unfold bS at h; refine bF Try.func86 rfl rfl<|gco 9 rfl<|xLn rfl<|xC1 h (aP ·) rfl (fun b h=> ?_)
 refine xIx h pW rfl (fun a h=> ?_)
 exact geo
abbrev KA(p:(List (List UInt8))→(List UInt8)→Option (Bool)):Prop:= ∀ {a:List (List UInt8)} {b:List UInt8} {r:Bool},p a b=some r→Big Try.prog τ An (.fn 92 [.one (.c (.sl (a.map fG))), .one (.c (.str b))] [] (.one (.c (.bool r))) none [] none)
def kR(n:Nat)(b:List (List UInt8))(d:List UInt8):(Int)→Option ((Int)⊕((Bool)⊕(Int×Bool)))
  | a=>bif decide (a<(b.length:Int))then(ix b a).bind fun c=>bif decide (c=d)then some (.inr (.inl true))else some (.inl (IntKind.wrap .i64 (a+(1:Int))))else some (.inr (.inr (a,false)))
def gW(n:Nat)(a:List (List UInt8))(b:List UInt8):Option (Bool):=
  (loopN (kR n a b) n (0:Int)).bind fun q=>(match q with | .inl c=>some c | .inr (d,f)=>some false)
theorem oU{n:Nat}:KA (gW n):=by
 intro l m r h; unfold gW at h; refine bF Try.func92 rfl rfl<|gcc 9 rfl<|cLp h [(4,17)] [] (fun b=>([(5,I64 b)],[])) (fun q=>match q with | .inl a=>(.r,[(4,Bo a)],[]) | .inr (c,d)=>(.e 0,[(5,I64 c),(9,Bo d)],[])) rfl (fun b _ h=> ?_) (fun q h=> ?_)
 unfold kR at h; refine gco 5 rfl<|xLn rfl<|goc 2 rfl<|cIf h rfl (fun g h=> ?_) (fun g h=> ?_)
 refine gco 7 rfl<|xIx h pW rfl (fun f h=> ?_)
 refine goc 4 rfl<|cIf h rfl (fun j h=> ?_) (fun j h=> ?_)
 exact gec; exact gec; exact gec; rcases q with a | ⟨c,d⟩; exact en; exact gec
abbrev kO:Type:=Int→(List Int)→Int→Int→(List (List UInt8))→Option (Int×Int×(List UInt8)×(List aB)×(List aC)×(List Int)×Int×Int×(List (List UInt8)))
abbrev sC(p:kO):Prop:= ∀ {g:Int} {a:List Int} {b d:Int} {f:List (List UInt8)} {r:Int×Int×(List UInt8)×(List aB)×(List aC)×(List Int)×Int×Int×(List (List UInt8))},p g a b d f=some r→Big Try.prog τ An (.fn 87 [.one (.ptr 1000000 0), .one (.c (.int .i64 g)), .one (.ptr 1000001 0)] [[.sl (a.map rI_u8), .int .i64 b, .int .i64 d],[.sl (f.map fG)]] (.one (.ag [.int .i64 r.1, .int .i64 r.2.1, .str r.2.2.1, .sl (r.2.2.2.1.map aE), .sl (r.2.2.2.2.1.map aD)])) none [[.sl (r.2.2.2.2.2.1.map rI_u8), .int .i64 r.2.2.2.2.2.2.1, .int .i64 r.2.2.2.2.2.2.2.1],[.sl (r.2.2.2.2.2.2.2.2.map fG)]] none)
def nS(n:Nat)(g:kO)(y:Int):(Int×Int×Int×(List UInt8)×(List aB)×(List aC)×(List Int)×Int×Int×(List (List UInt8)))→Option ((Int×Int×Int×(List UInt8)×(List aB)×(List aC)×(List Int)×Int×Int×(List (List UInt8)))⊕((Int×Bool×Int×Int×(List UInt8)×(List aB)×(List aC)×(List Int)×Int×Int×(List (List UInt8)))))
  | (j,s,t,u,v,w,b,c,d,f)=>bif decide (j<(2:Int))then((bif decide ((0:Int)<y)then(g (IntKind.wrap .i64 (y - (1:Int))) b c d f).bind fun a=>(dG 80 v ([aB.mk a.1 a.2.1 a.2.2.1 a.2.2.2.1 a.2.2.2.2.1]:List aB)).bind fun z=>some (s,t,u,z,w,a.2.2.2.2.2.1,a.2.2.2.2.2.2.1,a.2.2.2.2.2.2.2.1,a.2.2.2.2.2.2.2.2)else(dG 80 v ([aB.mk (3:Int) (0:Int) ([95]:List UInt8) ([]:List aB) ([]:List aC)]:List aB)).bind fun A=>some (s,t,u,A,w,b,c,d,f):Option ((Int×Int×(List UInt8)×(List aB)×(List aC)×(List Int)×Int×Int×(List (List UInt8)))))).bind fun(B,C,D,E,G,l,m,o,p)=>some (.inl ((IntKind.wrap .i64 (j+(1:Int))),B,C,D,E,G,l,m,o,p))else some (.inr (j,false,s,t,u,v,w,b,c,d,f))
def nR(n:Nat)(g:kO)(z:Int)(y:Int×(List Int)×Int×Int):(Int×Int×Int×(List UInt8)×(List aB)×(List aC)×(List Int)×Int×Int×(List (List UInt8)))→Option ((Int×Int×Int×(List UInt8)×(List aB)×(List aC)×(List Int)×Int×Int×(List (List UInt8)))⊕((Int×Bool×Int×Int×(List UInt8)×(List aB)×(List aC)×(List Int)×Int×Int×(List (List UInt8)))))
  | (j,s,t,u,v,w,b,c,d,f)=>bif decide (j<y.1)then((bif decide ((0:Int)<z)then(g (IntKind.wrap .i64 (z - (1:Int))) b c d f).bind fun a=>(dG 80 v ([aB.mk a.1 a.2.1 a.2.2.1 a.2.2.2.1 a.2.2.2.2.1]:List aB)).bind fun A=>some (s,t,u,A,w,a.2.2.2.2.2.1,a.2.2.2.2.2.2.1,a.2.2.2.2.2.2.2.1,a.2.2.2.2.2.2.2.2)else(dG 80 v ([aB.mk (3:Int) (0:Int) ([95]:List UInt8) ([]:List aB) ([]:List aC)]:List aB)).bind fun B=>some (s,t,u,B,w,b,c,d,f):Option ((Int×Int×(List UInt8)×(List aB)×(List aC)×(List Int)×Int×Int×(List (List UInt8)))))).bind fun(C,D,E,G,H,l,m,o,p)=>some (.inl ((IntKind.wrap .i64 (j+(1:Int))),C,D,E,G,H,l,m,o,p))else some (.inr (j,false,s,t,u,v,w,b,c,d,f))
def oY(n:Nat)(l:kO)(G:Int)(X:List Int)(Y:Int)(Z:Int)(f:List (List UInt8)):Option (Int×Int×(List UInt8)×(List aB)×(List aC)×(List Int)×Int×Int×(List (List UInt8))):=
  (aM n (8:Int) X Y Z).bind fun a=>bif decide (a.1=(0:Int))then(aM n (3:Int) a.2.1 a.2.2.1 a.2.2.2).bind fun p=>(cU n p.1).bind fun m=>some (m.1,m.2.1,m.2.2.1,m.2.2.2.1,m.2.2.2.2,p.2.1,p.2.2.1,p.2.2.2,f)else bif decide (a.1=(1:Int))then(bS n ([([111,107]:List UInt8),([97]:List UInt8),([115,116,111,112]:List UInt8)]:List (List UInt8)) a.2.1 a.2.2.1 a.2.2.2).bind fun s=>(mG n s.1).bind fun o=>some (o.1,o.2.1,o.2.2.1,o.2.2.2.1,o.2.2.2.2,s.2.1,s.2.2.1,s.2.2.2,f)else bif decide (a.1=(2:Int))then some ((3:Int),(0:Int),([95]:List UInt8),([]:List aB),([]:List aC),a.2.1,a.2.2.1,a.2.2.2,f)else bif decide (a.1=(3:Int))then(bS n ([([65]:List UInt8),([66]:List UInt8),([67]:List UInt8),([68]:List UInt8),([72]:List UInt8),([84]:List UInt8)]:List (List UInt8)) a.2.1 a.2.2.1 a.2.2.2).bind fun b=>(gW n f b.1).bind fun C=>bif C then some ((3:Int),(0:Int),([95]:List UInt8),([]:List aB),([]:List aC),b.2.1,b.2.2.1,b.2.2.2,f)else(dG 16 f ([b.1]:List (List UInt8))).bind fun H=>some ((3:Int),(0:Int),b.1,([]:List aB),([]:List aC),b.2.1,b.2.2.1,b.2.2.2,H)else bif decide (a.1=(4:Int))then(bS n ([([65]:List UInt8),([66]:List UInt8),([67]:List UInt8),([68]:List UInt8),([72]:List UInt8),([84]:List UInt8)]:List (List UInt8)) a.2.1 a.2.2.1 a.2.2.2).bind fun c=>(gW n f c.1).bind fun D=>bif D then some ((3:Int),(0:Int),([95]:List UInt8),([]:List aB),([]:List aC),c.2.1,c.2.2.1,c.2.2.2,f)else(dG 16 f ([c.1]:List (List UInt8))).bind fun I=>some ((3:Int),(0:Int),c.1,([]:List aB),([]:List aC),c.2.1,c.2.2.1,c.2.2.2,I)else bif decide (a.1=(5:Int))then(bS n ([([65]:List UInt8),([66]:List UInt8),([67]:List UInt8),([68]:List UInt8),([72]:List UInt8),([84]:List UInt8)]:List (List UInt8)) a.2.1 a.2.2.1 a.2.2.2).bind fun d=>(gW n f d.1).bind fun E=>bif E then some ((3:Int),(0:Int),([95]:List UInt8),([]:List aB),([]:List aC),d.2.1,d.2.2.1,d.2.2.2,f)else(dG 16 f ([d.1]:List (List UInt8))).bind fun J=>some ((3:Int),(0:Int),d.1,([]:List aB),([]:List aC),d.2.1,d.2.2.1,d.2.2.2,J)else(eZ n ([(4:Int),(5:Int),(6:Int)]:List Int) a.2.1 a.2.2.1 a.2.2.2).bind fun j=>(aM n (3:Int) j.2.1 j.2.2.1 j.2.2.2).bind fun g=>bif decide (j.1=(6:Int))then(loopN (nS n l G) n ((0:Int),j.1,(0:Int),([]:List UInt8),([]:List aB),([]:List aC),g.2.1,g.2.2.1,g.2.2.2,f)).bind fun(a0,a2,K,L,M,N,Q,t,u,v,A)=>some (K,L,M,N,Q,t,u,v,A)else(loopN (nR n l G g) n ((0:Int),j.1,(0:Int),([]:List UInt8),([]:List aB),([]:List aC),g.2.1,g.2.2.1,g.2.2.2,f)).bind fun(a1,a3,R,T,U,V,W,w,y,z,B)=>some (R,T,U,V,W,w,y,z,B)
theorem EQ{n:Nat}{g:kO}(b:sC g):sC (oY n g):=by
 intro g5 f7 f8 f9 g0 r h; unfold oY at h; refine bF Try.func87 rfl rfl<|cRs<|xAz [.int .i64 0, .int .i64 0, .str [], .sl ([].map aE), .sl ([].map aD)] rfl<|goo 5 rfl<|xC1 h (aP ·) rfl (fun f2 h=> ?_)
 refine goc 7 rfl<|cIf h rfl (fun q2 h=> ?_) (fun q2 h=> ?_)
 refine gco 3 rfl<|xC1 h (aP ·) rfl (fun f3 h=> ?_)
 refine xC0 h (dX ·) rfl (fun f4 h=> ?_)
 exact geo; refine gcc 5 rfl<|cIf h rfl (fun q5 h=> ?_) (fun q5 h=> ?_)
 refine gco 3 rfl<|cW (L:=([([111,107]:List UInt8),([97]:List UInt8),([115,116,111,112]:List UInt8)]:List (List UInt8))) (f:=fG) rfl rfl rfl rfl rfl rfl rfl<|xC1 h (dA ·) rfl (fun f5 h=> ?_)
 refine xC0 h (uB ·) rfl (fun f6 h=> ?_)
 exact geo; refine gcc 5 rfl<|cIf h rfl (fun q8 h=> ?_) (fun q8 h=> ?_)
 exact cRs<|wBd [.int .i64 3, .int .i64 0, .str [95], .sl ([].map aE), .sl ([].map aD)] rfl rfl rfl rfl rfl rfl<|geo
 refine gcc 6 rfl<|cIf h rfl (fun q9 h=> ?_) (fun q9 h=> ?_)
 refine gco 5 rfl<|cW (L:=([([65]:List UInt8),([66]:List UInt8),([67]:List UInt8),([68]:List UInt8),([72]:List UInt8),([84]:List UInt8)]:List (List UInt8))) (f:=fG) rfl rfl rfl rfl rfl rfl rfl<|xC1 h (dA ·) rfl (fun Q h=> ?_)
 refine goo 9 rfl<|xC0 h (oU ·) rfl (fun d1 h=> ?_)
 refine oNl<|cIf h rfl (fun d5 h=> ?_) (fun d5 h=> ?_)
 exact cRs<|wBd [.int .i64 3, .int .i64 0, .str [95], .sl ([].map aE), .sl ([].map aD)] rfl rfl rfl rfl rfl rfl<|geo
 refine gco 8 rfl<|cW (L:=([Q.1]:List (List UInt8))) (f:=fG) rfl rfl rfl rfl rfl rfl rfl<|wAp (f:=fG) h rfl rfl rfl rfl rfl rfl rfl rfl rfl (fun _=>rfl) rfl (fun e5 h=> ?_)
 exact goo 6 rfl<|wBd [.int .i64 3, .int .i64 0, .str Q.1, .sl ([].map aE), .sl ([].map aD)] rfl rfl rfl rfl rfl rfl<|geo
 refine gcc 5 rfl<|cIf h rfl (fun d6 h=> ?_) (fun d6 h=> ?_)
 refine gco 5 rfl<|cW (L:=([([65]:List UInt8),([66]:List UInt8),([67]:List UInt8),([68]:List UInt8),([72]:List UInt8),([84]:List UInt8)]:List (List UInt8))) (f:=fG) rfl rfl rfl rfl rfl rfl rfl<|xC1 h (dA ·) rfl (fun R h=> ?_)
 refine goo 9 rfl<|xC0 h (oU ·) rfl (fun d2 h=> ?_)
 refine oNl<|cIf h rfl (fun d7 h=> ?_) (fun d7 h=> ?_)
 exact cRs<|wBd [.int .i64 3, .int .i64 0, .str [95], .sl ([].map aE), .sl ([].map aD)] rfl rfl rfl rfl rfl rfl<|geo
 refine gco 8 rfl<|cW (L:=([R.1]:List (List UInt8))) (f:=fG) rfl rfl rfl rfl rfl rfl rfl<|wAp (f:=fG) h rfl rfl rfl rfl rfl rfl rfl rfl rfl (fun _=>rfl) rfl (fun e6 h=> ?_)
 exact goo 6 rfl<|wBd [.int .i64 3, .int .i64 0, .str R.1, .sl ([].map aE), .sl ([].map aD)] rfl rfl rfl rfl rfl rfl<|geo
 refine gcc 4 rfl<|cIf h rfl (fun d8 h=> ?_) (fun d8 h=> ?_)
 refine gco 3 rfl<|cW (L:=([([65]:List UInt8),([66]:List UInt8),([67]:List UInt8),([68]:List UInt8),([72]:List UInt8),([84]:List UInt8)]:List (List UInt8))) (f:=fG) rfl rfl rfl rfl rfl rfl rfl<|xC1 h (dA ·) rfl (fun T h=> ?_)
 refine goo 9 rfl<|xC0 h (oU ·) rfl (fun d3 h=> ?_)
 refine oNl<|cIf h rfl (fun d9 h=> ?_) (fun d9 h=> ?_)
 exact cRs<|wBd [.int .i64 3, .int .i64 0, .str [95], .sl ([].map aE), .sl ([].map aD)] rfl rfl rfl rfl rfl rfl<|geo
 refine gco 8 rfl<|cW (L:=([T.1]:List (List UInt8))) (f:=fG) rfl rfl rfl rfl rfl rfl rfl<|wAp (f:=fG) h rfl rfl rfl rfl rfl rfl rfl rfl rfl (fun _=>rfl) rfl (fun e7 h=> ?_)
 exact goo 6 rfl<|wBd [.int .i64 3, .int .i64 0, .str T.1, .sl ([].map aE), .sl ([].map aD)] rfl rfl rfl rfl rfl rfl<|geo
 refine gco 4 rfl<|cW (L:=([(4:Int),(5:Int),(6:Int)]:List Int)) (f:=aR) rfl rfl rfl rfl rfl rfl rfl<|xC1 h (kF ·) rfl (fun d0 h=> ?_)
 refine wBd [.int .i64 d0.1, .int .i64 0, .str [], .sl ([].map aE), .sl ([].map aD)] rfl rfl rfl rfl rfl rfl<|xAz [.int .i64 0, .int .i64 0, .str [], .sl ([].map aE), .sl ([].map aD)] rfl<|goo 5 rfl<|xC1 h (aP ·) rfl (fun d4 h=> ?_)
 refine goc 9 rfl<|cIf h rfl (fun e0 h=> ?_) (fun e0 h=> ?_)
 refine gcc 8 rfl<|cLp h [(10,10),(59,81)] [(8,8),(1000000,1000001)] (fun(U,a0,a1,a2,a3,a4,j,l,m,H)=>([(10,I64 U)],[(8,[.int .i64 a0, .int .i64 a1, .str a2, .sl (a3.map aE), .sl (a4.map aD)]),(1000000,[.sl (j.map rI_u8), .int .i64 l, .int .i64 m]),(1000001,[.sl (H.map fG)])])) (fun(V,Y,a5,a6,a7,a8,a9,o,p,s,I)=>(.e 1,[(10,I64 V),(61,Bo Y)],[(8,[.int .i64 a5, .int .i64 a6, .str a7, .sl (a8.map aE), .sl (a9.map aD)]),(1000000,[.sl (o.map rI_u8), .int .i64 p, .int .i64 s]),(1000001,[.sl (I.map fG)])])) rfl (fun st _ h=> ?_) (fun q h=> ?_)
 obtain⟨U,a0,a1,a2,a3,a4,j,l,m,H⟩:=st; unfold nS at h; refine gcc 7 rfl<|cIf h rfl (fun e1 h=> ?_) (fun e1 h=> ?_)
 refine gcc 2 rfl<|cJn h [(64,81)] [(8,8),(1000000,1000001)] (fun(b0,b1,b2,b3,b4,t,u,v,J)=>(.n,[],[(8,[.int .i64 b0, .int .i64 b1, .str b2, .sl (b3.map aE), .sl (b4.map aD)]),(1000000,[.sl (t.map rI_u8), .int .i64 u, .int .i64 v]),(1000001,[.sl (J.map fG)])])) (fun _ h=> ?_) (fun q h=> ?_)
 refine gcc 6 rfl<|cIf h rfl (fun e2 h=> ?_) (fun e2 h=> ?_)
 refine gco 7 rfl<|xCk h (b ·) rfl (fun c h=> ?_)
 refine cW (L:=([aB.mk c.1 c.2.1 c.2.2.1 c.2.2.2.1 c.2.2.2.2.1]:List aB)) (f:=aE) rfl rfl rfl rfl (by simp only[List.map,bB]<;>rfl) rfl rfl<|wAp (f:=aE) h rfl rfl rfl rfl rfl rfl rfl rfl rfl (fun a=>by rw[bE]; rfl) rfl (fun e8 h=> ?_)
 exact geo; refine gco 3 rfl<|wBd [.int .i64 3, .int .i64 0, .str [95], .sl ([].map aE), .sl ([].map aD)] rfl rfl rfl rfl rfl rfl<|cW (L:=([aB.mk (3:Int) (0:Int) ([95]:List UInt8) ([]:List aB) ([]:List aC)]:List aB)) (f:=aE) rfl rfl rfl rfl (by simp only[List.map,bB]<;>rfl) rfl rfl<|wAp (f:=aE) h rfl rfl rfl rfl rfl rfl rfl rfl rfl (fun a=>by rw[bE]; rfl) rfl (fun f0 h=> ?_)
 exact geo; obtain⟨b0,b1,b2,b3,b4,t,u,v,J⟩:=q; exact gec; exact gec; obtain⟨V,Y,a5,a6,a7,a8,a9,o,p,s,I⟩:=q; exact gec; refine gcc 6 rfl<|cLp h [(10,10),(59,81)] [(8,8),(1000000,1000001)] (fun(W,b5,b6,b7,b8,b9,w,y,z,K)=>([(10,I64 W)],[(8,[.int .i64 b5, .int .i64 b6, .str b7, .sl (b8.map aE), .sl (b9.map aD)]),(1000000,[.sl (w.map rI_u8), .int .i64 y, .int .i64 z]),(1000001,[.sl (K.map fG)])])) (fun(X,Z,c0,c1,c2,c3,c4,A,B,C,M)=>(.e 1,[(10,I64 X),(61,Bo Z)],[(8,[.int .i64 c0, .int .i64 c1, .str c2, .sl (c3.map aE), .sl (c4.map aD)]),(1000000,[.sl (A.map rI_u8), .int .i64 B, .int .i64 C]),(1000001,[.sl (M.map fG)])])) rfl (fun st _ h=> ?_) (fun q h=> ?_)
 obtain⟨W,b5,b6,b7,b8,b9,w,y,z,K⟩:=st; unfold nR at h; refine gcc 7 rfl<|cIf h rfl (fun e3 h=> ?_) (fun e3 h=> ?_)
 refine gcc 2 rfl<|cJn h [(64,81)] [(8,8),(1000000,1000001)] (fun(c5,c6,c7,c8,c9,D,E,G,N)=>(.n,[],[(8,[.int .i64 c5, .int .i64 c6, .str c7, .sl (c8.map aE), .sl (c9.map aD)]),(1000000,[.sl (D.map rI_u8), .int .i64 E, .int .i64 G]),(1000001,[.sl (N.map fG)])])) (fun _ h=> ?_) (fun q h=> ?_)
 refine gcc 6 rfl<|cIf h rfl (fun e4 h=> ?_) (fun e4 h=> ?_)
 refine gco 7 rfl<|xCk h (b ·) rfl (fun d h=> ?_)
 refine cW (L:=([aB.mk d.1 d.2.1 d.2.2.1 d.2.2.2.1 d.2.2.2.2.1]:List aB)) (f:=aE) rfl rfl rfl rfl (by simp only[List.map,bB]<;>rfl) rfl rfl<|wAp (f:=aE) h rfl rfl rfl rfl rfl rfl rfl rfl rfl (fun a=>by rw[bE]; rfl) rfl (fun e9 h=> ?_)
 exact geo; refine gco 3 rfl<|wBd [.int .i64 3, .int .i64 0, .str [95], .sl ([].map aE), .sl ([].map aD)] rfl rfl rfl rfl rfl rfl<|cW (L:=([aB.mk (3:Int) (0:Int) ([95]:List UInt8) ([]:List aB) ([]:List aC)]:List aB)) (f:=aE) rfl rfl rfl rfl (by simp only[List.map,bB]<;>rfl) rfl rfl<|wAp (f:=aE) h rfl rfl rfl rfl rfl rfl rfl rfl rfl (fun a=>by rw[bE]; rfl) rfl (fun f1 h=> ?_)
 exact geo; obtain⟨c5,c6,c7,c8,c9,D,E,G,N⟩:=q; exact gec; exact gec; obtain⟨X,Z,c0,c1,c2,c3,c4,A,B,C,M⟩:=q; exact gec
def Ba:Nat→(kO)
  | 0=>(fun _ _ _ _ _=>none)
  | n+1=>oY n (Ba n)
def eA(n:Nat):kO:=Ba n
theorem EV(n:Nat):sC (eA n):=by
  induction n with
  | zero=>exact(fun h=>nomatch h)
  | succ n ih=>exact EQ (n:=n) ih
theorem xR{n:Nat}:sC (eA n):=(EV n)
theorem BJ(n:Nat):eA (n+1)=oY n (eA n):=rfl
abbrev Hs(p:Int→(List Int)→Int→Int→Option (Bool×(List Int)×Int×Int)):Prop:= ∀ {f:Int} {a:List Int} {b d:Int} {r:Bool×(List Int)×Int×Int},p f a b d=some r→Big Try.prog τ An (.fn 88 [.one (.ptr 1000000 0), .one (.c (.int .i64 f))] [[.sl (a.map rI_u8), .int .i64 b, .int .i64 d]] (.one (.c (.bool r.1))) none [[.sl (r.2.1.map rI_u8), .int .i64 r.2.2.1, .int .i64 r.2.2.2]] none)
def kZ(n:Nat)(f:Int)(b:List Int)(c:Int)(d:Int):Option (Bool×(List Int)×Int×Int):=
  (aM n f b c d).bind fun a=>some ((decide (a.1=(0:Int))),a.2.1,a.2.2.1,a.2.2.2)
theorem vX{n:Nat}:Hs (kZ n):=by
 intro f b c d r h; unfold kZ at h; refine bF Try.func88 rfl rfl<|gco 8 rfl<|xC1 h (aP ·) rfl (fun a h=> ?_)
 exact geo
abbrev dE:Type:=Int→(List (List UInt8))→(List Int)→Int→Int→Option (Int×Int×(List UInt8)×(List aB)×(List aC)×(List Int)×Int×Int)
abbrev qM(p:dE):Prop:= ∀ {f:Int} {g:List (List UInt8)} {a:List Int} {b d:Int} {r:Int×Int×(List UInt8)×(List aB)×(List aC)×(List Int)×Int×Int},p f g a b d=some r→Big Try.prog τ An (.fn 70 [.one (.ptr 1000000 0), .one (.c (.int .i64 f)), .one (.c (.sl (g.map fG)))] [[.sl (a.map rI_u8), .int .i64 b, .int .i64 d]] (.one (.ag [.int .i64 r.1, .int .i64 r.2.1, .str r.2.2.1, .sl (r.2.2.2.1.map aE), .sl (r.2.2.2.2.1.map aD)])) none [[.sl (r.2.2.2.2.2.1.map rI_u8), .int .i64 r.2.2.2.2.2.2.1, .int .i64 r.2.2.2.2.2.2.2]] none)
def uN(n:Nat)(f:dE)(t:Int)(u:List (List UInt8)):(Int×Int×Int×(List UInt8)×(List aB)×(List aC)×(List Int)×Int×Int)→Option ((Int×Int×Int×(List UInt8)×(List aB)×(List aC)×(List Int)×Int×Int)⊕((Int×Bool×Int×Int×(List UInt8)×(List aB)×(List aC)×(List Int)×Int×Int)))
  | (g,j,l,m,o,p,b,c,d)=>bif decide ((0:Int)<g)then(f (IntKind.wrap .i64 (t - (1:Int))) u b c d).bind fun a=>(dG 80 o ([aB.mk a.1 a.2.1 a.2.2.1 a.2.2.2.1 a.2.2.2.2.1]:List aB)).bind fun s=>some (.inl ((IntKind.wrap .i64 (g - (1:Int))),j,l,m,s,p,a.2.2.2.2.2.1,a.2.2.2.2.2.2.1,a.2.2.2.2.2.2.2))else some (.inr (g,false,j,l,m,o,p,b,c,d))
def uM(n:Nat)(f:dE)(t:Int)(u:List (List UInt8)):(Int×Int×Int×(List UInt8)×(List aB)×(List aC)×(List Int)×Int×Int)→Option ((Int×Int×Int×(List UInt8)×(List aB)×(List aC)×(List Int)×Int×Int)⊕((Int×Bool×Int×Int×(List UInt8)×(List aB)×(List aC)×(List Int)×Int×Int)))
  | (g,j,l,m,o,p,b,c,d)=>bif decide (g<(2:Int))then(f (IntKind.wrap .i64 (t - (1:Int))) u b c d).bind fun a=>(dG 80 o ([aB.mk a.1 a.2.1 a.2.2.1 a.2.2.2.1 a.2.2.2.2.1]:List aB)).bind fun s=>some (.inl ((IntKind.wrap .i64 (g+(1:Int))),j,l,m,s,p,a.2.2.2.2.2.1,a.2.2.2.2.2.2.1,a.2.2.2.2.2.2.2))else some (.inr (g,false,j,l,m,o,p,b,c,d))
def uL(n:Nat)(f:dE)(t:Int)(u:List (List UInt8)):(Int×Int×Int×(List UInt8)×(List aB)×(List aC)×(List Int)×Int×Int)→Option ((Int×Int×Int×(List UInt8)×(List aB)×(List aC)×(List Int)×Int×Int)⊕((Int×Bool×Int×Int×(List UInt8)×(List aB)×(List aC)×(List Int)×Int×Int)))
  | (g,j,l,m,o,p,b,c,d)=>bif decide (g<(1:Int))then(f (IntKind.wrap .i64 (t - (1:Int))) u b c d).bind fun a=>(dG 80 o ([aB.mk a.1 a.2.1 a.2.2.1 a.2.2.2.1 a.2.2.2.2.1]:List aB)).bind fun s=>some (.inl ((IntKind.wrap .i64 (g+(1:Int))),j,l,m,s,p,a.2.2.2.2.2.1,a.2.2.2.2.2.2.1,a.2.2.2.2.2.2.2))else some (.inr (g,false,j,l,m,o,p,b,c,d))
def uK(n:Nat)(j:dE)(w:Int)(y:List (List UInt8)):(Int×Int×Int×(List UInt8)×(List aB)×(List aC)×(List Int)×Int×Int)→Option ((Int×Int×Int×(List UInt8)×(List aB)×(List aC)×(List Int)×Int×Int)⊕((Int×Bool×Int×Int×(List UInt8)×(List aB)×(List aC)×(List Int)×Int×Int)))
  | (g,l,m,o,p,s,c,d,f)=>bif decide ((0:Int)<g)then(eA n (1:Int) c d f ([]:List (List UInt8))).bind fun a=>(dG 16 ([]:List (List UInt8)) y).bind fun t=>(dG 16 t a.2.2.2.2.2.2.2.2).bind fun u=>(j (IntKind.wrap .i64 (w - (1:Int))) u a.2.2.2.2.2.1 a.2.2.2.2.2.2.1 a.2.2.2.2.2.2.2.1).bind fun b=>(dG 160 s ([aC.mk a.1 a.2.1 a.2.2.1 a.2.2.2.1 a.2.2.2.2.1 b.1 b.2.1 b.2.2.1 b.2.2.2.1 b.2.2.2.2.1]:List aC)).bind fun v=>some (.inl ((IntKind.wrap .i64 (g - (1:Int))),l,m,o,p,v,b.2.2.2.2.2.1,b.2.2.2.2.2.2.1,b.2.2.2.2.2.2.2))else some (.inr (g,false,l,m,o,p,s,c,d,f))
def mM(n:Nat)(f:dE)(t:Int)(u:List (List UInt8)):(Int×Int×Int×(List UInt8)×(List aB)×(List aC)×(List Int)×Int×Int)→Option ((Int×Int×Int×(List UInt8)×(List aB)×(List aC)×(List Int)×Int×Int)⊕((Int×Bool×Int×Int×(List UInt8)×(List aB)×(List aC)×(List Int)×Int×Int)))
  | (g,j,l,m,o,p,b,c,d)=>bif decide ((0:Int)<g)then(f (IntKind.wrap .i64 (t - (1:Int))) u b c d).bind fun a=>(dG 80 o ([aB.mk a.1 a.2.1 a.2.2.1 a.2.2.2.1 a.2.2.2.2.1]:List aB)).bind fun s=>some (.inl ((IntKind.wrap .i64 (g - (1:Int))),j,l,m,s,p,a.2.2.2.2.2.1,a.2.2.2.2.2.2.1,a.2.2.2.2.2.2.2))else some (.inr (g,false,j,l,m,o,p,b,c,d))
def mL(n:Nat)(g:dE)(t:Int)(u:List (List UInt8)):(Int×Int×Int×(List UInt8)×(List aB)×(List aC)×(List Int)×Int×Int)→Option ((Int×Int×Int×(List UInt8)×(List aB)×(List aC)×(List Int)×Int×Int)⊕((Int×Bool×Int×Int×(List UInt8)×(List aB)×(List aC)×(List Int)×Int×Int)))
  | (f,j,l,m,o,p,b,c,d)=>bif decide (f<(2:Int))then(g (IntKind.wrap .i64 (t - (1:Int))) u b c d).bind fun a=>(dG 80 o ([aB.mk a.1 a.2.1 a.2.2.1 a.2.2.2.1 a.2.2.2.2.1]:List aB)).bind fun s=>some (.inl ((IntKind.wrap .i64 (f+(1:Int))),j,l,m,s,p,a.2.2.2.2.2.1,a.2.2.2.2.2.2.1,a.2.2.2.2.2.2.2))else some (.inr (f,false,j,l,m,o,p,b,c,d))
def mK(n:Nat)(g:dE)(t:Int)(u:List (List UInt8)):(Int×Int×Int×(List UInt8)×(List aB)×(List aC)×(List Int)×Int×Int)→Option ((Int×Int×Int×(List UInt8)×(List aB)×(List aC)×(List Int)×Int×Int)⊕((Int×Bool×Int×Int×(List UInt8)×(List aB)×(List aC)×(List Int)×Int×Int)))
  | (f,j,l,m,o,p,b,c,d)=>bif decide (f<(1:Int))then(g (IntKind.wrap .i64 (t - (1:Int))) u b c d).bind fun a=>(dG 80 o ([aB.mk a.1 a.2.1 a.2.2.1 a.2.2.2.1 a.2.2.2.2.1]:List aB)).bind fun s=>some (.inl ((IntKind.wrap .i64 (f+(1:Int))),j,l,m,s,p,a.2.2.2.2.2.1,a.2.2.2.2.2.2.1,a.2.2.2.2.2.2.2))else some (.inr (f,false,j,l,m,o,p,b,c,d))
def mJ(n:Nat)(j:dE)(w:Int)(y:List (List UInt8)):(Int×Int×Int×(List UInt8)×(List aB)×(List aC)×(List Int)×Int×Int)→Option ((Int×Int×Int×(List UInt8)×(List aB)×(List aC)×(List Int)×Int×Int)⊕((Int×Bool×Int×Int×(List UInt8)×(List aB)×(List aC)×(List Int)×Int×Int)))
  | (g,l,m,o,p,s,c,d,f)=>bif decide ((0:Int)<g)then(eA n (1:Int) c d f ([]:List (List UInt8))).bind fun a=>(dG 16 ([]:List (List UInt8)) y).bind fun t=>(dG 16 t a.2.2.2.2.2.2.2.2).bind fun u=>(j (IntKind.wrap .i64 (w - (1:Int))) u a.2.2.2.2.2.1 a.2.2.2.2.2.2.1 a.2.2.2.2.2.2.2.1).bind fun b=>(dG 160 s ([aC.mk a.1 a.2.1 a.2.2.1 a.2.2.2.1 a.2.2.2.2.1 b.1 b.2.1 b.2.2.1 b.2.2.2.1 b.2.2.2.2.1]:List aC)).bind fun v=>some (.inl ((IntKind.wrap .i64 (g - (1:Int))),l,m,o,p,v,b.2.2.2.2.2.1,b.2.2.2.2.2.2.1,b.2.2.2.2.2.2.2))else some (.inr (g,false,l,m,o,p,s,c,d,f))
def nE(n:Nat)(a:dE)(f:Int)(d:List (List UInt8))(j3:List Int)(j4:Int)(j5:Int):Option (Int×Int×(List UInt8)×(List aB)×(List aC)×(List Int)×Int×Int):=
  (aM n (11:Int) j3 j4 j5).bind fun b=>bif decide (f<(1:Int))then(aM n (4:Int) b.2.1 b.2.2.1 b.2.2.2).bind fun c=>bif decide (c.1=(0:Int))then(eZ n ([(0:Int),(1:Int),(2:Int),(5:Int),(40:Int)]:List Int) c.2.1 c.2.2.1 c.2.2.2).bind fun b9=>(cU n b9.1).bind fun a7=>some (a7.1,a7.2.1,a7.2.2.1,a7.2.2.2.1,a7.2.2.2.2,b9.2.1,b9.2.2.1,b9.2.2.2)else bif decide (c.1=(1:Int))then(bS n ([([111,107]:List UInt8),([97]:List UInt8),([115,116,111,112]:List UInt8),([116,114,117,101]:List UInt8)]:List (List UInt8)) c.2.1 c.2.2.1 c.2.2.2).bind fun c0=>(mG n c0.1).bind fun a8=>some (a8.1,a8.2.1,a8.2.2.1,a8.2.2.2.1,a8.2.2.2.2,c0.2.1,c0.2.2.1,c0.2.2.2)else bif decide (c.1=(2:Int))then bif decide ((0:Int)<(d.length:Int))then(aM n (d.length:Int) c.2.1 c.2.2.1 c.2.2.2).bind fun a9=>(ix d a9.1).bind fun h5=>some ((3:Int),(0:Int),h5,([]:List aB),([]:List aC),a9.2.1,a9.2.2.1,a9.2.2.2)else(aM n (4:Int) c.2.1 c.2.2.1 c.2.2.2).bind fun b2=>(cU n b2.1).bind fun R=>some (R.1,R.2.1,R.2.2.1,R.2.2.2.1,R.2.2.2.2,b2.2.1,b2.2.2.1,b2.2.2.2)else bif decide (c.1=(3:Int))then bif decide ((0:Int)<(d.length:Int))then(aM n (d.length:Int) c.2.1 c.2.2.1 c.2.2.2).bind fun b0=>(ix d b0.1).bind fun h6=>some ((3:Int),(0:Int),h6,([]:List aB),([]:List aC),b0.2.1,b0.2.2.1,b0.2.2.2)else(aM n (4:Int) c.2.1 c.2.2.1 c.2.2.2).bind fun b3=>(cU n b3.1).bind fun T=>some (T.1,T.2.1,T.2.2.1,T.2.2.2.1,T.2.2.2.2,b3.2.1,b3.2.2.1,b3.2.2.2)else bif decide (c.1=(4:Int))then bif decide ((0:Int)<(d.length:Int))then(aM n (d.length:Int) c.2.1 c.2.2.1 c.2.2.2).bind fun b1=>(ix d b1.1).bind fun h7=>some ((3:Int),(0:Int),h7,([]:List aB),([]:List aC),b1.2.1,b1.2.2.1,b1.2.2.2)else(aM n (4:Int) c.2.1 c.2.2.1 c.2.2.2).bind fun b4=>(cU n b4.1).bind fun U=>some (U.1,U.2.1,U.2.2.1,U.2.2.2.1,U.2.2.2.2,b4.2.1,b4.2.2.1,b4.2.2.2)else bif decide (c.1=(5:Int))then(bS n ([([43]:List UInt8),([45]:List UInt8),([42]:List UInt8),([61,61]:List UInt8),([60]:List UInt8),([43]:List UInt8)]:List (List UInt8)) c.2.1 c.2.2.1 c.2.2.2).bind fun b5=>(a (IntKind.wrap .i64 (f - (1:Int))) d b5.2.1 b5.2.2.1 b5.2.2.2).bind fun D=>(a (IntKind.wrap .i64 (f - (1:Int))) d D.2.2.2.2.2.1 D.2.2.2.2.2.2.1 D.2.2.2.2.2.2.2).bind fun G=>some ((7:Int),(0:Int),b5.1,([aB.mk D.1 D.2.1 D.2.2.1 D.2.2.2.1 D.2.2.2.2.1,aB.mk G.1 G.2.1 G.2.2.1 G.2.2.2.1 G.2.2.2.2.1]:List aB),([]:List aC),G.2.2.2.2.2.1,G.2.2.2.2.2.2.1,G.2.2.2.2.2.2.2)else bif decide (c.1=(6:Int))then(bS n ([([43]:List UInt8),([45]:List UInt8),([42]:List UInt8),([61,61]:List UInt8),([60]:List UInt8),([43]:List UInt8)]:List (List UInt8)) c.2.1 c.2.2.1 c.2.2.2).bind fun b6=>(a (IntKind.wrap .i64 (f - (1:Int))) d b6.2.1 b6.2.2.1 b6.2.2.2).bind fun E=>(a (IntKind.wrap .i64 (f - (1:Int))) d E.2.2.2.2.2.1 E.2.2.2.2.2.2.1 E.2.2.2.2.2.2.2).bind fun H=>some ((7:Int),(0:Int),b6.1,([aB.mk E.1 E.2.1 E.2.2.1 E.2.2.2.1 E.2.2.2.2.1,aB.mk H.1 H.2.1 H.2.2.1 H.2.2.2.1 H.2.2.2.2.1]:List aB),([]:List aC),H.2.2.2.2.2.1,H.2.2.2.2.2.2.1,H.2.2.2.2.2.2.2)else bif decide (c.1=(7:Int))then(eZ n ([(4:Int),(5:Int)]:List Int) c.2.1 c.2.2.1 c.2.2.2).bind fun b7=>(aM n (3:Int) b7.2.1 b7.2.2.1 b7.2.2.2).bind fun b8=>(loopN (uN n a f d) n (b8.1,b7.1,(0:Int),([]:List UInt8),([]:List aB),([]:List aC),b8.2.1,b8.2.2.1,b8.2.2.2)).bind fun(l1,k9,i8,i9,j0,j1,j2,d9,e0,e1)=>some (i8,i9,j0,j1,j2,d9,e0,e1)else bif decide (c.1=(8:Int))then(a (IntKind.wrap .i64 (f - (1:Int))) d c.2.1 c.2.2.1 c.2.2.2).bind fun w=>(a (IntKind.wrap .i64 (f - (1:Int))) d w.2.2.2.2.2.1 w.2.2.2.2.2.2.1 w.2.2.2.2.2.2.2).bind fun y=>some ((6:Int),(0:Int),([]:List UInt8),([aB.mk w.1 w.2.1 w.2.2.1 w.2.2.2.1 w.2.2.2.2.1,aB.mk (5:Int) (0:Int) ([]:List UInt8) ([aB.mk y.1 y.2.1 y.2.2.1 y.2.2.2.1 y.2.2.2.2.1]:List aB) ([]:List aC)]:List aB),([]:List aC),y.2.2.2.2.2.1,y.2.2.2.2.2.2.1,y.2.2.2.2.2.2.2)else bif decide (c.1=(9:Int))then(bS n ([([102]:List UInt8),([103]:List UInt8),([104]:List UInt8)]:List (List UInt8)) c.2.1 c.2.2.1 c.2.2.2).bind fun t=>bif decide (t.1=([103]:List UInt8))then(loopN (uM n a f d) n ((0:Int),(8:Int),(0:Int),t.1,([]:List aB),([]:List aC),t.2.1,t.2.2.1,t.2.2.2)).bind fun(k7,k0,h8,h9,i0,i1,i2,e2,e3,e4)=>some (h8,h9,i0,i1,i2,e2,e3,e4)else(loopN (uL n a f d) n ((0:Int),(8:Int),(0:Int),t.1,([]:List aB),([]:List aC),t.2.1,t.2.2.1,t.2.2.2)).bind fun(k8,k1,g0,g1,g2,g3,g4,c1,c2,c3)=>some (g0,g1,g2,g3,g4,c1,c2,c3)else(a (IntKind.wrap .i64 (f - (1:Int))) d c.2.1 c.2.2.1 c.2.2.2).bind fun m=>(aM n (2:Int) m.2.2.2.2.2.1 m.2.2.2.2.2.2.1 m.2.2.2.2.2.2.2).bind fun N=>(loopN (uK n a f d) n ((IntKind.wrap .i64 ((1:Int)+N.1)),(9:Int),(0:Int),([]:List UInt8),([aB.mk m.1 m.2.1 m.2.2.1 m.2.2.2.1 m.2.2.2.2.1]:List aB),([]:List aC),N.2.1,N.2.2.1,N.2.2.2)).bind fun(k4,j8,e5,e6,e7,e8,e9,c4,c5,c6)=>(kZ n (2:Int) c4 c5 c6).bind fun u=>bif u.1 then(a (IntKind.wrap .i64 (f - (1:Int))) d u.2.1 u.2.2.1 u.2.2.2).bind fun p=>(dG 160 e9 ([aC.mk (3:Int) (0:Int) ([95]:List UInt8) ([]:List aB) ([]:List aC) p.1 p.2.1 p.2.2.1 p.2.2.2.1 p.2.2.2.2.1]:List aC)).bind fun f5=>some (e5,e6,e7,e8,f5,p.2.2.2.2.2.1,p.2.2.2.2.2.2.1,p.2.2.2.2.2.2.2)else some (e5,e6,e7,e8,e9,u.2.1,u.2.2.1,u.2.2.2)else bif decide (b.1=(0:Int))then(eZ n ([(0:Int),(1:Int),(2:Int),(5:Int),(40:Int)]:List Int) b.2.1 b.2.2.1 b.2.2.2).bind fun V=>(cU n V.1).bind fun I=>some (I.1,I.2.1,I.2.2.1,I.2.2.2.1,I.2.2.2.2,V.2.1,V.2.2.1,V.2.2.2)else bif decide (b.1=(1:Int))then(bS n ([([111,107]:List UInt8),([97]:List UInt8),([115,116,111,112]:List UInt8),([116,114,117,101]:List UInt8)]:List (List UInt8)) b.2.1 b.2.2.1 b.2.2.2).bind fun W=>(mG n W.1).bind fun J=>some (J.1,J.2.1,J.2.2.1,J.2.2.2.1,J.2.2.2.2,W.2.1,W.2.2.1,W.2.2.2)else bif decide (b.1=(2:Int))then bif decide ((0:Int)<(d.length:Int))then(aM n (d.length:Int) b.2.1 b.2.2.1 b.2.2.2).bind fun X=>(ix d X.1).bind fun f7=>some ((3:Int),(0:Int),f7,([]:List aB),([]:List aC),X.2.1,X.2.2.1,X.2.2.2)else(aM n (4:Int) b.2.1 b.2.2.1 b.2.2.2).bind fun a0=>(cU n a0.1).bind fun K=>some (K.1,K.2.1,K.2.2.1,K.2.2.2.1,K.2.2.2.2,a0.2.1,a0.2.2.1,a0.2.2.2)else bif decide (b.1=(3:Int))then bif decide ((0:Int)<(d.length:Int))then(aM n (d.length:Int) b.2.1 b.2.2.1 b.2.2.2).bind fun Y=>(ix d Y.1).bind fun f8=>some ((3:Int),(0:Int),f8,([]:List aB),([]:List aC),Y.2.1,Y.2.2.1,Y.2.2.2)else(aM n (4:Int) b.2.1 b.2.2.1 b.2.2.2).bind fun a1=>(cU n a1.1).bind fun L=>some (L.1,L.2.1,L.2.2.1,L.2.2.2.1,L.2.2.2.2,a1.2.1,a1.2.2.1,a1.2.2.2)else bif decide (b.1=(4:Int))then bif decide ((0:Int)<(d.length:Int))then(aM n (d.length:Int) b.2.1 b.2.2.1 b.2.2.2).bind fun Z=>(ix d Z.1).bind fun f9=>some ((3:Int),(0:Int),f9,([]:List aB),([]:List aC),Z.2.1,Z.2.2.1,Z.2.2.2)else(aM n (4:Int) b.2.1 b.2.2.1 b.2.2.2).bind fun a2=>(cU n a2.1).bind fun M=>some (M.1,M.2.1,M.2.2.1,M.2.2.2.1,M.2.2.2.2,a2.2.1,a2.2.2.1,a2.2.2.2)else bif decide (b.1=(5:Int))then(bS n ([([43]:List UInt8),([45]:List UInt8),([42]:List UInt8),([61,61]:List UInt8),([60]:List UInt8),([43]:List UInt8)]:List (List UInt8)) b.2.1 b.2.2.1 b.2.2.2).bind fun a3=>(a (IntKind.wrap .i64 (f - (1:Int))) d a3.2.1 a3.2.2.1 a3.2.2.2).bind fun z=>(a (IntKind.wrap .i64 (f - (1:Int))) d z.2.2.2.2.2.1 z.2.2.2.2.2.2.1 z.2.2.2.2.2.2.2).bind fun B=>some ((7:Int),(0:Int),a3.1,([aB.mk z.1 z.2.1 z.2.2.1 z.2.2.2.1 z.2.2.2.2.1,aB.mk B.1 B.2.1 B.2.2.1 B.2.2.2.1 B.2.2.2.2.1]:List aB),([]:List aC),B.2.2.2.2.2.1,B.2.2.2.2.2.2.1,B.2.2.2.2.2.2.2)else bif decide (b.1=(6:Int))then(bS n ([([43]:List UInt8),([45]:List UInt8),([42]:List UInt8),([61,61]:List UInt8),([60]:List UInt8),([43]:List UInt8)]:List (List UInt8)) b.2.1 b.2.2.1 b.2.2.2).bind fun a4=>(a (IntKind.wrap .i64 (f - (1:Int))) d a4.2.1 a4.2.2.1 a4.2.2.2).bind fun A=>(a (IntKind.wrap .i64 (f - (1:Int))) d A.2.2.2.2.2.1 A.2.2.2.2.2.2.1 A.2.2.2.2.2.2.2).bind fun C=>some ((7:Int),(0:Int),a4.1,([aB.mk A.1 A.2.1 A.2.2.1 A.2.2.2.1 A.2.2.2.2.1,aB.mk C.1 C.2.1 C.2.2.1 C.2.2.2.1 C.2.2.2.2.1]:List aB),([]:List aC),C.2.2.2.2.2.1,C.2.2.2.2.2.2.1,C.2.2.2.2.2.2.2)else bif decide (b.1=(7:Int))then(eZ n ([(4:Int),(5:Int)]:List Int) b.2.1 b.2.2.1 b.2.2.2).bind fun a5=>(aM n (3:Int) a5.2.1 a5.2.2.1 a5.2.2.2).bind fun a6=>(loopN (mM n a f d) n (a6.1,a5.1,(0:Int),([]:List UInt8),([]:List aB),([]:List aC),a6.2.1,a6.2.2.1,a6.2.2.2)).bind fun(l0,k6,i3,i4,i5,i6,i7,c7,c8,c9)=>some (i3,i4,i5,i6,i7,c7,c8,c9)else bif decide (b.1=(8:Int))then(a (IntKind.wrap .i64 (f - (1:Int))) d b.2.1 b.2.2.1 b.2.2.2).bind fun j=>(a (IntKind.wrap .i64 (f - (1:Int))) d j.2.2.2.2.2.1 j.2.2.2.2.2.2.1 j.2.2.2.2.2.2.2).bind fun l=>some ((6:Int),(0:Int),([]:List UInt8),([aB.mk j.1 j.2.1 j.2.2.1 j.2.2.2.1 j.2.2.2.2.1,aB.mk (5:Int) (0:Int) ([]:List UInt8) ([aB.mk l.1 l.2.1 l.2.2.1 l.2.2.2.1 l.2.2.2.2.1]:List aB) ([]:List aC)]:List aB),([]:List aC),l.2.2.2.2.2.1,l.2.2.2.2.2.2.1,l.2.2.2.2.2.2.2)else bif decide (b.1=(9:Int))then(bS n ([([102]:List UInt8),([103]:List UInt8),([104]:List UInt8)]:List (List UInt8)) b.2.1 b.2.2.1 b.2.2.2).bind fun g=>bif decide (g.1=([103]:List UInt8))then(loopN (mL n a f d) n ((0:Int),(8:Int),(0:Int),g.1,([]:List aB),([]:List aC),g.2.1,g.2.2.1,g.2.2.2)).bind fun(k2,j6,g5,g6,g7,g8,g9,d0,d1,d2)=>some (g5,g6,g7,g8,g9,d0,d1,d2)else(loopN (mK n a f d) n ((0:Int),(8:Int),(0:Int),g.1,([]:List aB),([]:List aC),g.2.1,g.2.2.1,g.2.2.2)).bind fun(k3,j7,h0,h1,h2,h3,h4,d3,d4,d5)=>some (h0,h1,h2,h3,h4,d3,d4,d5)else(a (IntKind.wrap .i64 (f - (1:Int))) d b.2.1 b.2.2.1 b.2.2.2).bind fun o=>(aM n (2:Int) o.2.2.2.2.2.1 o.2.2.2.2.2.2.1 o.2.2.2.2.2.2.2).bind fun Q=>(loopN (mJ n a f d) n ((IntKind.wrap .i64 ((1:Int)+Q.1)),(9:Int),(0:Int),([]:List UInt8),([aB.mk o.1 o.2.1 o.2.2.1 o.2.2.2.1 o.2.2.2.2.1]:List aB),([]:List aC),Q.2.1,Q.2.2.1,Q.2.2.2)).bind fun(k5,j9,f0,f1,f2,f3,f4,d6,d7,d8)=>(kZ n (2:Int) d6 d7 d8).bind fun v=>bif v.1 then(a (IntKind.wrap .i64 (f - (1:Int))) d v.2.1 v.2.2.1 v.2.2.2).bind fun s=>(dG 160 f4 ([aC.mk (3:Int) (0:Int) ([95]:List UInt8) ([]:List aB) ([]:List aC) s.1 s.2.1 s.2.2.1 s.2.2.2.1 s.2.2.2.2.1]:List aC)).bind fun f6=>some (f0,f1,f2,f3,f6,s.2.2.2.2.2.1,s.2.2.2.2.2.2.1,s.2.2.2.2.2.2.2)else some (f0,f1,f2,f3,f4,v.2.1,v.2.2.1,v.2.2.2)
theorem CO{n:Nat}{M:dE}(b:qM M):qM (nE n M):=by
 intro y7 y8 y1 y2 y3 r h; unfold nE at h; refine bF Try.func70 rfl rfl<|cRs<|xAz [.int .i64 0, .int .i64 0, .str [], .sl ([].map aE), .sl ([].map aD)] rfl<|goo 4 rfl<|xC1 h (aP ·) rfl (fun x5 h=> ?_)
 refine goc 8 rfl<|cIf h rfl (fun q2 h=> ?_) (fun q2 h=> ?_)
 refine gco 2 rfl<|xC1 h (aP ·) rfl (fun x6 h=> ?_)
 refine goc 13 rfl<|cIf h rfl (fun q4 h=> ?_) (fun q4 h=> ?_)
 refine gco 3 rfl<|cW (L:=([(0:Int),(1:Int),(2:Int),(5:Int),(40:Int)]:List Int)) (f:=aR) rfl rfl rfl rfl rfl rfl rfl<|xC1 h (kF ·) rfl (fun x7 h=> ?_)
 refine xC0 h (dX ·) rfl (fun x8 h=> ?_)
 exact geo; refine gcc 5 rfl<|cIf h rfl (fun q7 h=> ?_) (fun q7 h=> ?_)
 refine gco 3 rfl<|cW (L:=([([111,107]:List UInt8),([97]:List UInt8),([115,116,111,112]:List UInt8),([116,114,117,101]:List UInt8)]:List (List UInt8))) (f:=fG) rfl rfl rfl rfl rfl rfl rfl<|xC1 h (dA ·) rfl (fun x9 h=> ?_)
 refine xC0 h (uB ·) rfl (fun y0 h=> ?_)
 exact geo; refine gcc 6 rfl<|cIf h rfl (fun w0 h=> ?_) (fun w0 h=> ?_)
 refine gco 6 rfl<|xLn rfl<|goc 2 rfl<|cIf h rfl (fun w1 h=> ?_) (fun w1 h=> ?_)
 refine gco 5 rfl<|xLn rfl<|xC1 h (aP ·) rfl (fun v0 h=> ?_)
 refine xIx h pW rfl (fun p4 h=> ?_)
 exact xLd rfl<|wBd [.int .i64 3, .int .i64 0, .str p4, .sl ([].map aE), .sl ([].map aD)] rfl rfl rfl rfl rfl rfl<|geo
 refine gco 4 rfl<|xC1 h (aP ·) rfl (fun v3 h=> ?_)
 refine xC0 h (dX ·) rfl (fun v6 h=> ?_)
 exact geo; refine gcc 5 rfl<|cIf h rfl (fun w2 h=> ?_) (fun w2 h=> ?_)
 refine gco 6 rfl<|xLn rfl<|goc 2 rfl<|cIf h rfl (fun w3 h=> ?_) (fun w3 h=> ?_)
 refine gco 5 rfl<|xLn rfl<|xC1 h (aP ·) rfl (fun v1 h=> ?_)
 refine xIx h pW rfl (fun p5 h=> ?_)
 exact xLd rfl<|wBd [.int .i64 3, .int .i64 0, .str p5, .sl ([].map aE), .sl ([].map aD)] rfl rfl rfl rfl rfl rfl<|geo
 refine gco 4 rfl<|xC1 h (aP ·) rfl (fun v4 h=> ?_)
 refine xC0 h (dX ·) rfl (fun v7 h=> ?_)
 exact geo; refine gcc 4 rfl<|cIf h rfl (fun w4 h=> ?_) (fun w4 h=> ?_)
 refine gco 4 rfl<|xLn rfl<|goc 2 rfl<|cIf h rfl (fun w5 h=> ?_) (fun w5 h=> ?_)
 refine gco 5 rfl<|xLn rfl<|xC1 h (aP ·) rfl (fun v2 h=> ?_)
 refine xIx h pW rfl (fun p6 h=> ?_)
 exact xLd rfl<|wBd [.int .i64 3, .int .i64 0, .str p6, .sl ([].map aE), .sl ([].map aD)] rfl rfl rfl rfl rfl rfl<|geo
 refine gco 4 rfl<|xC1 h (aP ·) rfl (fun v5 h=> ?_)
 refine xC0 h (dX ·) rfl (fun v8 h=> ?_)
 exact geo; refine gcc 6 rfl<|cIf h rfl (fun w6 h=> ?_) (fun w6 h=> ?_)
 refine gco 5 rfl<|cW (L:=([([43]:List UInt8),([45]:List UInt8),([42]:List UInt8),([61,61]:List UInt8),([60]:List UInt8),([43]:List UInt8)]:List (List UInt8))) (f:=fG) rfl rfl rfl rfl rfl rfl rfl<|xC1 h (dA ·) rfl (fun p1 h=> ?_)
 refine goo 4 rfl<|xC1 h (b ·) rfl (fun B h=> ?_)
 refine goo 4 rfl<|xC1 h (b ·) rfl (fun D h=> ?_)
 exact cW (L:=([aB.mk B.1 B.2.1 B.2.2.1 B.2.2.2.1 B.2.2.2.2.1,aB.mk D.1 D.2.1 D.2.2.1 D.2.2.2.1 D.2.2.2.2.1]:List aB)) (f:=aE) rfl rfl rfl rfl (by simp only[List.map,bB]<;>rfl) rfl rfl<|wBd [.int .i64 7, .int .i64 0, .str p1.1, .sl ([aB.mk B.1 B.2.1 B.2.2.1 B.2.2.2.1 B.2.2.2.2.1,aB.mk D.1 D.2.1 D.2.2.1 D.2.2.2.1 D.2.2.2.2.1].map aE), .sl ([].map aD)] rfl rfl rfl rfl rfl rfl<|geo
 refine gcc 4 rfl<|cIf h rfl (fun w7 h=> ?_) (fun w7 h=> ?_)
 refine gco 3 rfl<|cW (L:=([([43]:List UInt8),([45]:List UInt8),([42]:List UInt8),([61,61]:List UInt8),([60]:List UInt8),([43]:List UInt8)]:List (List UInt8))) (f:=fG) rfl rfl rfl rfl rfl rfl rfl<|xC1 h (dA ·) rfl (fun p2 h=> ?_)
 refine goo 4 rfl<|xC1 h (b ·) rfl (fun C h=> ?_)
 refine goo 4 rfl<|xC1 h (b ·) rfl (fun E h=> ?_)
 exact cW (L:=([aB.mk C.1 C.2.1 C.2.2.1 C.2.2.2.1 C.2.2.2.2.1,aB.mk E.1 E.2.1 E.2.2.1 E.2.2.2.1 E.2.2.2.2.1]:List aB)) (f:=aE) rfl rfl rfl rfl (by simp only[List.map,bB]<;>rfl) rfl rfl<|wBd [.int .i64 7, .int .i64 0, .str p2.1, .sl ([aB.mk C.1 C.2.1 C.2.2.1 C.2.2.2.1 C.2.2.2.2.1,aB.mk E.1 E.2.1 E.2.2.1 E.2.2.2.1 E.2.2.2.2.1].map aE), .sl ([].map aD)] rfl rfl rfl rfl rfl rfl<|geo
 refine gcc 5 rfl<|cIf h rfl (fun w8 h=> ?_) (fun w8 h=> ?_)
 refine gco 3 rfl<|cW (L:=([(4:Int),(5:Int)]:List Int)) (f:=aR) rfl rfl rfl rfl rfl rfl rfl<|xC1 h (kF ·) rfl (fun p3 h=> ?_)
 refine wBd [.int .i64 p3.1, .int .i64 0, .str [], .sl ([].map aE), .sl ([].map aD)] rfl rfl rfl rfl rfl rfl<|xAz [.int .i64 0, .int .i64 0, .str [], .sl ([].map aE), .sl ([].map aD)] rfl<|goo 6 rfl<|xC1 h (aP ·) rfl (fun v9 h=> ?_)
 refine goc 2 rfl<|cLp h [(9,9),(80,93)] [(8,8),(1000000,1000000)] (fun(n2,n4,n5,n6,n7,n8,c4,c5,c6)=>([(9,I64 n2)],[(8,[.int .i64 n4, .int .i64 n5, .str n6, .sl (n7.map aE), .sl (n8.map aD)]),(1000000,[.sl (c4.map rI_u8), .int .i64 c5, .int .i64 c6])])) (fun(n3,k3,n9,o0,o1,o2,o3,c7,c8,c9)=>(.e 1,[(9,I64 n3),(81,Bo k3)],[(8,[.int .i64 n9, .int .i64 o0, .str o1, .sl (o2.map aE), .sl (o3.map aD)]),(1000000,[.sl (c7.map rI_u8), .int .i64 c8, .int .i64 c9])])) rfl (fun st _ h=> ?_) (fun q h=> ?_)
 obtain⟨n2,n4,n5,n6,n7,n8,c4,c5,c6⟩:=st; unfold uN at h; refine gcc 6 rfl<|cIf h rfl (fun w9 h=> ?_) (fun w9 h=> ?_)
 refine gco 10 rfl<|xC1 h (b ·) rfl (fun N h=> ?_)
 refine cW (L:=([aB.mk N.1 N.2.1 N.2.2.1 N.2.2.2.1 N.2.2.2.2.1]:List aB)) (f:=aE) rfl rfl rfl rfl (by simp only[List.map,bB]<;>rfl) rfl rfl<|wAp (f:=aE) h rfl rfl rfl rfl rfl rfl rfl rfl rfl (fun a=>by rw[bE]; rfl) rfl (fun x4 h=> ?_)
 exact geo; exact gec; obtain⟨n3,k3,n9,o0,o1,o2,o3,c7,c8,c9⟩:=q; exact gec; refine gcc 5 rfl<|cIf h rfl (fun x0 h=> ?_) (fun x0 h=> ?_)
 refine gco 6 rfl<|xC1 h (b ·) rfl (fun v h=> ?_)
 refine goo 4 rfl<|xC1 h (b ·) rfl (fun d h=> ?_)
 exact cW (L:=([aB.mk d.1 d.2.1 d.2.2.1 d.2.2.2.1 d.2.2.2.2.1]:List aB)) (f:=aE) rfl rfl rfl rfl (by simp only[List.map,bB]<;>rfl) rfl rfl<|wBd [.int .i64 5, .int .i64 0, .str [], .sl ([aB.mk d.1 d.2.1 d.2.2.1 d.2.2.2.1 d.2.2.2.2.1].map aE), .sl ([].map aD)] rfl rfl rfl rfl rfl rfl<|cW (L:=([aB.mk v.1 v.2.1 v.2.2.1 v.2.2.2.1 v.2.2.2.2.1,aB.mk (5:Int) (0:Int) ([]:List UInt8) ([aB.mk d.1 d.2.1 d.2.2.1 d.2.2.2.1 d.2.2.2.2.1]:List aB) ([]:List aC)]:List aB)) (f:=aE) rfl rfl rfl rfl (by simp only[List.map,bB]<;>rfl) rfl rfl<|wBd [.int .i64 6, .int .i64 0, .str [], .sl ([aB.mk v.1 v.2.1 v.2.2.1 v.2.2.2.1 v.2.2.2.2.1,aB.mk (5:Int) (0:Int) ([]:List UInt8) ([aB.mk d.1 d.2.1 d.2.2.1 d.2.2.2.1 d.2.2.2.2.1]:List aB) ([]:List aC)].map aE), .sl ([].map aD)] rfl rfl rfl rfl rfl rfl<|geo
 refine gcc 5 rfl<|cIf h rfl (fun x1 h=> ?_) (fun x1 h=> ?_)
 refine gco 3 rfl<|cW (L:=([([102]:List UInt8),([103]:List UInt8),([104]:List UInt8)]:List (List UInt8))) (f:=fG) rfl rfl rfl rfl rfl rfl rfl<|xC1 h (dA ·) rfl (fun o4 h=> ?_)
 refine wBd [.int .i64 8, .int .i64 0, .str o4.1, .sl ([].map aE), .sl ([].map aD)] rfl rfl rfl rfl rfl rfl<|xAz [.int .i64 0, .int .i64 0, .str [], .sl ([].map aE), .sl ([].map aD)] rfl<|goc 13 rfl<|cIf h rfl (fun x2 h=> ?_) (fun x2 h=> ?_)
 refine gcc 8 rfl<|cLp h [(12,12),(120,134)] [(10,10),(1000000,1000000)] (fun(j9,k6,k7,k8,k9,l0,d0,d1,d2)=>([(12,I64 j9)],[(10,[.int .i64 k6, .int .i64 k7, .str k8, .sl (k9.map aE), .sl (l0.map aD)]),(1000000,[.sl (d0.map rI_u8), .int .i64 d1, .int .i64 d2])])) (fun(k0,e3,l1,l2,l3,l4,l5,d3,d4,d5)=>(.e 3,[(12,I64 k0),(122,Bo e3)],[(10,[.int .i64 l1, .int .i64 l2, .str l3, .sl (l4.map aE), .sl (l5.map aD)]),(1000000,[.sl (d3.map rI_u8), .int .i64 d4, .int .i64 d5])])) rfl (fun st _ h=> ?_) (fun q h=> ?_)
 obtain⟨j9,k6,k7,k8,k9,l0,d0,d1,d2⟩:=st; unfold uM at h; refine gcc 7 rfl<|cIf h rfl (fun x3 h=> ?_) (fun x3 h=> ?_)
 refine gco 10 rfl<|xC1 h (b ·) rfl (fun J h=> ?_)
 refine cW (L:=([aB.mk J.1 J.2.1 J.2.2.1 J.2.2.2.1 J.2.2.2.2.1]:List aB)) (f:=aE) rfl rfl rfl rfl (by simp only[List.map,bB]<;>rfl) rfl rfl<|wAp (f:=aE) h rfl rfl rfl rfl rfl rfl rfl rfl rfl (fun a=>by rw[bE]; rfl) rfl (fun u8 h=> ?_)
 exact geo; exact gec; obtain⟨k0,e3,l1,l2,l3,l4,l5,d3,d4,d5⟩:=q; exact gec; refine gcc 6 rfl<|cLp h [(12,12),(120,134)] [(10,10),(1000000,1000000)] (fun(k1,l6,l7,l8,l9,m0,d6,d7,d8)=>([(12,I64 k1)],[(10,[.int .i64 l6, .int .i64 l7, .str l8, .sl (l9.map aE), .sl (m0.map aD)]),(1000000,[.sl (d6.map rI_u8), .int .i64 d7, .int .i64 d8])])) (fun(k2,e4,f4,f5,f6,f7,f8,Q,R,T)=>(.e 3,[(12,I64 k2),(122,Bo e4)],[(10,[.int .i64 f4, .int .i64 f5, .str f6, .sl (f7.map aE), .sl (f8.map aD)]),(1000000,[.sl (Q.map rI_u8), .int .i64 R, .int .i64 T])])) rfl (fun st _ h=> ?_) (fun q h=> ?_)
 obtain⟨k1,l6,l7,l8,l9,m0,d6,d7,d8⟩:=st; unfold uL at h; refine gcc 7 rfl<|cIf h rfl (fun q1 h=> ?_) (fun q1 h=> ?_)
 refine gco 10 rfl<|xC1 h (b ·) rfl (fun G h=> ?_)
 refine cW (L:=([aB.mk G.1 G.2.1 G.2.2.1 G.2.2.2.1 G.2.2.2.2.1]:List aB)) (f:=aE) rfl rfl rfl rfl (by simp only[List.map,bB]<;>rfl) rfl rfl<|wAp (f:=aE) h rfl rfl rfl rfl rfl rfl rfl rfl rfl (fun a=>by rw[bE]; rfl) rfl (fun s3 h=> ?_)
 exact geo; exact gec; obtain⟨k2,e4,f4,f5,f6,f7,f8,Q,R,T⟩:=q; exact gec; refine gco 7 rfl<|xC1 h (b ·) rfl (fun j h=> ?_)
 refine cW (L:=([aB.mk j.1 j.2.1 j.2.2.1 j.2.2.2.1 j.2.2.2.2.1]:List aB)) (f:=aE) rfl rfl rfl rfl (by simp only[List.map,bB]<;>rfl) rfl rfl<|wBd [.int .i64 9, .int .i64 0, .str [], .sl ([aB.mk j.1 j.2.1 j.2.2.1 j.2.2.2.1 j.2.2.2.2.1].map aE), .sl ([].map aD)] rfl rfl rfl rfl rfl rfl<|xAz [.int .i64 0, .int .i64 0, .str [], .sl ([].map aE), .sl ([].map aD)] rfl<|goo 6 rfl<|xC1 h (aP ·) rfl (fun p7 h=> ?_)
 refine goc 3 rfl<|cLp h [(14,16),(146,168)] [(13,13),(15,16),(1000000,1000000)] (fun(e9,h9,i0,i1,i2,i3,U,V,W)=>([(14,I64 e9)],[(13,[.int .i64 h9, .int .i64 i0, .str i1, .sl (i2.map aE), .sl (i3.map aD)]),(1000000,[.sl (U.map rI_u8), .int .i64 V, .int .i64 W])])) (fun(f0,e1,i4,i5,i6,i7,i8,X,Y,Z)=>(.e 5,[(14,I64 f0),(147,Bo e1)],[(13,[.int .i64 i4, .int .i64 i5, .str i6, .sl (i7.map aE), .sl (i8.map aD)]),(1000000,[.sl (X.map rI_u8), .int .i64 Y, .int .i64 Z])])) rfl (fun st _ h=> ?_) (fun q h=> ?_)
 obtain⟨e9,h9,i0,i1,i2,i3,U,V,W⟩:=st; unfold uK at h; refine gcc 6 rfl<|cIf h rfl (fun q2 h=> ?_) (fun q2 h=> ?_)
 refine gco 5 rfl<|cW (L:=([]:List (List UInt8))) (f:=fG) rfl rfl rfl rfl rfl rfl rfl<|xAz [.sl ([].map fG)] rfl<|goo 5 rfl<|xCk h (xR ·) rfl (fun m h=> ?_)
 refine xAz [.int .i64 0, .int .i64 0, .str [], .sl ([].map aE), .sl ([].map aD)] rfl<|goo 9 rfl<|cW (L:=([]:List (List UInt8))) (f:=fG) rfl rfl rfl rfl rfl rfl rfl<|xMv rfl<|wAp (f:=fG) h rfl rfl rfl rfl rfl rfl rfl rfl rfl (fun _=>rfl) rfl (fun s6 h=> ?_)
 refine xLd rfl<|wAp (f:=fG) h rfl rfl rfl rfl rfl rfl rfl rfl rfl (fun _=>rfl) rfl (fun s8 h=> ?_)
 refine xC1 h (b ·) rfl (fun p h=> ?_)
 refine wBd [.int .i64 m.1, .int .i64 m.2.1, .str m.2.2.1, .sl (m.2.2.2.1.map aE), .sl (m.2.2.2.2.1.map aD), .int .i64 p.1, .int .i64 p.2.1, .str p.2.2.1, .sl (p.2.2.2.1.map aE), .sl (p.2.2.2.2.1.map aD)] rfl rfl rfl rfl rfl rfl<|cW (L:=([aC.mk m.1 m.2.1 m.2.2.1 m.2.2.2.1 m.2.2.2.2.1 p.1 p.2.1 p.2.2.1 p.2.2.2.1 p.2.2.2.2.1]:List aC)) (f:=aD) rfl rfl rfl rfl (by simp only[List.map,lG]<;>rfl) rfl rfl<|wAp (f:=aD) h rfl rfl rfl rfl rfl rfl rfl rfl rfl (fun a=>by rw[cM]; rfl) rfl (fun t0 h=> ?_)
 exact geo; exact gec; obtain⟨f0,e1,i4,i5,i6,i7,i8,X,Y,Z⟩:=q; refine gco 4 rfl<|xC1 h (vX ·) rfl (fun p9 h=> ?_)
 refine oNl<|cIf h rfl (fun q3 h=> ?_) (fun q3 h=> ?_)
 refine gco 3 rfl<|wBd [.int .i64 3, .int .i64 0, .str [95], .sl ([].map aE), .sl ([].map aD)] rfl rfl rfl rfl rfl rfl<|goo 4 rfl<|xC1 h (b ·) rfl (fun t h=> ?_)
 refine wBd [.int .i64 3, .int .i64 0, .str [95], .sl ([].map aE), .sl ([].map aD), .int .i64 t.1, .int .i64 t.2.1, .str t.2.2.1, .sl (t.2.2.2.1.map aE), .sl (t.2.2.2.2.1.map aD)] rfl rfl rfl rfl rfl rfl<|cW (L:=([aC.mk (3:Int) (0:Int) ([95]:List UInt8) ([]:List aB) ([]:List aC) t.1 t.2.1 t.2.2.1 t.2.2.2.1 t.2.2.2.2.1]:List aC)) (f:=aD) rfl rfl rfl rfl (by simp only[List.map,lG]<;>rfl) rfl rfl<|wAp (f:=aD) h rfl rfl rfl rfl rfl rfl rfl rfl rfl (fun a=>by rw[cM]; rfl) rfl (fun t2 h=> ?_)
 exact geo; exact gec; refine gcc 12 rfl<|cIf h rfl (fun q4 h=> ?_) (fun q4 h=> ?_)
 refine gco 3 rfl<|cW (L:=([(0:Int),(1:Int),(2:Int),(5:Int),(40:Int)]:List Int)) (f:=aR) rfl rfl rfl rfl rfl rfl rfl<|xC1 h (kF ·) rfl (fun t4 h=> ?_)
 refine xC0 h (dX ·) rfl (fun t5 h=> ?_)
 exact geo; refine gcc 5 rfl<|cIf h rfl (fun q5 h=> ?_) (fun q5 h=> ?_)
 refine gco 3 rfl<|cW (L:=([([111,107]:List UInt8),([97]:List UInt8),([115,116,111,112]:List UInt8),([116,114,117,101]:List UInt8)]:List (List UInt8))) (f:=fG) rfl rfl rfl rfl rfl rfl rfl<|xC1 h (dA ·) rfl (fun t6 h=> ?_)
 refine xC0 h (uB ·) rfl (fun t7 h=> ?_)
 exact geo; refine gcc 6 rfl<|cIf h rfl (fun q6 h=> ?_) (fun q6 h=> ?_)
 refine gco 6 rfl<|xLn rfl<|goc 2 rfl<|cIf h rfl (fun q7 h=> ?_) (fun q7 h=> ?_)
 refine gco 5 rfl<|xLn rfl<|xC1 h (aP ·) rfl (fun t8 h=> ?_)
 refine xIx h pW rfl (fun o8 h=> ?_)
 exact xLd rfl<|wBd [.int .i64 3, .int .i64 0, .str o8, .sl ([].map aE), .sl ([].map aD)] rfl rfl rfl rfl rfl rfl<|geo
 refine gco 4 rfl<|xC1 h (aP ·) rfl (fun u1 h=> ?_)
 refine xC0 h (dX ·) rfl (fun u4 h=> ?_)
 exact geo; refine gcc 5 rfl<|cIf h rfl (fun q8 h=> ?_) (fun q8 h=> ?_)
 refine gco 6 rfl<|xLn rfl<|goc 2 rfl<|cIf h rfl (fun q9 h=> ?_) (fun q9 h=> ?_)
 refine gco 5 rfl<|xLn rfl<|xC1 h (aP ·) rfl (fun t9 h=> ?_)
 refine xIx h pW rfl (fun o9 h=> ?_)
 exact xLd rfl<|wBd [.int .i64 3, .int .i64 0, .str o9, .sl ([].map aE), .sl ([].map aD)] rfl rfl rfl rfl rfl rfl<|geo
 refine gco 4 rfl<|xC1 h (aP ·) rfl (fun u2 h=> ?_)
 refine xC0 h (dX ·) rfl (fun u5 h=> ?_)
 exact geo; refine gcc 4 rfl<|cIf h rfl (fun r0 h=> ?_) (fun r0 h=> ?_)
 refine gco 4 rfl<|xLn rfl<|goc 2 rfl<|cIf h rfl (fun r1 h=> ?_) (fun r1 h=> ?_)
 refine gco 5 rfl<|xLn rfl<|xC1 h (aP ·) rfl (fun u0 h=> ?_)
 refine xIx h pW rfl (fun p0 h=> ?_)
 exact xLd rfl<|wBd [.int .i64 3, .int .i64 0, .str p0, .sl ([].map aE), .sl ([].map aD)] rfl rfl rfl rfl rfl rfl<|geo
 refine gco 4 rfl<|xC1 h (aP ·) rfl (fun u3 h=> ?_)
 refine xC0 h (dX ·) rfl (fun u6 h=> ?_)
 exact geo; refine gcc 6 rfl<|cIf h rfl (fun r2 h=> ?_) (fun r2 h=> ?_)
 refine gco 5 rfl<|cW (L:=([([43]:List UInt8),([45]:List UInt8),([42]:List UInt8),([61,61]:List UInt8),([60]:List UInt8),([43]:List UInt8)]:List (List UInt8))) (f:=fG) rfl rfl rfl rfl rfl rfl rfl<|xC1 h (dA ·) rfl (fun o5 h=> ?_)
 refine goo 4 rfl<|xC1 h (b ·) rfl (fun w h=> ?_)
 refine goo 4 rfl<|xC1 h (b ·) rfl (fun z h=> ?_)
 exact cW (L:=([aB.mk w.1 w.2.1 w.2.2.1 w.2.2.2.1 w.2.2.2.2.1,aB.mk z.1 z.2.1 z.2.2.1 z.2.2.2.1 z.2.2.2.2.1]:List aB)) (f:=aE) rfl rfl rfl rfl (by simp only[List.map,bB]<;>rfl) rfl rfl<|wBd [.int .i64 7, .int .i64 0, .str o5.1, .sl ([aB.mk w.1 w.2.1 w.2.2.1 w.2.2.2.1 w.2.2.2.2.1,aB.mk z.1 z.2.1 z.2.2.1 z.2.2.2.1 z.2.2.2.2.1].map aE), .sl ([].map aD)] rfl rfl rfl rfl rfl rfl<|geo
 refine gcc 4 rfl<|cIf h rfl (fun r3 h=> ?_) (fun r3 h=> ?_)
 refine gco 3 rfl<|cW (L:=([([43]:List UInt8),([45]:List UInt8),([42]:List UInt8),([61,61]:List UInt8),([60]:List UInt8),([43]:List UInt8)]:List (List UInt8))) (f:=fG) rfl rfl rfl rfl rfl rfl rfl<|xC1 h (dA ·) rfl (fun o6 h=> ?_)
 refine goo 4 rfl<|xC1 h (b ·) rfl (fun y h=> ?_)
 refine goo 4 rfl<|xC1 h (b ·) rfl (fun A h=> ?_)
 exact cW (L:=([aB.mk y.1 y.2.1 y.2.2.1 y.2.2.2.1 y.2.2.2.2.1,aB.mk A.1 A.2.1 A.2.2.1 A.2.2.2.1 A.2.2.2.2.1]:List aB)) (f:=aE) rfl rfl rfl rfl (by simp only[List.map,bB]<;>rfl) rfl rfl<|wBd [.int .i64 7, .int .i64 0, .str o6.1, .sl ([aB.mk y.1 y.2.1 y.2.2.1 y.2.2.2.1 y.2.2.2.2.1,aB.mk A.1 A.2.1 A.2.2.1 A.2.2.2.1 A.2.2.2.2.1].map aE), .sl ([].map aD)] rfl rfl rfl rfl rfl rfl<|geo
 refine gcc 5 rfl<|cIf h rfl (fun r4 h=> ?_) (fun r4 h=> ?_)
 refine gco 3 rfl<|cW (L:=([(4:Int),(5:Int)]:List Int)) (f:=aR) rfl rfl rfl rfl rfl rfl rfl<|xC1 h (kF ·) rfl (fun o7 h=> ?_)
 refine wBd [.int .i64 o7.1, .int .i64 0, .str [], .sl ([].map aE), .sl ([].map aD)] rfl rfl rfl rfl rfl rfl<|xAz [.int .i64 0, .int .i64 0, .str [], .sl ([].map aE), .sl ([].map aD)] rfl<|goo 6 rfl<|xC1 h (aP ·) rfl (fun u7 h=> ?_)
 refine goc 2 rfl<|cLp h [(9,9),(80,93)] [(8,8),(1000000,1000000)] (fun(k4,m1,m2,m3,m4,m5,a0,a1,a2)=>([(9,I64 k4)],[(8,[.int .i64 m1, .int .i64 m2, .str m3, .sl (m4.map aE), .sl (m5.map aD)]),(1000000,[.sl (a0.map rI_u8), .int .i64 a1, .int .i64 a2])])) (fun(k5,f3,m6,m7,m8,m9,n0,a3,a4,a5)=>(.e 1,[(9,I64 k5),(81,Bo f3)],[(8,[.int .i64 m6, .int .i64 m7, .str m8, .sl (m9.map aE), .sl (n0.map aD)]),(1000000,[.sl (a3.map rI_u8), .int .i64 a4, .int .i64 a5])])) rfl (fun st _ h=> ?_) (fun q h=> ?_)
 obtain⟨k4,m1,m2,m3,m4,m5,a0,a1,a2⟩:=st; unfold mM at h; refine gcc 6 rfl<|cIf h rfl (fun r5 h=> ?_) (fun r5 h=> ?_)
 refine gco 10 rfl<|xC1 h (b ·) rfl (fun K h=> ?_)
 refine cW (L:=([aB.mk K.1 K.2.1 K.2.2.1 K.2.2.2.1 K.2.2.2.2.1]:List aB)) (f:=aE) rfl rfl rfl rfl (by simp only[List.map,bB]<;>rfl) rfl rfl<|wAp (f:=aE) h rfl rfl rfl rfl rfl rfl rfl rfl rfl (fun a=>by rw[bE]; rfl) rfl (fun u9 h=> ?_)
 exact geo; exact gec; obtain⟨k5,f3,m6,m7,m8,m9,n0,a3,a4,a5⟩:=q; exact gec; refine gcc 5 rfl<|cIf h rfl (fun r6 h=> ?_) (fun r6 h=> ?_)
 refine gco 6 rfl<|xC1 h (b ·) rfl (fun g h=> ?_)
 refine goo 4 rfl<|xC1 h (b ·) rfl (fun c h=> ?_)
 exact cW (L:=([aB.mk c.1 c.2.1 c.2.2.1 c.2.2.2.1 c.2.2.2.2.1]:List aB)) (f:=aE) rfl rfl rfl rfl (by simp only[List.map,bB]<;>rfl) rfl rfl<|wBd [.int .i64 5, .int .i64 0, .str [], .sl ([aB.mk c.1 c.2.1 c.2.2.1 c.2.2.2.1 c.2.2.2.2.1].map aE), .sl ([].map aD)] rfl rfl rfl rfl rfl rfl<|cW (L:=([aB.mk g.1 g.2.1 g.2.2.1 g.2.2.2.1 g.2.2.2.2.1,aB.mk (5:Int) (0:Int) ([]:List UInt8) ([aB.mk c.1 c.2.1 c.2.2.1 c.2.2.2.1 c.2.2.2.2.1]:List aB) ([]:List aC)]:List aB)) (f:=aE) rfl rfl rfl rfl (by simp only[List.map,bB]<;>rfl) rfl rfl<|wBd [.int .i64 6, .int .i64 0, .str [], .sl ([aB.mk g.1 g.2.1 g.2.2.1 g.2.2.2.1 g.2.2.2.2.1,aB.mk (5:Int) (0:Int) ([]:List UInt8) ([aB.mk c.1 c.2.1 c.2.2.1 c.2.2.2.1 c.2.2.2.2.1]:List aB) ([]:List aC)].map aE), .sl ([].map aD)] rfl rfl rfl rfl rfl rfl<|geo
 refine gcc 5 rfl<|cIf h rfl (fun r7 h=> ?_) (fun r7 h=> ?_)
 refine gco 3 rfl<|cW (L:=([([102]:List UInt8),([103]:List UInt8),([104]:List UInt8)]:List (List UInt8))) (f:=fG) rfl rfl rfl rfl rfl rfl rfl<|xC1 h (dA ·) rfl (fun n1 h=> ?_)
 refine wBd [.int .i64 8, .int .i64 0, .str n1.1, .sl ([].map aE), .sl ([].map aD)] rfl rfl rfl rfl rfl rfl<|xAz [.int .i64 0, .int .i64 0, .str [], .sl ([].map aE), .sl ([].map aD)] rfl<|goc 13 rfl<|cIf h rfl (fun r8 h=> ?_) (fun r8 h=> ?_)
 refine gcc 8 rfl<|cLp h [(12,12),(120,134)] [(10,10),(1000000,1000000)] (fun(e5,f9,g0,g1,g2,g3,a6,a7,a8)=>([(12,I64 e5)],[(10,[.int .i64 f9, .int .i64 g0, .str g1, .sl (g2.map aE), .sl (g3.map aD)]),(1000000,[.sl (a6.map rI_u8), .int .i64 a7, .int .i64 a8])])) (fun(e6,d9,g4,g5,g6,g7,g8,a9,b0,b1)=>(.e 3,[(12,I64 e6),(122,Bo d9)],[(10,[.int .i64 g4, .int .i64 g5, .str g6, .sl (g7.map aE), .sl (g8.map aD)]),(1000000,[.sl (a9.map rI_u8), .int .i64 b0, .int .i64 b1])])) rfl (fun st _ h=> ?_) (fun q h=> ?_)
 obtain⟨e5,f9,g0,g1,g2,g3,a6,a7,a8⟩:=st; unfold mL at h; refine gcc 7 rfl<|cIf h rfl (fun r9 h=> ?_) (fun r9 h=> ?_)
 refine gco 10 rfl<|xC1 h (b ·) rfl (fun H h=> ?_)
 refine cW (L:=([aB.mk H.1 H.2.1 H.2.2.1 H.2.2.2.1 H.2.2.2.2.1]:List aB)) (f:=aE) rfl rfl rfl rfl (by simp only[List.map,bB]<;>rfl) rfl rfl<|wAp (f:=aE) h rfl rfl rfl rfl rfl rfl rfl rfl rfl (fun a=>by rw[bE]; rfl) rfl (fun s4 h=> ?_)
 exact geo; exact gec; obtain⟨e6,d9,g4,g5,g6,g7,g8,a9,b0,b1⟩:=q; exact gec; refine gcc 6 rfl<|cLp h [(12,12),(120,134)] [(10,10),(1000000,1000000)] (fun(e7,g9,h0,h1,h2,h3,b2,b3,b4)=>([(12,I64 e7)],[(10,[.int .i64 g9, .int .i64 h0, .str h1, .sl (h2.map aE), .sl (h3.map aD)]),(1000000,[.sl (b2.map rI_u8), .int .i64 b3, .int .i64 b4])])) (fun(e8,e0,h4,h5,h6,h7,h8,b5,b6,b7)=>(.e 3,[(12,I64 e8),(122,Bo e0)],[(10,[.int .i64 h4, .int .i64 h5, .str h6, .sl (h7.map aE), .sl (h8.map aD)]),(1000000,[.sl (b5.map rI_u8), .int .i64 b6, .int .i64 b7])])) rfl (fun st _ h=> ?_) (fun q h=> ?_)
 obtain⟨e7,g9,h0,h1,h2,h3,b2,b3,b4⟩:=st; unfold mK at h; refine gcc 7 rfl<|cIf h rfl (fun s0 h=> ?_) (fun s0 h=> ?_)
 refine gco 10 rfl<|xC1 h (b ·) rfl (fun I h=> ?_)
 refine cW (L:=([aB.mk I.1 I.2.1 I.2.2.1 I.2.2.2.1 I.2.2.2.2.1]:List aB)) (f:=aE) rfl rfl rfl rfl (by simp only[List.map,bB]<;>rfl) rfl rfl<|wAp (f:=aE) h rfl rfl rfl rfl rfl rfl rfl rfl rfl (fun a=>by rw[bE]; rfl) rfl (fun s5 h=> ?_)
 exact geo; exact gec; obtain⟨e8,e0,h4,h5,h6,h7,h8,b5,b6,b7⟩:=q; exact gec; refine gco 7 rfl<|xC1 h (b ·) rfl (fun l h=> ?_)
 refine cW (L:=([aB.mk l.1 l.2.1 l.2.2.1 l.2.2.2.1 l.2.2.2.2.1]:List aB)) (f:=aE) rfl rfl rfl rfl (by simp only[List.map,bB]<;>rfl) rfl rfl<|wBd [.int .i64 9, .int .i64 0, .str [], .sl ([aB.mk l.1 l.2.1 l.2.2.1 l.2.2.2.1 l.2.2.2.2.1].map aE), .sl ([].map aD)] rfl rfl rfl rfl rfl rfl<|xAz [.int .i64 0, .int .i64 0, .str [], .sl ([].map aE), .sl ([].map aD)] rfl<|goo 6 rfl<|xC1 h (aP ·) rfl (fun p8 h=> ?_)
 refine goc 3 rfl<|cLp h [(14,16),(146,168)] [(13,13),(15,16),(1000000,1000000)] (fun(f1,i9,j0,j1,j2,j3,b8,b9,c0)=>([(14,I64 f1)],[(13,[.int .i64 i9, .int .i64 j0, .str j1, .sl (j2.map aE), .sl (j3.map aD)]),(1000000,[.sl (b8.map rI_u8), .int .i64 b9, .int .i64 c0])])) (fun(f2,e2,j4,j5,j6,j7,j8,c1,c2,c3)=>(.e 5,[(14,I64 f2),(147,Bo e2)],[(13,[.int .i64 j4, .int .i64 j5, .str j6, .sl (j7.map aE), .sl (j8.map aD)]),(1000000,[.sl (c1.map rI_u8), .int .i64 c2, .int .i64 c3])])) rfl (fun st _ h=> ?_) (fun q h=> ?_)
 obtain⟨f1,i9,j0,j1,j2,j3,b8,b9,c0⟩:=st; unfold mJ at h; refine gcc 6 rfl<|cIf h rfl (fun s1 h=> ?_) (fun s1 h=> ?_)
 refine gco 5 rfl<|cW (L:=([]:List (List UInt8))) (f:=fG) rfl rfl rfl rfl rfl rfl rfl<|xAz [.sl ([].map fG)] rfl<|goo 5 rfl<|xCk h (xR ·) rfl (fun o h=> ?_)
 refine xAz [.int .i64 0, .int .i64 0, .str [], .sl ([].map aE), .sl ([].map aD)] rfl<|goo 9 rfl<|cW (L:=([]:List (List UInt8))) (f:=fG) rfl rfl rfl rfl rfl rfl rfl<|xMv rfl<|wAp (f:=fG) h rfl rfl rfl rfl rfl rfl rfl rfl rfl (fun _=>rfl) rfl (fun s7 h=> ?_)
 refine xLd rfl<|wAp (f:=fG) h rfl rfl rfl rfl rfl rfl rfl rfl rfl (fun _=>rfl) rfl (fun s9 h=> ?_)
 refine xC1 h (b ·) rfl (fun s h=> ?_)
 refine wBd [.int .i64 o.1, .int .i64 o.2.1, .str o.2.2.1, .sl (o.2.2.2.1.map aE), .sl (o.2.2.2.2.1.map aD), .int .i64 s.1, .int .i64 s.2.1, .str s.2.2.1, .sl (s.2.2.2.1.map aE), .sl (s.2.2.2.2.1.map aD)] rfl rfl rfl rfl rfl rfl<|cW (L:=([aC.mk o.1 o.2.1 o.2.2.1 o.2.2.2.1 o.2.2.2.2.1 s.1 s.2.1 s.2.2.1 s.2.2.2.1 s.2.2.2.2.1]:List aC)) (f:=aD) rfl rfl rfl rfl (by simp only[List.map,lG]<;>rfl) rfl rfl<|wAp (f:=aD) h rfl rfl rfl rfl rfl rfl rfl rfl rfl (fun a=>by rw[cM]; rfl) rfl (fun t1 h=> ?_)
 exact geo; exact gec; obtain⟨f2,e2,j4,j5,j6,j7,j8,c1,c2,c3⟩:=q; refine gco 4 rfl<|xC1 h (vX ·) rfl (fun q0 h=> ?_)
 refine oNl<|cIf h rfl (fun s2 h=> ?_) (fun s2 h=> ?_)
 refine gco 3 rfl<|wBd [.int .i64 3, .int .i64 0, .str [95], .sl ([].map aE), .sl ([].map aD)] rfl rfl rfl rfl rfl rfl<|goo 4 rfl<|xC1 h (b ·) rfl (fun u h=> ?_)
 refine wBd [.int .i64 3, .int .i64 0, .str [95], .sl ([].map aE), .sl ([].map aD), .int .i64 u.1, .int .i64 u.2.1, .str u.2.2.1, .sl (u.2.2.2.1.map aE), .sl (u.2.2.2.2.1.map aD)] rfl rfl rfl rfl rfl rfl<|cW (L:=([aC.mk (3:Int) (0:Int) ([95]:List UInt8) ([]:List aB) ([]:List aC) u.1 u.2.1 u.2.2.1 u.2.2.2.1 u.2.2.2.2.1]:List aC)) (f:=aD) rfl rfl rfl rfl (by simp only[List.map,lG]<;>rfl) rfl rfl<|wAp (f:=aD) h rfl rfl rfl rfl rfl rfl rfl rfl rfl (fun a=>by rw[cM]; rfl) rfl (fun t3 h=> ?_)
 exact geo; exact gec
def AC:Nat→(dE)
  | 0=>(fun _ _ _ _ _=>none)
  | n+1=>nE n (AC n)
def bU(n:Nat):dE:=AC n
theorem CW(n:Nat):qM (bU n):=by
  induction n with
  | zero=>exact(fun h=>nomatch h)
  | succ n ih=>exact CO (n:=n) ih
theorem Ed{n:Nat}:qM (bU n):=(CW n)
theorem AV(n:Nat):bU (n+1)=nE n (bU n):=rfl
abbrev Fh(p:Int→Option (Bool)):Prop:= ∀ {a:Int} {r:Bool},p a=some r→Big Try.prog τ An (.fn 99 [.one (.c (.int .u8 a))] [] (.one (.c (.bool r))) none [] none)
def lZ(n:Nat)(a:Int):Option (Bool):=
  ((aT n (IntKind.wrap .i64 a) (65:Int) (90:Int)).bind fun b=>bif b then some true else some (decide (a=(95:Int)))).bind fun c=>some c
theorem Ch{n:Nat}:Fh (lZ n):=by
 intro d r h; unfold lZ at h; refine bF Try.func99 rfl rfl<|gco 6 rfl<|oJn h [(2,9)] [] (fun a=>(.n,[(2,Bo a)],[])) (fun _ h=> ?_) (fun a h=> ?_)
 refine goo 2 rfl<|xC0 h (aV ·) rfl (fun b h=> ?_)
 refine xMv rfl<|oIf 6 h rfl (fun c h=> ?_) (fun c h=> ?_)
 exact geo; exact geo; exact gec
abbrev Fg(p:Int→Option (Bool)):Prop:= ∀ {a:Int} {r:Bool},p a=some r→Big Try.prog τ An (.fn 100 [.one (.c (.int .u8 a))] [] (.one (.c (.bool r))) none [] none)
def lY(n:Nat)(b:Int):Option (Bool):=
  (aT n (IntKind.wrap .i64 b) (97:Int) (122:Int)).bind fun a=>some a
theorem Cg{n:Nat}:Fg (lY n):=by
 intro b r h; unfold lY at h; refine bF Try.func100 rfl rfl<|gco 8 rfl<|xC0 h (aV ·) rfl (fun a h=> ?_)
 exact geo
abbrev Fi(p:Int→Option (Bool)):Prop:= ∀ {a:Int} {r:Bool},p a=some r→Big Try.prog τ An (.fn 101 [.one (.c (.int .u8 a))] [] (.one (.c (.bool r))) none [] none)
def mA(n:Nat)(b:Int):Option (Bool):=
  (aT n (IntKind.wrap .i64 b) (48:Int) (57:Int)).bind fun a=>some a
theorem Ci{n:Nat}:Fi (mA n):=by
 intro b r h; unfold mA at h; refine bF Try.func101 rfl rfl<|gco 8 rfl<|xC0 h (aV ·) rfl (fun a h=> ?_)
 exact geo
abbrev Ff(p:(List UInt8)→Option (Bool)):Prop:= ∀ {a:List UInt8} {r:Bool},p a=some r→Big Try.prog τ An (.fn 98 [.one (.c (.str a))] [] (.one (.c (.bool r))) none [] none)
def lI(n:Nat)(b:List UInt8):(Int)→Option ((Int)⊕((Bool)⊕(Int×Bool)))
  | a=>bif decide (a<(b.length:Int))then((ixs b a).bind fun l=>(lZ n l).bind fun j=>bif !j then bif decide (a=(0:Int))then some true else(ixs b a).bind fun f=>(lY n f).bind fun c=>bif !c then(ixs b a).bind fun g=>(mA n g).bind fun d=>some (!d)else some false else some false).bind fun m=>bif m then some (.inr (.inl false))else some (.inl (IntKind.wrap .i64 (a+(1:Int))))else some (.inr (.inr (a,false)))
def lX(n:Nat)(b:List UInt8):Option (Bool):=
  (loopN (lI n b) n (0:Int)).bind fun q=>(match q with | .inl c=>some c | .inr (d,f)=>(aT n (b.length:Int) (1:Int) (20:Int)).bind fun a=>some a)
theorem Ce{n:Nat}:Ff (lX n):=by
 intro z r h; unfold lX at h; refine bF Try.func98 rfl rfl<|gcc 9 rfl<|cLp h [(2,32)] [] (fun c=>([(3,I64 c)],[])) (fun q=>match q with | .inl b=>(.r,[(2,Bo b)],[]) | .inr (d,f)=>(.e 0,[(3,I64 d),(7,Bo f)],[])) rfl (fun c _ h=> ?_) (fun q h=> ?_)
 unfold lI at h; refine gco 5 rfl<|xLs rfl<|goc 2 rfl<|cIf h rfl (fun w h=> ?_) (fun w h=> ?_)
 refine gco 5 rfl<|oJn h [(10,32)] [] (fun a=>(.n,[(32,Bo a)],[])) (fun _ h=> ?_) (fun a h=> ?_)
 refine goo 2 rfl<|Nu h rfl rfl rfl rfl rfl (fun v h=> ?_)
 refine xC0 h (Ch ·) rfl (fun u h=> ?_)
 refine goo 2 rfl<|oIf 15 h rfl (fun y h=> ?_) (fun y h=> ?_)
 refine goo 3 rfl<|oIf 18 h rfl (fun p h=> ?_) (fun p h=> ?_)
 exact geo; refine goo 2 rfl<|Nu h rfl rfl rfl rfl rfl (fun m h=> ?_)
 refine xC0 h (Cg ·) rfl (fun g h=> ?_)
 refine goo 2 rfl<|oIf 24 h rfl (fun s h=> ?_) (fun s h=> ?_)
 refine goo 2 rfl<|Nu h rfl rfl rfl rfl rfl (fun o h=> ?_)
 refine xC0 h (Ci ·) rfl (fun j h=> ?_)
 exact geo; exact geo; exact geo; refine cIf h rfl (fun t h=> ?_) (fun t h=> ?_)
 exact gec; exact gec; exact gec; rcases q with b | ⟨d,f⟩; exact en; refine gco 3 rfl<|xLs rfl<|xC0 h (aV ·) rfl (fun l h=> ?_)
 exact geo
abbrev Fd(p:Int→Int→(List UInt8)→(List aB)→(List aC)→Bool→Option (Bool)):Prop:= ∀ {a b:Int} {d:List UInt8} {f:List aB} {g:List aC} {j:Bool} {r:Bool},p a b d f g j=some r→Big Try.prog τ An (.fn 93 [.one (.ag [.int .i64 a, .int .i64 b, .str d, .sl (f.map aE), .sl (g.map aD)]), .one (.c (.bool j))] [] (.one (.c (.bool r))) none [] none)
end Go.Own
