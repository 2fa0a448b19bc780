/- A part of the proof. No conditions. -/
import Derived.Test.YtloebajamceclaaDoorW40A
set_option linter.unusedVariables false
set_option linter.unusedSimpArgs false
set_option linter.unnecessarySimpa false
namespace Go.Own
open Go Go.Proofs
def cU(a:List UInt8):List T:=[.str a]
theorem mP(a:List UInt8):cU a=[.str a]:=rfl
def rI_u8(a:Int):List T:=[.int .u8 a]
theorem GP(a:Int):rI_u8 a=[.int .u8 a]:=rfl
def uS(a:Int):List T:=[.int .i64 a]
theorem JD(a:Int):uS a=[.int .i64 a]:=rfl
mutual
inductive aA where
  | mk (f0:Int) (f1:Int) (f2:List UInt8) (f3:List aA) (f4:List aB)
inductive aB where
  | two (p x:aA)
end
def aB.p:aB→aA
  | .two a _=>a
def aB.x:aB→aA
  | .two _ a=>a
def aA.f0:aA→Int
  | .mk a _ _ _ _=>a
def aA.f1:aA→Int
  | .mk _ a _ _ _=>a
def aA.f2:aA→List UInt8
  | .mk _ _ a _ _=>a
def aA.f3:aA→List aA
  | .mk _ _ _ a _=>a
def aA.f4:aA→List aB
  | .mk _ _ _ _ a=>a
def aB.f0(c:aB):Int:=aA.f0 (aB.p c)
def aB.f1(c:aB):Int:=aA.f1 (aB.p c)
def aB.f2(c:aB):List UInt8:=aA.f2 (aB.p c)
def aB.f3(c:aB):List aA:=aA.f3 (aB.p c)
def aB.f4(c:aB):List aB:=aA.f4 (aB.p c)
def aB.f5(c:aB):Int:=aA.f0 (aB.x c)
def aB.f6(c:aB):Int:=aA.f1 (aB.x c)
def aB.f7(c:aB):List UInt8:=aA.f2 (aB.x c)
def aB.f8(c:aB):List aA:=aA.f3 (aB.x c)
def aB.f9(c:aB):List aB:=aA.f4 (aB.x c)
def aB.mk(a0:Int)(a1:Int)(a2:List UInt8)(a3:List aA)(a4:List aB)(a5:Int)(a6:Int)(a7:List UInt8)(a8:List aA)(a9:List aB):aB:= .two (.mk a0 a1 a2 a3 a4) (.mk a5 a6 a7 a8 a9)
mutual
def aD:aA→List T
  | .mk a0 a1 a2 a3 a4=> [.int .i64 a0, .int .i64 a1, .str a2, .sl (jR a3), .sl (gY a4)]
def jR:List aA→List (List T)
  | []=> []
  | x::r=>aD x::jR r
def aC:aB→List T
  | .two p x=>aD p++aD x
def gY:List aB→List (List T)
  | []=> []
  | x::r=>aC x::gY r
end
theorem oC: ∀l:List aA,jR l=l.map aD
  | []=>by simp [jR]
  | x::r=>by simp [jR,oC r]
theorem mH: ∀l:List aB,gY l=l.map aC
  | []=>by simp [gY]
  | x::r=>by simp [gY,mH r]
theorem aK(a0:Int)(a1:Int)(a2:List UInt8)(a3:List aA)(a4:List aB):aD (.mk a0 a1 a2 a3 a4)=[.int .i64 a0, .int .i64 a1, .str a2, .sl (a3.map aD), .sl (a4.map aC)]:=by simp only[aD,oC,mH]
theorem aH(a:aA):aD a=[.int .i64 a.f0, .int .i64 a.f1, .str a.f2, .sl (a.f3.map aD), .sl (a.f4.map aC)]:=by
  cases a; exact aK _ _ _ _ _
theorem aJ(a:aB):aC a=[.int .i64 a.f0, .int .i64 a.f1, .str a.f2, .sl (a.f3.map aD), .sl (a.f4.map aC), .int .i64 a.f5, .int .i64 a.f6, .str a.f7, .sl (a.f8.map aD), .sl (a.f9.map aC)]:=by
  cases a with
  | two p x=>
    simp only[aC]; rw[aH p,aH x]; rfl
theorem dC(a0:Int)(a1:Int)(a2:List UInt8)(a3:List aA)(a4:List aB)(a5:Int)(a6:Int)(a7:List UInt8)(a8:List aA)(a9:List aB):aC (.mk a0 a1 a2 a3 a4 a5 a6 a7 a8 a9)=[.int .i64 a0, .int .i64 a1, .str a2, .sl (a3.map aD), .sl (a4.map aC), .int .i64 a5, .int .i64 a6, .str a7, .sl (a8.map aD), .sl (a9.map aC)]:=aJ _

abbrev BJ(p:Int→Int→Int→Option (Bool)):Prop:= ∀ {a b d:Int} {r:Bool},p a b d=some r→Big Tryd.prog τ An (.fn 87 [.one (.c (.int .i64 a)), .one (.c (.int .i64 b)), .one (.c (.int .i64 d))] [] (.one (.c (.bool r))) none [] none)
def dQ(n:Nat)(a:Int)(b:Int)(c:Int):Option (Bool):=
  (bif decide (b≤a)then some (decide (a≤c))else some false).bind fun d=>some d
theorem jC{n:Nat}:BJ (dQ n):=by
 intro c d f r h; unfold dQ at h; refine bF Tryd.func87 rfl rfl<|gco 6 rfl<|oJn h [(6,14)] [] (fun a=>(.n,[(6,Bo a)],[])) (fun _ h=> ?_) (fun a h=> ?_)
 refine goo 4 rfl<|oIf 10 h rfl (fun b h=> ?_) (fun b h=> ?_)
 exact geo; exact geo; exact gec
abbrev BI(p:Int→Option (Bool)):Prop:= ∀ {a:Int} {r:Bool},p a=some r→Big Tryd.prog τ An (.fn 99 [.one (.c (.int .u8 a))] [] (.one (.c (.bool r))) none [] none)
def gH(n:Nat)(a:Int):Option (Bool):=
  (bif decide ((65:Int)≤a)then bif decide (a≤(90:Int))then some true else some (decide (a=(95:Int)))else some (decide (a=(95:Int)))).bind fun b=>some b
theorem oY{n:Nat}:BI (gH n):=by
 intro d r h; unfold gH at h; refine bF Tryd.func99 rfl rfl<|gco 6 rfl<|oJn h [(2,12)] [] (fun a=>(.n,[(2,Bo a)],[])) (fun _ h=> ?_) (fun a h=> ?_)
 refine goo 3 rfl<|oIf 5 h rfl (fun b h=> ?_) (fun b h=> ?_)
 refine goo 4 rfl<|oIf 9 h rfl (fun c h=> ?_) (fun c h=> ?_)
 exact geo; exact geo; exact geo; exact gec
abbrev BH(p:Int→Option (Bool)):Prop:= ∀ {a:Int} {r:Bool},p a=some r→Big Tryd.prog τ An (.fn 107 [.one (.c (.int .u8 a))] [] (.one (.c (.bool r))) none [] none)
def eS(n:Nat)(a:Int):Option (Bool):=
  (bif decide ((97:Int)≤a)then some (decide (a≤(122:Int)))else some false).bind fun b=>some b
theorem oX{n:Nat}:BH (eS n):=by
 intro c r h; unfold eS at h; refine bF Tryd.func107 rfl rfl<|gco 6 rfl<|oJn h [(2,8)] [] (fun a=>(.n,[(2,Bo a)],[])) (fun _ h=> ?_) (fun a h=> ?_)
 refine goo 3 rfl<|oIf 5 h rfl (fun b h=> ?_) (fun b h=> ?_)
 exact geo; exact geo; exact gec
abbrev AU(p:Int→Option (Bool)):Prop:= ∀ {a:Int} {r:Bool},p a=some r→Big Tryd.prog τ An (.fn 108 [.one (.c (.int .u8 a))] [] (.one (.c (.bool r))) none [] none)
def dT(n:Nat)(a:Int):Option (Bool):=
  (bif decide ((48:Int)≤a)then some (decide (a≤(57:Int)))else some false).bind fun b=>some b
theorem oF{n:Nat}:AU (dT n):=by
 intro c r h; unfold dT at h; refine bF Tryd.func108 rfl rfl<|gco 6 rfl<|oJn h [(2,8)] [] (fun a=>(.n,[(2,Bo a)],[])) (fun _ h=> ?_) (fun a h=> ?_)
 refine goo 3 rfl<|oIf 5 h rfl (fun b h=> ?_) (fun b h=> ?_)
 exact geo; exact geo; exact gec
abbrev vX(p:Int→Option (Bool)):Prop:= ∀ {a:Int} {r:Bool},p a=some r→Big Tryd.prog τ An (.fn 98 [.one (.c (.int .u8 a))] [] (.one (.c (.bool r))) none [] none)
def fE(n:Nat)(a:Int):Option (Bool):=
  ((eS n a).bind fun c=>bif c then some true else(gH n a).bind fun d=>bif d then some true else(dT n a).bind fun b=>some b).bind fun f=>some f
theorem sK{n:Nat}:vX (fE n):=by
 intro j r h; unfold fE at h; refine bF Tryd.func98 rfl rfl<|gco 6 rfl<|oJn h [(2,12)] [] (fun a=>(.n,[(2,Bo a)],[])) (fun _ h=> ?_) (fun a h=> ?_)
 refine xMv rfl<|xC0 h (oX ·) rfl (fun c h=> ?_)
 refine xMv rfl<|oIf 5 h rfl (fun f h=> ?_) (fun f h=> ?_)
 exact geo; refine xMv rfl<|xC0 h (oY ·) rfl (fun d h=> ?_)
 refine goo 2 rfl<|oIf 9 h rfl (fun g h=> ?_) (fun g h=> ?_)
 exact geo; refine xMv rfl<|xC0 h (oF ·) rfl (fun b h=> ?_)
 exact geo; exact gec
abbrev Ef(p:(List UInt8)→Option (Bool)):Prop:= ∀ {a:List UInt8} {r:Bool},p a=some r→Big Tryd.prog τ An (.fn 82 [.one (.c (.str a))] [] (.one (.c (.bool r))) none [] none)
def kA(n:Nat)(b:List UInt8):(Int)→Option ((Int)⊕((Bool)⊕(Int×Bool)))
  | a=>bif decide (a<(b.length:Int))then(ixs b a).bind fun d=>(fE n d).bind fun c=>bif !c then some (.inr (.inl false))else some (.inl (IntKind.wrap .i64 (a+(1:Int))))else some (.inr (.inr (a,false)))
def kT(n:Nat)(a:List UInt8):Option (Bool):=
  (loopN (kA n a) n (0:Int)).bind fun q=>(match q with | .inl f=>some f | .inr (j,l)=>((dQ n (a.length:Int) (1:Int) (20:Int)).bind fun b=>bif b then(ixs a (0:Int)).bind fun d=>(gH n d).bind fun c=>some c else some false).bind fun g=>some g)
theorem Au{n:Nat}:Ef (kT n):=by
 intro u r h; unfold kT at h; refine bF Tryd.func82 rfl rfl<|gcc 9 rfl<|cLp h [(2,14)] [] (fun c=>([(3,I64 c)],[])) (fun q=>match q with | .inl a=>(.r,[(2,Bo a)],[]) | .inr (d,f)=>(.e 0,[(3,I64 d),(7,Bo f)],[])) rfl (fun c _ h=> ?_) (fun q h=> ?_)
 unfold kA at h; refine gco 5 rfl<|xLs rfl<|goc 2 rfl<|cIf h rfl (fun s h=> ?_) (fun s h=> ?_)
 refine gco 7 rfl<|Hm h rfl rfl rfl rfl rfl (fun p h=> ?_)
 refine xC0 h (sK ·) rfl (fun o h=> ?_)
 refine goc 2 rfl<|cIf h rfl (fun t h=> ?_) (fun t h=> ?_)
 exact gec; exact gec; exact gec; rcases q with a | ⟨d,f⟩; exact en; refine cRs<|oJn h [(2,2),(15,22)] [] (fun b=>(.n,[(2,Bo b)],[])) (fun _ h=> ?_) (fun b h=> ?_)
 refine xMv rfl<|xLs rfl<|xC0 h (jC ·) rfl (fun g h=> ?_)
 refine xMv rfl<|oIf 18 h rfl (fun m h=> ?_) (fun m h=> ?_)
 refine xMv rfl<|Hm h rfl rfl rfl rfl rfl (fun l h=> ?_)
 refine xC0 h (oY ·) rfl (fun j h=> ?_)
 exact geo; exact geo; exact gec
abbrev DG(p:(List UInt8)→Option (Bool)):Prop:= ∀ {a:List UInt8} {r:Bool},p a=some r→Big Tryd.prog τ An (.fn 100 [.one (.c (.str a))] [] (.one (.c (.bool r))) none [] none)
def jB(n:Nat)(b:List UInt8):(Int)→Option ((Int)⊕((Bool)⊕(Int×Bool)))
  | a=>bif decide (a<(b.length:Int))then((ixs b a).bind fun j=>(eS n j).bind fun g=>bif !g then bif decide (a=(0:Int))then some true else(ixs b a).bind fun d=>(dT n d).bind fun c=>bif !c then(ixs b a).bind fun f=>some (!decide (f=(95:Int)))else some false else some false).bind fun l=>bif l then some (.inr (.inl false))else some (.inl (IntKind.wrap .i64 (a+(1:Int))))else some (.inr (.inr (a,false)))
def jV(n:Nat)(b:List UInt8):Option (Bool):=
  (loopN (jB n b) n (0:Int)).bind fun q=>(match q with | .inl c=>some c | .inr (d,f)=>(dQ n (b.length:Int) (1:Int) (20:Int)).bind fun a=>some a)
theorem AP{n:Nat}:DG (jV n):=by
 intro y r h; unfold jV at h; refine bF Tryd.func100 rfl rfl<|gcc 9 rfl<|cLp h [(2,31)] [] (fun c=>([(3,I64 c)],[])) (fun q=>match q with | .inl b=>(.r,[(2,Bo b)],[]) | .inr (d,f)=>(.e 0,[(3,I64 d),(7,Bo f)],[])) rfl (fun c _ h=> ?_) (fun q h=> ?_)
 unfold jB at h; refine gco 5 rfl<|xLs rfl<|goc 2 rfl<|cIf h rfl (fun v h=> ?_) (fun v h=> ?_)
 refine gco 5 rfl<|oJn h [(10,31)] [] (fun a=>(.n,[(31,Bo a)],[])) (fun _ h=> ?_) (fun a h=> ?_)
 refine goo 2 rfl<|Hm h rfl rfl rfl rfl rfl (fun u h=> ?_)
 refine xC0 h (oX ·) rfl (fun t h=> ?_)
 refine goo 2 rfl<|oIf 15 h rfl (fun w h=> ?_) (fun w h=> ?_)
 refine goo 3 rfl<|oIf 18 h rfl (fun o h=> ?_) (fun o h=> ?_)
 exact geo; refine goo 2 rfl<|Hm h rfl rfl rfl rfl rfl (fun l h=> ?_)
 refine xC0 h (oF ·) rfl (fun g h=> ?_)
 refine goo 2 rfl<|oIf 24 h rfl (fun p h=> ?_) (fun p h=> ?_)
 refine goo 2 rfl<|Hm h rfl rfl rfl rfl rfl (fun m h=> ?_)
 exact geo; exact geo; exact geo; refine cIf h rfl (fun s h=> ?_) (fun s h=> ?_)
 exact gec; exact gec; exact gec; rcases q with b | ⟨d,f⟩; exact en; refine gco 3 rfl<|xLs rfl<|xC0 h (jC ·) rfl (fun j h=> ?_)
 exact geo
abbrev BF(p:(List UInt8)→Option (Bool)):Prop:= ∀ {a:List UInt8} {r:Bool},p a=some r→Big Tryd.prog τ An (.fn 83 [.one (.c (.str a))] [] (.one (.c (.bool r))) none [] none)
def gE(n:Nat)(a:List UInt8):Option (Bool):=
  ((jV n a).bind fun b=>bif b then bif !decide (a=([99,97,115,101]:List UInt8))then bif !decide (a=([111,102]:List UInt8))then some (!decide (a=([101,110,100]:List UInt8)))else some false else some false else some false).bind fun c=>some c
theorem oV{n:Nat}:BF (gE n):=by
 intro g r h; unfold gE at h; refine bF Tryd.func83 rfl rfl<|gco 6 rfl<|oJn h [(2,16)] [] (fun a=>(.n,[(2,Bo a)],[])) (fun _ h=> ?_) (fun a h=> ?_)
 refine xMv rfl<|xC0 h (AP ·) rfl (fun b h=> ?_)
 refine xMv rfl<|oIf 5 h rfl (fun c h=> ?_) (fun c h=> ?_)
 refine goo 4 rfl<|oIf 9 h rfl (fun d h=> ?_) (fun d h=> ?_)
 refine goo 4 rfl<|oIf 13 h rfl (fun f h=> ?_) (fun f h=> ?_)
 exact geo; exact geo; exact geo; exact geo; exact gec
abbrev Fy(p:(List UInt8)→Option (Bool)):Prop:= ∀ {a:List UInt8} {r:Bool},p a=some r→Big Tryd.prog τ An (.fn 88 [.one (.c (.str a))] [] (.one (.c (.bool r))) none [] none)
def lY(n:Nat)(a:List UInt8):Option (Bool):=
  bif decide (a=([43]:List UInt8))then some true else bif decide (a=([45]:List UInt8))then some true else bif decide (a=([42]:List UInt8))then some true else bif decide (a=([61,61]:List UInt8))then some true else bif decide (a=([60]:List UInt8))then some true else some false
theorem Cu{n:Nat}:Fy (lY n):=by
 intro g r h; unfold lY at h; refine bF Tryd.func88 rfl rfl<|gcc 16 rfl<|cIf h rfl (fun a h=> ?_) (fun a h=> ?_)
 exact gec; refine gcc 5 rfl<|cIf h rfl (fun b h=> ?_) (fun b h=> ?_)
 exact gec; refine gcc 5 rfl<|cIf h rfl (fun c h=> ?_) (fun c h=> ?_)
 exact gec; refine gcc 5 rfl<|cIf h rfl (fun d h=> ?_) (fun d h=> ?_)
 exact gec; refine gcc 4 rfl<|cIf h rfl (fun f h=> ?_) (fun f h=> ?_)
 exact gec; exact gec
abbrev BG(p:Int→Int→(List UInt8)→Int→Option (Bool)):Prop:= ∀ {a b:Int} {d:List UInt8} {f:Int} {r:Bool},p a b d f=some r→Big Tryd.prog τ An (.fn 71 [.one (.c (.int .i64 a)), .one (.c (.int .i64 b)), .one (.c (.str d)), .one (.c (.int .i64 f))] [] (.one (.c (.bool r))) none [] none)
def gG(n:Nat)(a:Int)(b:Int)(c:List UInt8)(d:Int):Option (Bool):=
  bif decide (a=(1:Int))then((dQ n b (0:Int) (1000000000000:Int)).bind fun m=>bif m then bif decide (c=([]:List UInt8))then some (decide (d=(0:Int)))else some false else some false).bind fun z=>some z else bif decide (a=(2:Int))then(bif decide (b=(0:Int))then(gE n c).bind fun o=>bif o then some (decide (d=(0:Int)))else some false else some false).bind fun A=>some A else bif decide (a=(3:Int))then(bif decide (b=(0:Int))then(kT n c).bind fun f=>bif f then some (decide (d=(0:Int)))else some false else some false).bind fun p=>some p else bif decide (a=(4:Int))then(bif decide (b=(0:Int))then bif decide (c=([]:List UInt8))then some (decide (d≤(20:Int)))else some false else some false).bind fun s=>some s else bif decide (a=(5:Int))then(bif decide (b=(0:Int))then bif decide (c=([]:List UInt8))then some (decide (d≤(20:Int)))else some false else some false).bind fun t=>some t else bif decide (a=(6:Int))then(bif decide (b=(0:Int))then bif decide (c=([]:List UInt8))then(dQ n d (2:Int) (6:Int)).bind fun g=>some g else some false else some false).bind fun u=>some u else bif decide (a=(7:Int))then(bif decide (b=(0:Int))then(lY n c).bind fun j=>bif j then some (decide (d=(2:Int)))else some false else some false).bind fun v=>some v else bif decide (a=(8:Int))then(bif decide (b=(0:Int))then(gE n c).bind fun l=>bif l then some (decide (d≤(4:Int)))else some false else some false).bind fun w=>some w else bif decide (a=(9:Int))then(bif decide (b=(0:Int))then bif decide (c=([]:List UInt8))then some (decide (d=(1:Int)))else some false else some false).bind fun y=>some y else some false
theorem oW{n:Nat}:BG (gG n):=by
 intro a2 a3 a4 a5 r h; unfold gG at h; refine bF Tryd.func71 rfl rfl<|gcc 15 rfl<|cIf h rfl (fun X h=> ?_) (fun X h=> ?_)
 refine cRs<|oJn h [(8,8),(12,21)] [] (fun l=>(.n,[(8,Bo l)],[])) (fun _ h=> ?_) (fun l h=> ?_)
 refine xMv rfl<|xC0 h (jC ·) rfl (fun V h=> ?_)
 refine xMv rfl<|oIf 14 h rfl (fun Y h=> ?_) (fun Y h=> ?_)
 refine goo 4 rfl<|oIf 18 h rfl (fun Z h=> ?_) (fun Z h=> ?_)
 exact geo; exact geo; exact geo; exact gec; refine gcc 5 rfl<|cIf h rfl (fun q6 h=> ?_) (fun q6 h=> ?_)
 refine cRs<|oJn h [(8,8),(24,33)] [] (fun m=>(.n,[(8,Bo m)],[])) (fun _ h=> ?_) (fun m h=> ?_)
 refine goo 3 rfl<|oIf 26 h rfl (fun q8 h=> ?_) (fun q8 h=> ?_)
 refine xMv rfl<|xC0 h (oV ·) rfl (fun W h=> ?_)
 refine goo 2 rfl<|oIf 30 h rfl (fun u h=> ?_) (fun u h=> ?_)
 exact geo; exact geo; exact geo; exact gec; refine gcc 5 rfl<|cIf h rfl (fun v h=> ?_) (fun v h=> ?_)
 refine cRs<|oJn h [(8,8),(36,45)] [] (fun a=>(.n,[(8,Bo a)],[])) (fun _ h=> ?_) (fun a h=> ?_)
 refine goo 3 rfl<|oIf 38 h rfl (fun w h=> ?_) (fun w h=> ?_)
 refine xMv rfl<|xC0 h (Au ·) rfl (fun o h=> ?_)
 refine goo 2 rfl<|oIf 42 h rfl (fun y h=> ?_) (fun y h=> ?_)
 exact geo; exact geo; exact geo; exact gec; refine gcc 6 rfl<|cIf h rfl (fun z h=> ?_) (fun z h=> ?_)
 refine gco 4 rfl<|oJn h [(8,8),(49,58)] [] (fun b=>(.n,[(8,Bo b)],[])) (fun _ h=> ?_) (fun b h=> ?_)
 refine goo 3 rfl<|oIf 51 h rfl (fun A h=> ?_) (fun A h=> ?_)
 refine goo 4 rfl<|oIf 55 h rfl (fun B h=> ?_) (fun B h=> ?_)
 exact geo; exact geo; exact geo; exact gec; refine gcc 4 rfl<|cIf h rfl (fun C h=> ?_) (fun C h=> ?_)
 refine cRs<|oJn h [(8,8),(49,58)] [] (fun c=>(.n,[(8,Bo c)],[])) (fun _ h=> ?_) (fun c h=> ?_)
 refine goo 3 rfl<|oIf 51 h rfl (fun D h=> ?_) (fun D h=> ?_)
 refine goo 4 rfl<|oIf 55 h rfl (fun E h=> ?_) (fun E h=> ?_)
 exact geo; exact geo; exact geo; exact gec; refine gcc 5 rfl<|cIf h rfl (fun G h=> ?_) (fun G h=> ?_)
 refine cRs<|oJn h [(8,8),(61,70)] [] (fun d=>(.n,[(8,Bo d)],[])) (fun _ h=> ?_) (fun d h=> ?_)
 refine goo 3 rfl<|oIf 63 h rfl (fun H h=> ?_) (fun H h=> ?_)
 refine goo 4 rfl<|oIf 67 h rfl (fun I h=> ?_) (fun I h=> ?_)
 refine xMv rfl<|xC0 h (jC ·) rfl (fun p h=> ?_)
 exact geo; exact geo; exact geo; exact gec; refine gcc 5 rfl<|cIf h rfl (fun J h=> ?_) (fun J h=> ?_)
 refine cRs<|oJn h [(8,8),(73,82)] [] (fun f=>(.n,[(8,Bo f)],[])) (fun _ h=> ?_) (fun f h=> ?_)
 refine goo 3 rfl<|oIf 75 h rfl (fun K h=> ?_) (fun K h=> ?_)
 refine xMv rfl<|xC0 h (Cu ·) rfl (fun s h=> ?_)
 refine goo 2 rfl<|oIf 79 h rfl (fun L h=> ?_) (fun L h=> ?_)
 exact geo; exact geo; exact geo; exact gec; refine gcc 5 rfl<|cIf h rfl (fun M h=> ?_) (fun M h=> ?_)
 refine cRs<|oJn h [(8,8),(85,94)] [] (fun g=>(.n,[(8,Bo g)],[])) (fun _ h=> ?_) (fun g h=> ?_)
 refine goo 3 rfl<|oIf 87 h rfl (fun N h=> ?_) (fun N h=> ?_)
 refine xMv rfl<|xC0 h (oV ·) rfl (fun t h=> ?_)
 refine goo 2 rfl<|oIf 91 h rfl (fun Q h=> ?_) (fun Q h=> ?_)
 exact geo; exact geo; exact geo; exact gec; refine gcc 5 rfl<|cIf h rfl (fun R h=> ?_) (fun R h=> ?_)
 refine cRs<|oJn h [(8,8),(97,106)] [] (fun j=>(.n,[(8,Bo j)],[])) (fun _ h=> ?_) (fun j h=> ?_)
 refine goo 3 rfl<|oIf 99 h rfl (fun T h=> ?_) (fun T h=> ?_)
 refine goo 4 rfl<|oIf 103 h rfl (fun U h=> ?_) (fun U h=> ?_)
 exact geo; exact geo; exact geo; exact gec; exact gec
abbrev sM(p:(List (List UInt8))→(List UInt8)→Option (Int)):Prop:= ∀ {a:List (List UInt8)} {b:List UInt8} {r:Int},p a b=some r→Big Tryd.prog τ An (.fn 102 [.one (.c (.sl (a.map cU))), .one (.c (.str b))] [] (.one (.c (.int .i64 r))) none [] none)
def dA(n:Nat)(b:List (List UInt8))(d:List UInt8):(Int)→Option ((Int)⊕((Int)⊕(Int×Bool)))
  | a=>bif decide (a<(b.length:Int))then(ix b a).bind fun c=>bif decide (d=c)then some (.inr (.inl a))else some (.inl (IntKind.wrap .i64 (a+(1:Int))))else some (.inr (.inr (a,false)))
def dX(n:Nat)(a:List (List UInt8))(b:List UInt8):Option (Int):=
  (loopN (dA n a b) n (0:Int)).bind fun q=>(match q with | .inl c=>some c | .inr (d,f)=>some ((-1):Int))
theorem qM{n:Nat}:sM (dX n):=by
 intro l m r h; unfold dX at h; refine bF Tryd.func102 rfl rfl<|gco 8 rfl<|xLn rfl<|goc 2 rfl<|cLp h [(4,5),(8,18)] [] (fun b=>([(8,I64 b)],[])) (fun q=>match q with | .inl a=>(.r,[(4,I64 a)],[]) | .inr (c,d)=>(.e 0,[(8,I64 c),(9,Bo d)],[])) rfl (fun b _ h=> ?_) (fun q h=> ?_)
 unfold dA at h; refine gcc 5 rfl<|cIf h rfl (fun g h=> ?_) (fun g h=> ?_)
 refine gco 13 rfl<|xIx h mP rfl (fun f h=> ?_)
 refine goc 3 rfl<|cIf h rfl (fun j h=> ?_) (fun j h=> ?_)
 exact gec; exact gec; exact gec; rcases q with a | ⟨c,d⟩; exact en; exact gec
abbrev pD(p:(List (List UInt8))→(List UInt8)→Option (Bool)):Prop:= ∀ {a:List (List UInt8)} {b:List UInt8} {r:Bool},p a b=some r→Big Tryd.prog τ An (.fn 89 [.one (.c (.sl (a.map cU))), .one (.c (.str b))] [] (.one (.c (.bool r))) none [] none)
def dB(n:Nat)(b:List (List UInt8))(c:List UInt8):Option (Bool):=
  (dX n b c).bind fun a=>some (decide ((0:Int)≤a))
theorem oK{n:Nat}:pD (dB n):=by
 intro b c r h; unfold dB at h; refine bF Tryd.func89 rfl rfl<|gco 8 rfl<|xC0 h (qM ·) rfl (fun a h=> ?_)
 exact geo
abbrev dO:Type:=Int→Int→(List UInt8)→(List aA)→(List aB)→Int→Int→(List (List UInt8))→Option (Bool×Int×(List (List UInt8)))
abbrev jD(p:dO):Prop:= ∀ {d f:Int} {g:List UInt8} {j:List aA} {l:List aB} {m a:Int} {b:List (List UInt8)} {r:Bool×Int×(List (List UInt8))},p d f g j l m a b=some r→Big Tryd.prog τ An (.fn 72 [.one (.ptr 1000000 0), .one (.ag [.int .i64 d, .int .i64 f, .str g, .sl (j.map aD), .sl (l.map aC)]), .one (.c (.int .i64 m))] [[.int .i64 a, .sl (b.map cU)]] (.one (.c (.bool r.1))) none [[.int .i64 r.2.1, .sl (r.2.2.map cU)]] none)
def dY(n:Nat)(f:dO)(l:Int)(j:List aA):(Int×Int×(List (List UInt8)))→Option ((Int×Int×(List (List UInt8)))⊕((Bool×Int×(List (List UInt8)))⊕(Int×Bool×Int×(List (List UInt8)))))
  | (g,c,d)=>bif decide (g<(j.length:Int))then(ix j g).bind fun b=>(f b.f0 b.f1 b.f2 b.f3 b.f4 (IntKind.wrap .i64 (l+(1:Int))) c d).bind fun a=>bif !a.1 then some (.inr (.inl (false,a.2.1,a.2.2)))else some (.inl ((IntKind.wrap .i64 (g+(1:Int))),a.2.1,a.2.2))else some (.inr (.inr (g,false,c,d)))
def cA(n:Nat)(f:dO)(l:Int)(j:List aA):(Int×Int×(List (List UInt8)))→Option ((Int×Int×(List (List UInt8)))⊕((Bool×Int×(List (List UInt8)))⊕(Int×Bool×Int×(List (List UInt8)))))
  | (g,c,d)=>bif decide (g<(j.length:Int))then(ix j g).bind fun b=>(f b.f0 b.f1 b.f2 b.f3 b.f4 (IntKind.wrap .i64 (l+(1:Int))) c d).bind fun a=>bif !a.1 then some (.inr (.inl (false,a.2.1,a.2.2)))else some (.inl ((IntKind.wrap .i64 (g+(1:Int))),a.2.1,a.2.2))else some (.inr (.inr (g,false,c,d)))
def fY(n:Nat)(a:dO)(t:Int)(E:Int)(s:List UInt8)(u:List aA)(G:List aB)(v:Int)(b:Int)(c:List (List UInt8)):Option (Bool×Int×(List (List UInt8))):=
  (bif decide ((10:Int)<v)then some true else bif decide ((300:Int)<(IntKind.wrap .i64 (b+(1:Int))))then some true else bif decide ((6:Int)<t)then some true else bif decide ((0:Int)<(G.length:Int))then some true else(gG n t E s (u.length:Int)).bind fun z=>some (!z)).bind fun A=>bif A then some (false,(IntKind.wrap .i64 (b+(1:Int))),c)else(bif decide (t=(3:Int))then some (!decide (s=([95]:List UInt8)))else some false).bind fun B=>bif B then(dB n c s).bind fun w=>bif w then some (false,(IntKind.wrap .i64 (b+(1:Int))),c)else(kG 16 c ([s]:List (List UInt8))).bind fun y=>(loopN (dY n a v u) n ((0:Int),(IntKind.wrap .i64 (b+(1:Int))),y)).bind fun q=>(match q with | .inl (C,d,f)=>some (C,d,f) | .inr (H,J,g,j)=>some (true,g,j))else(loopN (cA n a v u) n ((0:Int),(IntKind.wrap .i64 (b+(1:Int))),c)).bind fun q=>(match q with | .inl (D,l,m)=>some (D,l,m) | .inr (I,K,o,p)=>some (true,o,p))
theorem sE{n:Nat}{b:dO}(a:jD b):jD (fY n b):=by
 intro a8 a9 I b0 b1 b2 a0 a1 r h; unfold fY at h; refine bF Tryd.func72 rfl rfl<|gco 19 rfl<|oJn h [(16,48)] [] (fun D=>(.n,[(48,Bo D)],[])) (fun _ h=> ?_) (fun D h=> ?_)
 refine goo 3 rfl<|oIf 18 h rfl (fun q2 h=> ?_) (fun q2 h=> ?_)
 exact geo; refine goo 7 rfl<|oIf 25 h rfl (fun q3 h=> ?_) (fun q3 h=> ?_)
 exact geo; refine goo 5 rfl<|oIf 30 h rfl (fun q4 h=> ?_) (fun q4 h=> ?_)
 exact geo; refine goo 2 rfl<|xLn rfl<|goo 3 rfl<|oIf 36 h rfl (fun q5 h=> ?_) (fun q5 h=> ?_)
 exact geo; refine goo 8 rfl<|xLn rfl<|xC0 h (oW ·) rfl (fun Z h=> ?_)
 exact geo; refine cIf h rfl (fun q7 h=> ?_) (fun q7 h=> ?_)
 exact gec; refine gco 4 rfl<|oJn h [(49,56)] [] (fun E=>(.n,[(56,Bo E)],[])) (fun _ h=> ?_) (fun E h=> ?_)
 refine goo 4 rfl<|oIf 52 h rfl (fun q9 h=> ?_) (fun q9 h=> ?_)
 exact geo; exact geo; refine cIf h rfl (fun R h=> ?_) (fun R h=> ?_)
 refine gco 9 rfl<|xC0 h (oK ·) rfl (fun J h=> ?_)
 refine oNl<|cIf h rfl (fun T h=> ?_) (fun T h=> ?_)
 exact gec; refine gco 9 rfl<|eU (L:=([I]:List (List UInt8))) (f:=cU) rfl rfl rfl rfl rfl rfl rfl<|wAp (f:=cU) h rfl rfl rfl rfl rfl rfl rfl rfl rfl (fun _=>rfl) rfl (fun Y h=> ?_)
 refine goo 9 rfl<|xLn rfl<|goc 2 rfl<|cLp h [(6,6),(8,8),(78,88)] [(8,8),(1000000,1000000)] (fun(w,c,d)=>([(78,I64 w)],[(1000000,[.int .i64 c, .sl (d.map cU)])])) (fun q=>match q with | .inl (G,g,j)=>(.r,[(6,Bo G)],[(1000000,[.int .i64 g, .sl (j.map cU)])]) | .inr (y,B,l,m)=>(.e 0,[(78,I64 y),(79,Bo B)],[(1000000,[.int .i64 l, .sl (m.map cU)])])) rfl (fun st _ h=> ?_) (fun q h=> ?_)
 obtain⟨w,c,d⟩:=st; unfold dY at h; refine gcc 5 rfl<|cIf h rfl (fun U h=> ?_) (fun U h=> ?_)
 refine gco 5 rfl<|xIx h aH rfl (fun N h=> ?_)
 refine xLd rfl<|xAz [.int .i64 0, .int .i64 0, .str [], .sl ([].map aD), .sl ([].map aC)] rfl<|goo 8 rfl<|xC1 h (a ·) rfl (fun K h=> ?_)
 refine goc 2 rfl<|cIf h rfl (fun V h=> ?_) (fun V h=> ?_)
 exact gec; exact gec; exact gec; rcases q with⟨G,g,j⟩ | ⟨y,B,l,m⟩; exact en; exact gec; refine gco 6 rfl<|xLn rfl<|goc 2 rfl<|cLp h [(6,6),(8,8),(78,88)] [(8,8),(1000000,1000000)] (fun(z,o,p)=>([(78,I64 z)],[(1000000,[.int .i64 o, .sl (p.map cU)])])) (fun q=>match q with | .inl (H,s,t)=>(.r,[(6,Bo H)],[(1000000,[.int .i64 s, .sl (t.map cU)])]) | .inr (A,C,u,v)=>(.e 0,[(78,I64 A),(79,Bo C)],[(1000000,[.int .i64 u, .sl (v.map cU)])])) rfl (fun st _ h=> ?_) (fun q h=> ?_)
 obtain⟨z,o,p⟩:=st; unfold cA at h; refine gcc 5 rfl<|cIf h rfl (fun W h=> ?_) (fun W h=> ?_)
 refine gco 5 rfl<|xIx h aH rfl (fun Q h=> ?_)
 refine xLd rfl<|xAz [.int .i64 0, .int .i64 0, .str [], .sl ([].map aD), .sl ([].map aC)] rfl<|goo 8 rfl<|xC1 h (a ·) rfl (fun M h=> ?_)
 refine goc 2 rfl<|cIf h rfl (fun X h=> ?_) (fun X h=> ?_)
 exact gec; exact gec; exact gec; rcases q with⟨H,s,t⟩ | ⟨A,C,u,v⟩; exact en; exact gec
def oP:Nat→(dO)
  | 0=>(fun _ _ _ _ _ _ _ _=>none)
  | n+1=>fY n (oP n)
def bQ(n:Nat):dO:=oP n
theorem sH(n:Nat):jD (bQ n):=by
  induction n with
  | zero=>exact(fun h=>nomatch h)
  | succ n ih=>exact sE (n:=n) ih
theorem uM{n:Nat}:jD (bQ n):=(sH n)
theorem qJ(n:Nat):bQ (n+1)=fY n (bQ n):=rfl
abbrev dE:Type:=Int→Int→(List UInt8)→(List aA)→(List aB)→Int→Int→(List (List UInt8))→Option (Bool×Int×(List (List UInt8)))
abbrev iC(p:dE):Prop:= ∀ {d f:Int} {g:List UInt8} {j:List aA} {l:List aB} {m a:Int} {b:List (List UInt8)} {r:Bool×Int×(List (List UInt8))},p d f g j l m a b=some r→Big Tryd.prog τ An (.fn 51 [.one (.ptr 1000000 0), .one (.ag [.int .i64 d, .int .i64 f, .str g, .sl (j.map aD), .sl (l.map aC)]), .one (.c (.int .i64 m))] [[.int .i64 a, .sl (b.map cU)]] (.one (.c (.bool r.1))) none [[.int .i64 r.2.1, .sl (r.2.2.map cU)]] none)
def cW(n:Nat)(c:dE)(l:Int)(j:List aA):(Int×Int×(List (List UInt8)))→Option ((Int×Int×(List (List UInt8)))⊕((Bool×Int×(List (List UInt8)))⊕(Int×Bool×Int×(List (List UInt8)))))
  | (g,d,f)=>bif decide (g<(j.length:Int))then(ix j g).bind fun b=>(c b.f0 b.f1 b.f2 b.f3 b.f4 (IntKind.wrap .i64 (l+(1:Int))) d f).bind fun a=>bif !a.1 then some (.inr (.inl (false,a.2.1,a.2.2)))else some (.inl ((IntKind.wrap .i64 (g+(1:Int))),a.2.1,a.2.2))else some (.inr (.inr (g,false,d,f)))
def cV(n:Nat)(c:dE)(s:Int)(p:List aB):(Int×Int×(List (List UInt8)))→Option ((Int×Int×(List (List UInt8)))⊕((Bool×Int×(List (List UInt8)))⊕(Int×Bool×Int×(List (List UInt8)))))
  | (j,d,m)=>bif decide (j<(p.length:Int))then(ix p j).bind fun a=>((bQ n a.f0 a.f1 a.f2 a.f3 a.f4 (IntKind.wrap .i64 (s+(1:Int))) d ([]:List (List UInt8))).bind fun b=>bif !b.1 then some (true,b.2.1,b.2.2)else(c a.f5 a.f6 a.f7 a.f8 a.f9 (IntKind.wrap .i64 (s+(1:Int))) b.2.1 b.2.2).bind fun l=>some ((!l.1),l.2.1,l.2.2)).bind fun(o,f,g)=>bif o then some (.inr (.inl (false,f,g)))else some (.inl ((IntKind.wrap .i64 (j+(1:Int))),f,g))else some (.inr (.inr (j,false,d,m)))
def fA(n:Nat)(a:dE)(s:Int)(D:Int)(v:List UInt8)(w:List aA)(t:List aB)(u:Int)(o:Int)(p:List (List UInt8)):Option (Bool×Int×(List (List UInt8))):=
  (bif decide ((10:Int)<u)then some true else bif decide ((300:Int)<(IntKind.wrap .i64 (o+(1:Int))))then some true else(gG n s D v (w.length:Int)).bind fun y=>bif !y then some true else bif decide (s=(3:Int))then some (decide (v=([95]:List UInt8)))else some false).bind fun z=>bif z then some (false,(IntKind.wrap .i64 (o+(1:Int))),p)else(bif !((decide (s=(9:Int))) == (decide ((0:Int)<(t.length:Int))))then some true else some (decide ((6:Int)<(t.length:Int)))).bind fun A=>bif A then some (false,(IntKind.wrap .i64 (o+(1:Int))),p)else(loopN (cW n a u w) n ((0:Int),(IntKind.wrap .i64 (o+(1:Int))),p)).bind fun q=>(match q with | .inl (B,b,c)=>some (B,b,c) | .inr (E,G,d,f)=>(loopN (cV n a u t) n ((0:Int),d,f)).bind fun q=>(match q with | .inl (C,g,j)=>some (C,g,j) | .inr (H,I,l,m)=>some (true,l,m)))
theorem rA{n:Nat}{b:dE}(a:iC b):iC (fA n b):=by
 intro K a9 b0 b1 L b2 a1 a2 r h; unfold fA at h; refine bF Tryd.func51 rfl rfl<|gco 19 rfl<|oJn h [(18,49)] [] (fun G=>(.n,[(49,Bo G)],[])) (fun _ h=> ?_) (fun G h=> ?_)
 refine goo 3 rfl<|oIf 20 h rfl (fun q2 h=> ?_) (fun q2 h=> ?_)
 exact geo; refine goo 7 rfl<|oIf 27 h rfl (fun q3 h=> ?_) (fun q3 h=> ?_)
 exact geo; refine goo 8 rfl<|xLn rfl<|xC0 h (oW ·) rfl (fun a0 h=> ?_)
 refine goo 3 rfl<|oIf 40 h rfl (fun q5 h=> ?_) (fun q5 h=> ?_)
 exact geo; refine goo 4 rfl<|oIf 44 h rfl (fun q6 h=> ?_) (fun q6 h=> ?_)
 exact geo; exact geo; refine cIf h rfl (fun q7 h=> ?_) (fun q7 h=> ?_)
 exact gec; refine gco 4 rfl<|oJn h [(50,63)] [] (fun H=>(.n,[(63,Bo H)],[])) (fun _ h=> ?_) (fun H h=> ?_)
 refine goo 5 rfl<|xLn rfl<|xGt rfl<|wBi (.bool (!((decide (K=(9:Int))) == (decide ((0:Int)<(L.length:Int)))))) rfl rfl rfl rfl rfl<|xMv rfl<|oIf 58 h rfl (fun q9 h=> ?_) (fun q9 h=> ?_)
 exact geo; exact goo 2 rfl<|xLn rfl<|geo
 refine cIf h rfl (fun U h=> ?_) (fun U h=> ?_)
 exact gec; refine gco 6 rfl<|xLn rfl<|goc 2 rfl<|cLp h [(6,6),(8,8),(67,77)] [(8,8),(1000000,1000000)] (fun(z,c,d)=>([(67,I64 z)],[(1000000,[.int .i64 c, .sl (d.map cU)])])) (fun q=>match q with | .inl (I,f,g)=>(.r,[(6,Bo I)],[(1000000,[.int .i64 f, .sl (g.map cU)])]) | .inr (A,B,j,l)=>(.e 0,[(67,I64 A),(68,Bo B)],[(1000000,[.int .i64 j, .sl (l.map cU)])])) rfl (fun st _ h=> ?_) (fun q h=> ?_)
 obtain⟨z,c,d⟩:=st; unfold cW at h; refine gcc 5 rfl<|cIf h rfl (fun V h=> ?_) (fun V h=> ?_)
 refine gco 5 rfl<|xIx h aH rfl (fun R h=> ?_)
 refine xLd rfl<|xAz [.int .i64 0, .int .i64 0, .str [], .sl ([].map aD), .sl ([].map aC)] rfl<|goo 8 rfl<|xC1 h (a ·) rfl (fun N h=> ?_)
 refine goc 2 rfl<|cIf h rfl (fun W h=> ?_) (fun W h=> ?_)
 exact gec; exact gec; exact gec; rcases q with⟨I,f,g⟩ | ⟨A,B,j,l⟩; exact en; refine gco 5 rfl<|xLn rfl<|goc 2 rfl<|cLp h [(6,6),(10,10),(81,104)] [(10,10),(1000000,1000000)] (fun(C,m,o)=>([(81,I64 C)],[(1000000,[.int .i64 m, .sl (o.map cU)])])) (fun q=>match q with | .inl (J,p,s)=>(.r,[(6,Bo J)],[(1000000,[.int .i64 p, .sl (s.map cU)])]) | .inr (D,E,t,u)=>(.e 2,[(81,I64 D),(82,Bo E)],[(1000000,[.int .i64 t, .sl (u.map cU)])])) rfl (fun st _ h=> ?_) (fun q h=> ?_)
 obtain⟨C,m,o⟩:=st; unfold cV at h; refine gcc 5 rfl<|cIf h rfl (fun X h=> ?_) (fun X h=> ?_)
 refine gco 5 rfl<|xIx h aJ rfl (fun T h=> ?_)
 refine xLd rfl<|xAz [.int .i64 0, .int .i64 0, .str [], .sl ([].map aD), .sl ([].map aC), .int .i64 0, .int .i64 0, .str [], .sl ([].map aD), .sl ([].map aC)] rfl<|goo 11 rfl<|oJn h [(88,103)] [(1000000,1000000)] (fun(y,v,w)=>(.n,[(103,Bo y)],[(1000000,[.int .i64 v, .sl (w.map cU)])])) (fun _ h=> ?_) (fun q h=> ?_)
 refine goo 5 rfl<|xC1 h (uM ·) rfl (fun Q h=> ?_)
 refine goo 2 rfl<|oIf 95 h rfl (fun Y h=> ?_) (fun Y h=> ?_)
 exact geo; refine goo 5 rfl<|xC1 h (a ·) rfl (fun M h=> ?_)
 exact geo; obtain⟨y,v,w⟩:=q; refine cIf h rfl (fun Z h=> ?_) (fun Z h=> ?_)
 exact gec; exact gec; exact gec; rcases q with⟨J,p,s⟩ | ⟨D,E,t,u⟩; exact en; exact gec
def oD:Nat→(dE)
  | 0=>(fun _ _ _ _ _ _ _ _=>none)
  | n+1=>fA n (oD n)
def aZ(n:Nat):dE:=oD n
theorem rE(n:Nat):iC (aZ n):=by
  induction n with
  | zero=>exact(fun h=>nomatch h)
  | succ n ih=>exact rA (n:=n) ih
theorem sJ{n:Nat}:iC (aZ n):=(rE n)
theorem pB(n:Nat):aZ (n+1)=fA n (aZ n):=rfl
abbrev DF(p:Int→Int→(List UInt8)→(List aA)→(List aB)→Option (Bool)):Prop:= ∀ {a b:Int} {d:List UInt8} {f:List aA} {g:List aB} {r:Bool},p a b d f g=some r→Big Tryd.prog τ An (.fn 26 [.one (.ag [.int .i64 a, .int .i64 b, .str d, .sl (f.map aD), .sl (g.map aC)])] [] (.one (.c (.bool r))) none [] none)
def jU(n:Nat)(b:Int)(c:Int)(d:List UInt8)(f:List aA)(g:List aB):Option (Bool):=
  (aZ n b c d f g (1:Int) (0:Int) ([]:List (List UInt8))).bind fun a=>some a.1
theorem AO{n:Nat}:DF (jU n):=by
 intro b c d f g r h; unfold jU at h; refine bF Tryd.func26 rfl rfl<|gco 7 rfl<|xAz [.int .i64 0, .sl ([].map cU)] rfl<|goo 4 rfl<|xC1 h (sJ ·) rfl (fun a h=> ?_)
 exact geo
abbrev Aw(p:(List (List UInt8))→(List UInt8)→Option ((List UInt8))):Prop:= ∀ {a:List (List UInt8)} {b:List UInt8} {r:(List UInt8)},p a b=some r→Big Tryd.prog τ An (.fn 44 [.one (.c (.sl (a.map cU))), .one (.c (.str b))] [] (.one (.c (.str r))) none [] none)
def eQ(n:Nat)(a:List (List UInt8))(b:List UInt8):Option (List UInt8):=bif decide (a.length≤140737488355328)&&decide ((Lib.join a b).length≤140737488355328)then some (Lib.join a b)else none
set_option maxRecDepth 100000 in
theorem oU{n:Nat}:Aw (eQ n):=by
 intro a b r h; unfold eQ at h; cases hc:(decide (a.length≤140737488355328)&&decide ((Lib.join a b).length≤140737488355328))with
 | false=>rw[hc]at h; cases h
 | true=>
  rw[hc]at h; cases h; simp only[z7,z22]at hc; exact Big.lib Tryd.func44 rfl rfl (Pf hc.1 hc.2)

abbrev Ax(p:Int→Option ((List UInt8))):Prop:= ∀ {a:Int} {r:(List UInt8)},p a=some r→Big Tryd.prog τ An (.fn 52 [.one (.c (.int .i64 a))] [] (.one (.c (.str r))) none [] none)
def iL(n:Nat)(a:Int):Option (List UInt8):=bif decide (-9223372036854775808≤a)&&decide (a≤9223372036854775807)then some (Lib.itoa a)else none
set_option maxRecDepth 100000 in
theorem xN{n:Nat}:Ax (iL n):=by
 intro a r h; unfold iL at h; cases hc:(decide (-9223372036854775808≤a)&&decide (a≤9223372036854775807))with
 | false=>rw[hc]at h; cases h
 | true=>
  rw[hc]at h; cases h; simp only[z7,z22]at hc; exact Big.lib Tryd.func52 rfl rfl (Pg hc.1 hc.2)

abbrev eT:Type:=(List aA)→Option ((List UInt8))
abbrev iS(p:eT):Prop:= ∀ {a:List aA} {r:(List UInt8)},p a=some r→Big Tryd.prog τ An (.fn 53 [.one (.c (.sl (a.map aD)))] [] (.one (.c (.str r))) none [] none)
abbrev cE:Type:=Int→Int→(List UInt8)→(List aA)→(List aB)→Option ((List UInt8))
abbrev gD(p:cE):Prop:= ∀ {a b:Int} {d:List UInt8} {f:List aA} {g:List aB} {r:(List UInt8)},p a b d f g=some r→Big Tryd.prog τ An (.fn 27 [.one (.ag [.int .i64 a, .int .i64 b, .str d, .sl (f.map aD), .sl (g.map aC)])] [] (.one (.c (.str r))) none [] none)
def fD(n:Nat)(a:cE)(d:List aA):((List (List UInt8))×Int)→Option (((List (List UInt8))×Int)⊕(((List (List UInt8))×Int×Bool)))
  | (f,c)=>bif decide (c<(d.length:Int))then(ix d c).bind fun b=>(a b.f0 b.f1 b.f2 b.f3 b.f4).bind fun g=>(kG 16 f ([g]:List (List UInt8))).bind fun j=>some (.inl (j,(IntKind.wrap .i64 (c+(1:Int)))))else some (.inr (f,c,false))
def iK(n:Nat)(a:cE)(b:eT)(d:List aA):Option ((List UInt8)):=
  (loopN (fD n a d) n (([]:List (List UInt8)),(0:Int))).bind fun(f,g,j)=>(eQ n f ([44,32]:List UInt8)).bind fun c=>some c
theorem vR{n:Nat}{a:cE}(c:gD a){b:eT}(d:iS b):iS (iK n a b):=by
 intro w r h; unfold iK at h; refine bF Tryd.func53 rfl rfl<|gco 6 rfl<|wAe (Li cU []) rfl rfl rfl rfl<|goo 5 rfl<|xLn rfl<|goc 2 rfl<|cLp h [(3,3),(5,5),(8,17)] [(5,5)] (fun(g,l)=>([(3,Li cU g),(8,I64 l)],[])) (fun(j,m,o)=>(.e 0,[(3,Li cU j),(8,I64 m),(9,Bo o)],[])) rfl (fun st _ h=> ?_) (fun q h=> ?_)
 obtain⟨g,l⟩:=st; unfold fD at h; refine gcc 5 rfl<|cIf h rfl (fun v h=> ?_) (fun v h=> ?_)
 refine gco 5 rfl<|xIx h aH rfl (fun t h=> ?_)
 refine xLd rfl<|xAz [.int .i64 0, .int .i64 0, .str [], .sl ([].map aD), .sl ([].map aC)] rfl<|goo 5 rfl<|xC0 h (c ·) rfl (fun p h=> ?_)
 refine eU (L:=([p]:List (List UInt8))) (f:=cU) rfl rfl rfl rfl rfl rfl rfl<|wAp (f:=cU) h rfl rfl rfl rfl rfl rfl rfl rfl rfl (fun _=>rfl) rfl (fun u h=> ?_)
 exact geo; exact gec; obtain⟨j,m,o⟩:=q; refine gco 3 rfl<|xC0 h (oU ·) rfl (fun s h=> ?_)
 exact geo
def dZ(n:Nat)(b:cE)(l:List aB):((List (List UInt8))×Int)→Option (((List (List UInt8))×Int)⊕(((List (List UInt8))×Int×Bool)))
  | (g,c)=>bif decide (c<(l.length:Int))then(ix l c).bind fun a=>(b a.f0 a.f1 a.f2 a.f3 a.f4).bind fun d=>(ck (decide (d.length+([32,45,62,32]:List UInt8).length≤9223372036854775807))).bind fun _=>(b a.f5 a.f6 a.f7 a.f8 a.f9).bind fun f=>(ck (decide ((d++([32,45,62,32]:List UInt8)).length+f.length≤9223372036854775807))).bind fun _=>(kG 16 g ([((d++([32,45,62,32]:List UInt8))++f)]:List (List UInt8))).bind fun j=>some (.inl (j,(IntKind.wrap .i64 (c+(1:Int)))))else some (.inr (g,c,false))
def fZ(n:Nat)(a:cE)(b:eT)(s:Int)(D:Int)(d:List UInt8)(f:List aA)(E:List aB):Option ((List UInt8)):=
  bif decide (s=(1:Int))then(iL n D).bind fun B=>some B else bif decide (s=(2:Int))then some d else bif decide (s=(3:Int))then some d else bif decide (s=(4:Int))then(b f).bind fun z=>(ck (decide (([123]:List UInt8).length+z.length≤9223372036854775807))).bind fun _=>(ck (decide ((([123]:List UInt8)++z).length+([125]:List UInt8).length≤9223372036854775807))).bind fun _=>some ((([123]:List UInt8)++z)++([125]:List UInt8))else bif decide (s=(5:Int))then(b f).bind fun u=>(ck (decide (([91]:List UInt8).length+u.length≤9223372036854775807))).bind fun _=>(ck (decide ((([91]:List UInt8)++u).length+([93]:List UInt8).length≤9223372036854775807))).bind fun _=>some ((([91]:List UInt8)++u)++([93]:List UInt8))else bif decide (s=(6:Int))then(sub f none (some (IntKind.wrap .i64 ((f.length:Int) - (1:Int))))).bind fun A=>(b A).bind fun l=>(ck (decide (([91]:List UInt8).length+l.length≤9223372036854775807))).bind fun _=>(ck (decide ((([91]:List UInt8)++l).length+([32,124,32]:List UInt8).length≤9223372036854775807))).bind fun _=>(ix f (IntKind.wrap .i64 ((f.length:Int) - (1:Int)))).bind fun m=>(a m.f0 m.f1 m.f2 m.f3 m.f4).bind fun v=>(ck (decide (((([91]:List UInt8)++l)++([32,124,32]:List UInt8)).length+v.length≤9223372036854775807))).bind fun _=>(ck (decide ((((([91]:List UInt8)++l)++([32,124,32]:List UInt8))++v).length+([93]:List UInt8).length≤9223372036854775807))).bind fun _=>some ((((([91]:List UInt8)++l)++([32,124,32]:List UInt8))++v)++([93]:List UInt8))else bif decide (s=(7:Int))then(ix f (0:Int)).bind fun o=>(a o.f0 o.f1 o.f2 o.f3 o.f4).bind fun c=>(ck (decide (([40]:List UInt8).length+c.length≤9223372036854775807))).bind fun _=>(ck (decide ((([40]:List UInt8)++c).length+([32]:List UInt8).length≤9223372036854775807))).bind fun _=>(ck (decide (((([40]:List UInt8)++c)++([32]:List UInt8)).length+d.length≤9223372036854775807))).bind fun _=>(ck (decide ((((([40]:List UInt8)++c)++([32]:List UInt8))++d).length+([32]:List UInt8).length≤9223372036854775807))).bind fun _=>(ix f (1:Int)).bind fun p=>(a p.f0 p.f1 p.f2 p.f3 p.f4).bind fun w=>(ck (decide (((((([40]:List UInt8)++c)++([32]:List UInt8))++d)++([32]:List UInt8)).length+w.length≤9223372036854775807))).bind fun _=>(ck (decide ((((((([40]:List UInt8)++c)++([32]:List UInt8))++d)++([32]:List UInt8))++w).length+([41]:List UInt8).length≤9223372036854775807))).bind fun _=>some ((((((([40]:List UInt8)++c)++([32]:List UInt8))++d)++([32]:List UInt8))++w)++([41]:List UInt8))else bif decide (s=(8:Int))then(ck (decide (d.length+([40]:List UInt8).length≤9223372036854775807))).bind fun _=>(b f).bind fun y=>(ck (decide ((d++([40]:List UInt8)).length+y.length≤9223372036854775807))).bind fun _=>(ck (decide (((d++([40]:List UInt8))++y).length+([41]:List UInt8).length≤9223372036854775807))).bind fun _=>some (((d++([40]:List UInt8))++y)++([41]:List UInt8))else(loopN (dZ n a E) n (([]:List (List UInt8)),(0:Int))).bind fun(C,G,H)=>(ix f (0:Int)).bind fun j=>(a j.f0 j.f1 j.f2 j.f3 j.f4).bind fun g=>(ck (decide (([99,97,115,101,32]:List UInt8).length+g.length≤9223372036854775807))).bind fun _=>(ck (decide ((([99,97,115,101,32]:List UInt8)++g).length+([32,111,102,32]:List UInt8).length≤9223372036854775807))).bind fun _=>(eQ n C ([59,32]:List UInt8)).bind fun t=>(ck (decide (((([99,97,115,101,32]:List UInt8)++g)++([32,111,102,32]:List UInt8)).length+t.length≤9223372036854775807))).bind fun _=>(ck (decide ((((([99,97,115,101,32]:List UInt8)++g)++([32,111,102,32]:List UInt8))++t).length+([32,101,110,100]:List UInt8).length≤9223372036854775807))).bind fun _=>some ((((([99,97,115,101,32]:List UInt8)++g)++([32,111,102,32]:List UInt8))++t)++([32,101,110,100]:List UInt8))
theorem sF{n:Nat}{d:cE}(b:gD d){g:eT}(c:iS g):gD (fZ n d g):=by
 intro c3 c4 c5 c6 c7 r h; unfold fZ at h; refine bF Tryd.func27 rfl rfl<|gcc 17 rfl<|cIf h rfl (fun q1 h=> ?_) (fun q1 h=> ?_)
 refine gco 4 rfl<|xC0 h (xN ·) rfl (fun b6 h=> ?_)
 exact geo; refine gcc 6 rfl<|cIf h rfl (fun q3 h=> ?_) (fun q3 h=> ?_)
 exact gec; refine gcc 4 rfl<|cIf h rfl (fun q4 h=> ?_) (fun q4 h=> ?_)
 exact gec; refine gcc 5 rfl<|cIf h rfl (fun q5 h=> ?_) (fun q5 h=> ?_)
 refine gco 4 rfl<|xC0 h (c ·) rfl (fun b7 h=> ?_)
 refine oCk h (fun V h=> ?_)
 refine sC V rfl rfl rfl rfl<|oCk h (fun W h=> ?_)
 exact sC W rfl rfl rfl rfl<|geo
 refine gcc 5 rfl<|cIf h rfl (fun q9 h=> ?_) (fun q9 h=> ?_)
 refine gco 4 rfl<|xC0 h (c ·) rfl (fun a1 h=> ?_)
 refine oCk h (fun z h=> ?_)
 refine sC z rfl rfl rfl rfl<|oCk h (fun A h=> ?_)
 exact sC A rfl rfl rfl rfl<|geo
 refine gcc 5 rfl<|cIf h rfl (fun b1 h=> ?_) (fun b1 h=> ?_)
 refine gco 4 rfl<|xLn rfl<|goo 8 rfl<|wSl (rf:=aD) h rfl rfl rfl rfl .no (.so rfl) (fun a=>by rw[aH]; rfl) rfl (fun b5 h=> ?_)
 refine xC0 h (c ·) rfl (fun a2 h=> ?_)
 refine oCk h (fun B h=> ?_)
 refine sC B rfl rfl rfl rfl<|oCk h (fun C h=> ?_)
 refine sC C rfl rfl rfl rfl<|goo 3 rfl<|xIx h aH rfl (fun a7 h=> ?_)
 refine xLd rfl<|xC0 h (b ·) rfl (fun a3 h=> ?_)
 refine oCk h (fun D h=> ?_)
 refine sC D rfl rfl rfl rfl<|oCk h (fun E h=> ?_)
 exact sC E rfl rfl rfl rfl<|geo
 refine gcc 5 rfl<|cIf h rfl (fun b2 h=> ?_) (fun b2 h=> ?_)
 refine gco 4 rfl<|xIx h aH rfl (fun a8 h=> ?_)
 refine xLd rfl<|xC0 h (b ·) rfl (fun a4 h=> ?_)
 refine oCk h (fun G h=> ?_)
 refine sC G rfl rfl rfl rfl<|oCk h (fun H h=> ?_)
 refine sC H rfl rfl rfl rfl<|goo 2 rfl<|oCk h (fun I h=> ?_)
 refine sC I rfl rfl rfl rfl<|oCk h (fun J h=> ?_)
 refine sC J rfl rfl rfl rfl<|goo 2 rfl<|xIx h aH rfl (fun a9 h=> ?_)
 refine xLd rfl<|xC0 h (b ·) rfl (fun a5 h=> ?_)
 refine oCk h (fun K h=> ?_)
 refine sC K rfl rfl rfl rfl<|oCk h (fun M h=> ?_)
 exact sC M rfl rfl rfl rfl<|geo
 refine gcc 5 rfl<|cIf h rfl (fun b3 h=> ?_) (fun b3 h=> ?_)
 refine gco 4 rfl<|oCk h (fun N h=> ?_)
 refine sC N rfl rfl rfl rfl<|goo 2 rfl<|xC0 h (c ·) rfl (fun a6 h=> ?_)
 refine oCk h (fun Q h=> ?_)
 refine sC Q rfl rfl rfl rfl<|oCk h (fun R h=> ?_)
 exact sC R rfl rfl rfl rfl<|geo
 refine gco 3 rfl<|wAe (Li cU []) rfl rfl rfl rfl<|goo 6 rfl<|xLn rfl<|goc 2 rfl<|cLp h [(4,4),(6,6),(87,102)] [(6,6)] (fun(o,j)=>([(4,Li cU o),(87,I64 j)],[])) (fun(p,l,m)=>(.e 1,[(4,Li cU p),(87,I64 l),(88,Bo m)],[])) rfl (fun st _ h=> ?_) (fun q h=> ?_)
 obtain⟨o,j⟩:=st; unfold dZ at h; refine gcc 5 rfl<|cIf h rfl (fun b4 h=> ?_) (fun b4 h=> ?_)
 refine gco 5 rfl<|xIx h aJ rfl (fun b0 h=> ?_)
 refine xLd rfl<|xAz [.int .i64 0, .int .i64 0, .str [], .sl ([].map aD), .sl ([].map aC), .int .i64 0, .int .i64 0, .str [], .sl ([].map aD), .sl ([].map aC)] rfl<|goo 6 rfl<|xC0 h (b ·) rfl (fun w h=> ?_)
 refine oCk h (fun T h=> ?_)
 refine sC T rfl rfl rfl rfl<|goo 2 rfl<|xC0 h (b ·) rfl (fun y h=> ?_)
 refine oCk h (fun U h=> ?_)
 refine sC U rfl rfl rfl rfl<|eU (L:=([((w++([32,45,62,32]:List UInt8))++y)]:List (List UInt8))) (f:=cU) rfl rfl rfl rfl rfl rfl rfl<|wAp (f:=cU) h rfl rfl rfl rfl rfl rfl rfl rfl rfl (fun _=>rfl) rfl (fun a0 h=> ?_)
 exact geo; exact gec; obtain⟨p,l,m⟩:=q; refine gco 4 rfl<|xIx h aH rfl (fun Z h=> ?_)
 refine xLd rfl<|xC0 h (b ·) rfl (fun X h=> ?_)
 refine oCk h (fun s h=> ?_)
 refine sC s rfl rfl rfl rfl<|oCk h (fun t h=> ?_)
 refine sC t rfl rfl rfl rfl<|xMv rfl<|xC0 h (oU ·) rfl (fun Y h=> ?_)
 refine oCk h (fun u h=> ?_)
 refine sC u rfl rfl rfl rfl<|oCk h (fun v h=> ?_)
 exact sC v rfl rfl rfl rfl<|geo
def eH:Nat→(cE)×(eT)
  | 0=>((fun _ _ _ _ _=>none),(fun _=>none))
  | n+1=>(fZ n ((eH n).1) ((eH n).2),iK n ((eH n).1) ((eH n).2))
def bJ(n:Nat):cE:=(eH n).1
def gF(n:Nat):eT:=(eH n).2
theorem mI(n:Nat):gD (bJ n)∧iS (gF n):=by
  induction n with
  | zero=>exact⟨(fun h=>nomatch h),(fun h=>nomatch h)⟩
  | succ n ih=>exact⟨sF (n:=n) (ih.1) (ih.2),vR (n:=n) (ih.1) (ih.2)⟩
theorem uN{n:Nat}:gD (bJ n):=(mI n).1
theorem IJ{n:Nat}:iS (gF n):=(mI n).2
theorem qK(n:Nat):bJ (n+1)=fZ n (bJ n) (gF n):=rfl
theorem sG(n:Nat):gF (n+1)=iK n (bJ n) (gF n):=rfl
abbrev AV(p:Int→Int→(List UInt8)→(List aA)→(List aB)→Option ((List UInt8))):Prop:= ∀ {a b:Int} {d:List UInt8} {f:List aA} {g:List aB} {r:(List UInt8)},p a b d f g=some r→Big Tryd.prog τ An (.fn 9 [.one (.ag [.int .i64 a, .int .i64 b, .str d, .sl (f.map aD), .sl (g.map aC)])] [] (.one (.c (.str r))) none [] none)
def dJ(n:Nat)(a:Int)(b:Int)(c:List UInt8)(d:List aA)(f:List aB):Option ((List UInt8)):=
  (jU n a b c d f).bind fun g=>bif !g then some ([]:List UInt8)else(bJ n a b c d f).bind fun j=>some j
theorem oG{n:Nat}:AV (dJ n):=by
 intro d f g j l r h; unfold dJ at h; refine bF Tryd.func9 rfl rfl<|gco 9 rfl<|xC0 h (AO ·) rfl (fun a h=> ?_)
 refine goc 2 rfl<|cIf h rfl (fun c h=> ?_) (fun c h=> ?_)
 exact gec; refine gco 4 rfl<|xC0 h (uN ·) rfl (fun b h=> ?_)
 exact geo
abbrev HW(p:(List Int)→Option (Bool)):Prop:= ∀ {a:List Int} {r:Bool},p a=some r→Big Tryd.prog τ An (.fn 11 [.one (.c (.sl (a.map rI_u8)))] [] (.one (.c (.bool r))) none [] none)
def qC(n:Nat)(a:List Int):Option (Bool):=
  some (decide ((1048576:Int)<(a.length:Int)))
theorem EX{n:Nat}:HW (qC n):=by
 intro a r h; unfold qC at h; exact bF Tryd.func11 rfl rfl<|gco 7 rfl<|xLn rfl<|geo
abbrev Ed(p:(List Int)→Option ((List Int)×Int×Int)):Prop:= ∀ {a:List Int} {r:(List Int)×Int×Int},p a=some r→Big Tryd.prog τ An (.fn 30 [.one (.c (.sl (a.map rI_u8)))] [] (.one (.ptr 0 0)) none [] (some [.sl (r.1.map rI_u8), .int .i64 r.2.1, .int .i64 r.2.2]))
def mC(n:Nat)(b:List Int):(Int×Int)→Option ((Int×Int)⊕((Int×Int×Bool)))
  | (c,a)=>(bif decide (a<(b.length:Int))then some (decide (a<(4000:Int)))else some false).bind fun f=>bif f then(ix b a).bind fun d=>some (.inl ((bits .and .i64 (IntKind.wrap .i64 ((IntKind.wrap .i64 ((IntKind.wrap .i64 (c*(137:Int)))+(IntKind.wrap .i64 d)))+(11:Int))) (1073741823:Int)),(IntKind.wrap .i64 (a+(1:Int)))))else some (.inr (c,a,false))
def kR(n:Nat)(a:List Int):Option ((List Int)×Int×Int):=
  (loopN (mC n a) n ((IntKind.wrap .i64 ((375375:Int)+(a.length:Int))),(0:Int))).bind fun(b,d,c)=>some (a,(0:Int),b)
theorem At{n:Nat}:Ed (kR n):=by
 intro l r h; unfold kR at h; refine bF Tryd.func30 rfl rfl<|gco 7 rfl<|xLn rfl<|goc 8 rfl<|cLp h [(3,4),(8,27)] [] (fun(a,f)=>([(3,I64 a),(4,I64 f)],[])) (fun(b,g,c)=>(.e 0,[(3,I64 b),(4,I64 g),(15,Bo c)],[])) rfl (fun st _ h=> ?_) (fun q h=> ?_)
 obtain⟨a,f⟩:=st; unfold mC at h; refine gco 3 rfl<|oJn h [(8,15)] [] (fun d=>(.n,[(15,Bo d)],[])) (fun _ h=> ?_) (fun d h=> ?_)
 refine goo 2 rfl<|xLn rfl<|goo 2 rfl<|oIf 12 h rfl (fun m h=> ?_) (fun m h=> ?_)
 exact geo; exact geo; refine cIf h rfl (fun o h=> ?_) (fun o h=> ?_)
 refine gco 8 rfl<|xIx h GP rfl (fun j h=> ?_)
 exact goo 4 rfl<|wBi (.int .i64 (bits .and .i64 (IntKind.wrap .i64 ((IntKind.wrap .i64 ((IntKind.wrap .i64 (a*(137:Int)))+(IntKind.wrap .i64 j)))+(11:Int))) (1073741823:Int))) rfl rfl rfl rfl rfl<|geo
 exact gec; obtain⟨b,g,c⟩:=q; exact gco 4 rfl<|wBd [.sl (l.map rI_u8), .int .i64 0, .int .i64 b] rfl rfl rfl rfl rfl rfl<|geo
abbrev DB(p:(List Int)→Int→Int→Option (Int×(List Int)×Int×Int)):Prop:= ∀ {a:List Int} {b d:Int} {r:Int×(List Int)×Int×Int},p a b d=some r→Big Tryd.prog τ An (.fn 57 [.one (.ptr 1000000 0)] [[.sl (a.map rI_u8), .int .i64 b, .int .i64 d]] (.one (.c (.int .i64 r.1))) none [[.sl (r.2.1.map rI_u8), .int .i64 r.2.2.1, .int .i64 r.2.2.2]] none)
def eI(n:Nat)(b:List Int)(c:Int)(a:Int):Option (Int×(List Int)×Int×Int):=
  bif decide (c<(b.length:Int))then(ix b c).bind fun d=>some ((bits .and .i64 (IntKind.wrap .i64 ((bits .and .i64 (bits .xor .i64 (Int.fdiv (IntKind.wrap .i64 ((IntKind.wrap .i64 (a*(6364136223846793005:Int)))+(1442695040888963407:Int))) (2 ^ 33)) (Int.fdiv (IntKind.wrap .i64 ((IntKind.wrap .i64 (a*(6364136223846793005:Int)))+(1442695040888963407:Int))) (2 ^ 47))) (255:Int))+(IntKind.wrap .i64 d))) (255:Int)),b,(IntKind.wrap .i64 (c+(1:Int))),(IntKind.wrap .i64 ((IntKind.wrap .i64 (a*(6364136223846793005:Int)))+(1442695040888963407:Int))))else some ((bits .and .i64 (bits .xor .i64 (Int.fdiv (IntKind.wrap .i64 ((IntKind.wrap .i64 (a*(6364136223846793005:Int)))+(1442695040888963407:Int))) (2 ^ 33)) (Int.fdiv (IntKind.wrap .i64 ((IntKind.wrap .i64 (a*(6364136223846793005:Int)))+(1442695040888963407:Int))) (2 ^ 47))) (255:Int)),b,c,(IntKind.wrap .i64 ((IntKind.wrap .i64 (a*(6364136223846793005:Int)))+(1442695040888963407:Int))))
theorem kB{n:Nat}:DB (eI n):=by
 intro c d a r h; unfold eI at h; refine bF Tryd.func57 rfl rfl<|gco 23 rfl<|wBi (.int .i64 (Int.fdiv (IntKind.wrap .i64 ((IntKind.wrap .i64 (a*(6364136223846793005:Int)))+(1442695040888963407:Int))) (2 ^ 33))) rfl rfl rfl rfl rfl<|goo 4 rfl<|wBi (.int .i64 (Int.fdiv (IntKind.wrap .i64 ((IntKind.wrap .i64 (a*(6364136223846793005:Int)))+(1442695040888963407:Int))) (2 ^ 47))) rfl rfl rfl rfl rfl<|wBi (.int .i64 (bits .xor .i64 (Int.fdiv (IntKind.wrap .i64 ((IntKind.wrap .i64 (a*(6364136223846793005:Int)))+(1442695040888963407:Int))) (2 ^ 33)) (Int.fdiv (IntKind.wrap .i64 ((IntKind.wrap .i64 (a*(6364136223846793005:Int)))+(1442695040888963407:Int))) (2 ^ 47)))) rfl rfl rfl rfl rfl<|wBi (.int .i64 (bits .and .i64 (bits .xor .i64 (Int.fdiv (IntKind.wrap .i64 ((IntKind.wrap .i64 (a*(6364136223846793005:Int)))+(1442695040888963407:Int))) (2 ^ 33)) (Int.fdiv (IntKind.wrap .i64 ((IntKind.wrap .i64 (a*(6364136223846793005:Int)))+(1442695040888963407:Int))) (2 ^ 47))) (255:Int))) rfl rfl rfl rfl rfl<|goo 13 rfl<|xLn rfl<|goc 2 rfl<|cIf h rfl (fun f h=> ?_) (fun f h=> ?_)
 refine gco 11 rfl<|xIx h GP rfl (fun b h=> ?_)
 exact goo 3 rfl<|wBi (.int .i64 (bits .and .i64 (IntKind.wrap .i64 ((bits .and .i64 (bits .xor .i64 (Int.fdiv (IntKind.wrap .i64 ((IntKind.wrap .i64 (a*(6364136223846793005:Int)))+(1442695040888963407:Int))) (2 ^ 33)) (Int.fdiv (IntKind.wrap .i64 ((IntKind.wrap .i64 (a*(6364136223846793005:Int)))+(1442695040888963407:Int))) (2 ^ 47))) (255:Int))+(IntKind.wrap .i64 b))) (255:Int))) rfl rfl rfl rfl rfl<|geo
 exact gec
abbrev BE(p:Int→(List Int)→Int→Int→Option (Int×(List Int)×Int×Int)):Prop:= ∀ {f:Int} {a:List Int} {b d:Int} {r:Int×(List Int)×Int×Int},p f a b d=some r→Big Tryd.prog τ An (.fn 32 [.one (.ptr 1000000 0), .one (.c (.int .i64 f))] [[.sl (a.map rI_u8), .int .i64 b, .int .i64 d]] (.one (.c (.int .i64 r.1))) none [[.sl (r.2.1.map rI_u8), .int .i64 r.2.2.1, .int .i64 r.2.2.2]] none)
def aG(n:Nat)(a:Int)(g:List Int)(j:Int)(l:Int):Option (Int×(List Int)×Int×Int):=
  bif decide (a≤(0:Int))then some ((0:Int),g,j,l)else bif decide (a≤(256:Int))then(eI n g j l).bind fun b=>(ck (!decide (a=0))).bind fun _=>some ((Int.tmod b.1 a),b.2.1,b.2.2.1,b.2.2.2)else(eI n g j l).bind fun c=>(eI n c.2.1 c.2.2.1 c.2.2.2).bind fun d=>(eI n d.2.1 d.2.2.1 d.2.2.2).bind fun f=>(ck (!decide (a=0))).bind fun _=>some ((Int.tmod (IntKind.wrap .i64 ((IntKind.wrap .i64 ((IntKind.wrap .i64 (c.1*(65536:Int)))+(IntKind.wrap .i64 (d.1*(256:Int)))))+f.1)) a),f.2.1,f.2.2.1,f.2.2.2)
theorem aI{n:Nat}:BE (aG n):=by
 intro s j l m r h; unfold aG at h; refine bF Tryd.func32 rfl rfl<|gcc 10 rfl<|cIf h rfl (fun o h=> ?_) (fun o h=> ?_)
 exact gec; refine gcc 7 rfl<|cIf h rfl (fun p h=> ?_) (fun p h=> ?_)
 refine gco 3 rfl<|xC1 h (kB ·) rfl (fun c h=> ?_)
 refine xMv rfl<|oCk h (fun a h=> ?_)
 exact wRem a rfl rfl rfl rfl<|geo
 refine gco 4 rfl<|xC1 h (kB ·) rfl (fun d h=> ?_)
 refine goo 5 rfl<|xC1 h (kB ·) rfl (fun f h=> ?_)
 refine goo 5 rfl<|xC1 h (kB ·) rfl (fun g h=> ?_)
 refine goo 12 rfl<|oCk h (fun b h=> ?_)
 exact wRem b rfl rfl rfl rfl<|geo
abbrev fP:Type:=Int→Int→(List UInt8)→(List aA)→(List aB)→Option (Int×Int×(List UInt8)×(List aA)×(List aB))
abbrev lP(p:fP):Prop:= ∀ {a b:Int} {c:List UInt8} {d:List aA} {f:List aB} {r:Int×Int×(List UInt8)×(List aA)×(List aB)},p a b c d f=some r→Big Tryd.prog τ An (.fn 33 [.one (.ag [.int .i64 a, .int .i64 b, .str c, .sl (d.map aD), .sl (f.map aC)])] [] (.one (.ag [.int .i64 r.1, .int .i64 r.2.1, .str r.2.2.1, .sl (r.2.2.2.1.map aD), .sl (r.2.2.2.2.map aC)])) none [] none)
def gB(n:Nat)(c:fP)(f:List aA):(Int×Int×Int×(List UInt8)×(List aA)×(List aB))→Option ((Int×Int×Int×(List UInt8)×(List aA)×(List aB))⊕((Int×Bool×Int×Int×(List UInt8)×(List aA)×(List aB))))
  | (d,j,l,m,o,p)=>bif decide (d<(f.length:Int))then(ix f d).bind fun b=>(c b.f0 b.f1 b.f2 b.f3 b.f4).bind fun a=>(kG 80 o ([aA.mk a.1 a.2.1 a.2.2.1 a.2.2.2.1 a.2.2.2.2]:List aA)).bind fun g=>some (.inl ((IntKind.wrap .i64 (d+(1:Int))),j,l,m,g,p))else some (.inr (d,false,j,l,m,o,p))
def gA(n:Nat)(a:fP)(j:List aB):(Int×Int×Int×(List UInt8)×(List aA)×(List aB))→Option ((Int×Int×Int×(List UInt8)×(List aA)×(List aB))⊕((Int×Bool×Int×Int×(List UInt8)×(List aA)×(List aB))))
  | (g,l,m,o,p,s)=>bif decide (g<(j.length:Int))then(ix j g).bind fun d=>(a d.f0 d.f1 d.f2 d.f3 d.f4).bind fun b=>(ix j g).bind fun f=>(a f.f5 f.f6 f.f7 f.f8 f.f9).bind fun c=>(kG 160 s ([aB.mk b.1 b.2.1 b.2.2.1 b.2.2.2.1 b.2.2.2.2 c.1 c.2.1 c.2.2.1 c.2.2.2.1 c.2.2.2.2]:List aB)).bind fun t=>some (.inl ((IntKind.wrap .i64 (g+(1:Int))),l,m,o,p,t))else some (.inr (g,false,l,m,o,p,s))
def jP(n:Nat)(a:fP)(p:Int)(s:Int)(t:List UInt8)(u:List aA)(v:List aB):Option (Int×Int×(List UInt8)×(List aA)×(List aB)):=
  (loopN (gB n a u) n ((0:Int),p,s,t,([]:List aA),([]:List aB))).bind fun(B,z,w,b,c,d,f)=>(loopN (gA n a v) n ((0:Int),w,b,c,d,f)).bind fun(A,y,g,j,l,m,o)=>some (g,j,l,m,o)
theorem xH{n:Nat}{g:fP}(d:lP g):lP (jP n g):=by
 intro a1 a2 a3 a4 a5 r h; unfold jP at h; refine bF Tryd.func33 rfl rfl<|gco 3 rfl<|xAz [.int .i64 0, .int .i64 0, .str [], .sl ([].map aD), .sl ([].map aC)] rfl<|goo 4 rfl<|xAz [.int .i64 0, .int .i64 0, .str [], .sl ([].map aD), .sl ([].map aC)] rfl<|goo 4 rfl<|eU (L:=([]:List aA)) (f:=aD) rfl rfl rfl rfl rfl rfl rfl<|goo 5 rfl<|eU (L:=([]:List aB)) (f:=aC) rfl rfl rfl rfl rfl rfl rfl<|goc 8 rfl<|cLp h [(4,4),(11,28)] [(3,3)] (fun(I,K,M,N,Q,R)=>([(4,I64 I)],[(3,[.int .i64 K, .int .i64 M, .str N, .sl (Q.map aD), .sl (R.map aC)])])) (fun(J,m,T,s,t,u,v)=>(.e 0,[(4,I64 J),(15,Bo m)],[(3,[.int .i64 T, .int .i64 s, .str t, .sl (u.map aD), .sl (v.map aC)])])) rfl (fun st _ h=> ?_) (fun q h=> ?_)
 obtain⟨I,K,M,N,Q,R⟩:=st; unfold gB at h; refine gco 6 rfl<|xLn rfl<|goc 2 rfl<|cIf h rfl (fun X h=> ?_) (fun X h=> ?_)
 refine gco 9 rfl<|xIx h aH rfl (fun U h=> ?_)
 refine xLd rfl<|xC0 h (d ·) rfl (fun j h=> ?_)
 refine eU (L:=([aA.mk j.1 j.2.1 j.2.2.1 j.2.2.2.1 j.2.2.2.2]:List aA)) (f:=aD) rfl rfl rfl rfl (by simp only[List.map,aK]<;>rfl) rfl rfl<|wAp (f:=aD) h rfl rfl rfl rfl rfl rfl rfl rfl rfl (fun a=>by rw[aH]; rfl) rfl (fun Z h=> ?_)
 exact geo; exact gec; obtain⟨J,m,T,s,t,u,v⟩:=q; refine gcc 5 rfl<|cLp h [(5,5),(29,55)] [(3,3)] (fun(o,w,y,z,A,B)=>([(5,I64 o)],[(3,[.int .i64 w, .int .i64 y, .str z, .sl (A.map aD), .sl (B.map aC)])])) (fun(p,l,C,D,E,G,H)=>(.e 2,[(5,I64 p),(33,Bo l)],[(3,[.int .i64 C, .int .i64 D, .str E, .sl (G.map aD), .sl (H.map aC)])])) rfl (fun st _ h=> ?_) (fun q h=> ?_)
 obtain⟨o,w,y,z,A,B⟩:=st; unfold gA at h; refine gco 6 rfl<|xLn rfl<|goc 2 rfl<|cIf h rfl (fun Y h=> ?_) (fun Y h=> ?_)
 refine gco 9 rfl<|xIx h aJ rfl (fun V h=> ?_)
 refine goo 2 rfl<|xC0 h (d ·) rfl (fun b h=> ?_)
 refine goo 3 rfl<|xIx h aJ rfl (fun W h=> ?_)
 refine goo 2 rfl<|xC0 h (d ·) rfl (fun c h=> ?_)
 refine wBd [.int .i64 b.1, .int .i64 b.2.1, .str b.2.2.1, .sl (b.2.2.2.1.map aD), .sl (b.2.2.2.2.map aC), .int .i64 c.1, .int .i64 c.2.1, .str c.2.2.1, .sl (c.2.2.2.1.map aD), .sl (c.2.2.2.2.map aC)] rfl rfl rfl rfl rfl rfl<|eU (L:=([aB.mk b.1 b.2.1 b.2.2.1 b.2.2.2.1 b.2.2.2.2 c.1 c.2.1 c.2.2.1 c.2.2.2.1 c.2.2.2.2]:List aB)) (f:=aC) rfl rfl rfl rfl (by simp only[List.map,dC]<;>rfl) rfl rfl<|wAp (f:=aC) h rfl rfl rfl rfl rfl rfl rfl rfl rfl (fun a=>by rw[aJ]; rfl) rfl (fun a0 h=> ?_)
 exact geo; exact gec; obtain⟨p,l,C,D,E,G,H⟩:=q; exact gec
def tN:Nat→(fP)
  | 0=>(fun _ _ _ _ _=>none)
  | n+1=>jP n (tN n)
def cB(n:Nat):fP:=tN n
theorem xL(n:Nat):lP (cB n):=by
  induction n with
  | zero=>exact(fun h=>nomatch h)
  | succ n ih=>exact xH (n:=n) ih
theorem mD{n:Nat}:lP (cB n):=(xL n)
theorem uJ(n:Nat):cB (n+1)=jP n (cB n):=rfl
abbrev Ee(p:(List Int)→(List Int)→Int→Int→Option (Int×(List Int)×Int×Int)):Prop:= ∀ {f a:List Int} {b d:Int} {r:Int×(List Int)×Int×Int},p f a b d=some r→Big Tryd.prog τ An (.fn 58 [.one (.ptr 1000000 0), .one (.c (.sl (f.map uS)))] [[.sl (a.map rI_u8), .int .i64 b, .int .i64 d]] (.one (.c (.int .i64 r.1))) none [[.sl (r.2.1.map rI_u8), .int .i64 r.2.2.1, .int .i64 r.2.2.2]] none)
def dI(n:Nat)(b:List Int)(d:List Int)(f:Int)(g:Int):Option (Int×(List Int)×Int×Int):=
  (aG n (b.length:Int) d f g).bind fun a=>(ix b a.1).bind fun c=>some (c,a.2.1,a.2.2.1,a.2.2.2)
theorem gJ{n:Nat}:Ee (dI n):=by
 intro g c d f r h; unfold dI at h; refine bF Tryd.func58 rfl rfl<|gco 9 rfl<|xLn rfl<|xC1 h (aI ·) rfl (fun b h=> ?_)
 refine xIx h JD rfl (fun a h=> ?_)
 exact geo
abbrev Ec(p:(List (List UInt8))→(List Int)→Int→Int→Option ((List UInt8)×(List Int)×Int×Int)):Prop:= ∀ {f:List (List UInt8)} {a:List Int} {b d:Int} {r:(List UInt8)×(List Int)×Int×Int},p f a b d=some r→Big Tryd.prog τ An (.fn 59 [.one (.ptr 1000000 0), .one (.c (.sl (f.map cU)))] [[.sl (a.map rI_u8), .int .i64 b, .int .i64 d]] (.one (.c (.str r.1))) none [[.sl (r.2.1.map rI_u8), .int .i64 r.2.2.1, .int .i64 r.2.2.2]] none)
def aU(n:Nat)(b:List (List UInt8))(d:List Int)(f:Int)(g:Int):Option ((List UInt8)×(List Int)×Int×Int):=
  (aG n (b.length:Int) d f g).bind fun a=>(ix b a.1).bind fun c=>some (c,a.2.1,a.2.2.1,a.2.2.2)
theorem bU{n:Nat}:Ec (aU n):=by
 intro g c d f r h; unfold aU at h; refine bF Tryd.func59 rfl rfl<|gco 9 rfl<|xLn rfl<|xC1 h (aI ·) rfl (fun b h=> ?_)
 refine xIx h mP rfl (fun a h=> ?_)
 exact geo
abbrev EZ(p:Int→Option (Int×Int×(List UInt8)×(List aA)×(List aB))):Prop:= ∀ {a:Int} {r:Int×Int×(List UInt8)×(List aA)×(List aB)},p a=some r→Big Tryd.prog τ An (.fn 60 [.one (.c (.int .i64 a))] [] (.one (.ag [.int .i64 r.1, .int .i64 r.2.1, .str r.2.2.1, .sl (r.2.2.2.1.map aD), .sl (r.2.2.2.2.map aC)])) none [] none)
def bL(n:Nat)(a:Int):Option (Int×Int×(List UInt8)×(List aA)×(List aB)):=
  some ((1:Int),a,([]:List UInt8),([]:List aA),([]:List aB))
theorem bZ{n:Nat}:EZ (bL n):=by
 intro a r h; unfold bL at h; exact bF Tryd.func60 rfl rfl<|cRs<|xAz [.int .i64 0, .int .i64 0, .str [], .sl ([].map aD), .sl ([].map aC)] rfl<|goo 4 rfl<|wBd [.int .i64 1, .int .i64 a, .str [], .sl ([].map aD), .sl ([].map aC)] rfl rfl rfl rfl rfl rfl<|geo
abbrev Cx(p:Int→Int→(List UInt8)→(List aA)→(List aB)→(List Int)→Int→Int→Option (Int×Int×(List UInt8)×(List aA)×(List aB)×(List Int)×Int×Int)):Prop:= ∀ {d f:Int} {g:List UInt8} {j:List aA} {l:List aB} {a:List Int} {b c:Int} {r:Int×Int×(List UInt8)×(List aA)×(List aB)×(List Int)×Int×Int},p d f g j l a b c=some r→Big Tryd.prog τ An (.fn 34 [.one (.ptr 1000000 0), .one (.ag [.int .i64 d, .int .i64 f, .str g, .sl (j.map aD), .sl (l.map aC)])] [[.sl (a.map rI_u8), .int .i64 b, .int .i64 c]] (.one (.ag [.int .i64 r.1, .int .i64 r.2.1, .str r.2.2.1, .sl (r.2.2.2.1.map aD), .sl (r.2.2.2.2.1.map aC)])) none [[.sl (r.2.2.2.2.2.1.map rI_u8), .int .i64 r.2.2.2.2.2.2.1, .int .i64 r.2.2.2.2.2.2.2]] none)
def lD(n:Nat):(Int×Int×Int×(List UInt8)×(List aA)×(List aB))→Option ((Int×Int×Int×(List UInt8)×(List aA)×(List aB))⊕((Int×Bool×Int×Int×(List UInt8)×(List aA)×(List aB))))
  | (a,b,c,d,f,g)=>bif decide (a<(9:Int))then some (.inl ((IntKind.wrap .i64 (a+(1:Int))),(4:Int),(0:Int),([]:List UInt8),([aA.mk b c d f g]:List aA),([]:List aB)))else some (.inr (a,false,b,c,d,f,g))
def hG(n:Nat)(C:Int)(D:Int)(E:List UInt8)(G:List aA)(H:List aB)(z:List Int)(A:Int)(B:Int):Option (Int×Int×(List UInt8)×(List aA)×(List aB)×(List Int)×Int×Int):=
  (cB n C D E G H).bind fun a=>(aG n (8:Int) z A B).bind fun b=>bif decide (b.1=(0:Int))then(aG n (11:Int) b.2.1 b.2.2.1 b.2.2.2).bind fun j=>some (j.1,a.2.1,a.2.2.1,a.2.2.2.1,a.2.2.2.2,j.2.1,j.2.2.1,j.2.2.2)else bif decide (b.1=(1:Int))then(dI n ([((-1):Int),(1000000000001:Int),(3:Int)]:List Int) b.2.1 b.2.2.1 b.2.2.2).bind fun l=>some (a.1,l.1,a.2.2.1,a.2.2.2.1,a.2.2.2.2,l.2.1,l.2.2.1,l.2.2.2)else bif decide (b.1=(2:Int))then(aU n ([([]:List UInt8),([65]:List UInt8),([120]:List UInt8),([99,97,115,101]:List UInt8),([95]:List UInt8),([61,61]:List UInt8)]:List (List UInt8)) b.2.1 b.2.2.1 b.2.2.2).bind fun m=>some (a.1,a.2.1,m.1,a.2.2.2.1,a.2.2.2.2,m.2.1,m.2.2.1,m.2.2.2)else bif decide (b.1=(3:Int))then(bL n (4:Int)).bind fun c=>(kG 80 a.2.2.2.1 ([aA.mk c.1 c.2.1 c.2.2.1 c.2.2.2.1 c.2.2.2.2]:List aA)).bind fun o=>some (a.1,a.2.1,a.2.2.1,o,a.2.2.2.2,b.2.1,b.2.2.1,b.2.2.2)else bif decide (b.1=(4:Int))then(cB n a.1 a.2.1 a.2.2.1 a.2.2.2.1 a.2.2.2.2).bind fun d=>(bL n (1:Int)).bind fun f=>(kG 160 a.2.2.2.2 ([aB.mk f.1 f.2.1 f.2.2.1 f.2.2.2.1 f.2.2.2.2 d.1 d.2.1 d.2.2.1 d.2.2.2.1 d.2.2.2.2]:List aB)).bind fun p=>some (a.1,a.2.1,a.2.2.1,a.2.2.2.1,p,b.2.1,b.2.2.1,b.2.2.2)else bif decide (b.1=(5:Int))then(loopN (lD n) n ((0:Int),a.1,a.2.1,a.2.2.1,a.2.2.2.1,a.2.2.2.2)).bind fun(J,I,t,u,v,w,y)=>some (t,u,v,w,y,b.2.1,b.2.2.1,b.2.2.2)else bif decide (b.1=(6:Int))then bif decide ((0:Int)<(a.2.2.2.2.length:Int))then(ix a.2.2.2.2 (0:Int)).bind fun g=>(some (a.2.2.2.2.set (Int.toNat (0:Int)) (aB.mk (4:Int) (0:Int) ([]:List UInt8) ([aA.mk (3:Int) (0:Int) ([65]:List UInt8) ([]:List aA) ([]:List aB),aA.mk (3:Int) (0:Int) ([65]:List UInt8) ([]:List aA) ([]:List aB)]:List aA) ([]:List aB) g.f5 g.f6 g.f7 g.f8 g.f9))).bind fun s=>some (a.1,a.2.1,a.2.2.1,a.2.2.2.1,s,b.2.1,b.2.2.1,b.2.2.2)else some (a.1,a.2.1,a.2.2.1,a.2.2.2.1,a.2.2.2.2,b.2.1,b.2.2.1,b.2.2.2)else some (a.1,a.2.1,a.2.2.1,a.2.2.2.1,a.2.2.2.2,b.2.1,b.2.2.1,b.2.2.2)
theorem pX{n:Nat}:Cx (hG n):=by
 intro a0 a1 a2 a3 a4 T U V r h; unfold hG at h; refine bF Tryd.func34 rfl rfl<|gco 3 rfl<|xAz [.int .i64 0, .int .i64 0, .str [], .sl ([].map aD), .sl ([].map aC)] rfl<|goo 4 rfl<|xC0 h (mD ·) rfl (fun R h=> ?_)
 refine goo 6 rfl<|xC1 h (aI ·) rfl (fun J h=> ?_)
 refine goc 7 rfl<|cIf h rfl (fun W h=> ?_) (fun W h=> ?_)
 refine gco 2 rfl<|xC1 h (aI ·) rfl (fun K h=> ?_)
 exact geo; refine gcc 5 rfl<|cIf h rfl (fun X h=> ?_) (fun X h=> ?_)
 refine gco 2 rfl<|eU (L:=([((-1):Int),(1000000000001:Int),(3:Int)]:List Int)) (f:=uS) rfl rfl rfl rfl rfl rfl rfl<|xC1 h (gJ ·) rfl (fun M h=> ?_)
 exact geo; refine gcc 5 rfl<|cIf h rfl (fun Y h=> ?_) (fun Y h=> ?_)
 refine gco 2 rfl<|eU (L:=([([]:List UInt8),([65]:List UInt8),([120]:List UInt8),([99,97,115,101]:List UInt8),([95]:List UInt8),([61,61]:List UInt8)]:List (List UInt8))) (f:=cU) rfl rfl rfl rfl rfl rfl rfl<|xC1 h (bU ·) rfl (fun N h=> ?_)
 exact geo; refine gcc 5 rfl<|cIf h rfl (fun Z h=> ?_) (fun Z h=> ?_)
 refine gco 3 rfl<|xC0 h (bZ ·) rfl (fun d h=> ?_)
 refine eU (L:=([aA.mk d.1 d.2.1 d.2.2.1 d.2.2.2.1 d.2.2.2.2]:List aA)) (f:=aD) rfl rfl rfl rfl (by simp only[List.map,aK]<;>rfl) rfl rfl<|wAp (f:=aD) h rfl rfl rfl rfl rfl rfl rfl rfl rfl (fun a=>by rw[aH]; rfl) rfl (fun H h=> ?_)
 exact geo; refine gcc 5 rfl<|cIf h rfl (fun B h=> ?_) (fun B h=> ?_)
 refine gco 3 rfl<|xC0 h (mD ·) rfl (fun b h=> ?_)
 refine xAz [.int .i64 0, .int .i64 0, .str [], .sl ([].map aD), .sl ([].map aC)] rfl<|goo 5 rfl<|xC0 h (bZ ·) rfl (fun c h=> ?_)
 refine xLd rfl<|wBd [.int .i64 c.1, .int .i64 c.2.1, .str c.2.2.1, .sl (c.2.2.2.1.map aD), .sl (c.2.2.2.2.map aC), .int .i64 b.1, .int .i64 b.2.1, .str b.2.2.1, .sl (b.2.2.2.1.map aD), .sl (b.2.2.2.2.map aC)] rfl rfl rfl rfl rfl rfl<|eU (L:=([aB.mk c.1 c.2.1 c.2.2.1 c.2.2.2.1 c.2.2.2.2 b.1 b.2.1 b.2.2.1 b.2.2.2.1 b.2.2.2.2]:List aB)) (f:=aC) rfl rfl rfl rfl (by simp only[List.map,dC]<;>rfl) rfl rfl<|wAp (f:=aC) h rfl rfl rfl rfl rfl rfl rfl rfl rfl (fun a=>by rw[aJ]; rfl) rfl (fun I h=> ?_)
 exact geo; refine gcc 5 rfl<|cIf h rfl (fun C h=> ?_) (fun C h=> ?_)
 refine gcc 4 rfl<|cLp h [(6,7),(51,58)] [(3,3),(7,7)] (fun(t,j,l,m,o,p)=>([(6,I64 t)],[(3,[.int .i64 j, .int .i64 l, .str m, .sl (o.map aD), .sl (p.map aC)])])) (fun(u,s,v,w,y,z,A)=>(.e 1,[(6,I64 u),(52,Bo s)],[(3,[.int .i64 v, .int .i64 w, .str y, .sl (z.map aD), .sl (A.map aC)])])) rfl (fun st _ h=> ?_) (fun q h=> ?_)
 obtain⟨t,j,l,m,o,p⟩:=st; unfold lD at h; refine gcc 6 rfl<|cIf h rfl (fun D h=> ?_) (fun D h=> ?_)
 exact gco 6 rfl<|xAz [.int .i64 0, .int .i64 0, .str [], .sl ([].map aD), .sl ([].map aC)] rfl<|goo 4 rfl<|eU (L:=([aA.mk j l m o p]:List aA)) (f:=aD) rfl rfl rfl rfl (by simp only[List.map,aK]<;>rfl) rfl rfl<|wBd [.int .i64 4, .int .i64 0, .str [], .sl ([aA.mk j l m o p].map aD), .sl ([].map aC)] rfl rfl rfl rfl rfl rfl<|geo
 exact gec; obtain⟨u,s,v,w,y,z,A⟩:=q; exact gec; refine gcc 5 rfl<|cIf h rfl (fun E h=> ?_) (fun E h=> ?_)
 refine gco 4 rfl<|xLn rfl<|goc 2 rfl<|cIf h rfl (fun G h=> ?_) (fun G h=> ?_)
 refine gco 2 rfl<|wLa rfl rfl rfl rfl rfl rfl rfl<|wBd [.int .i64 3, .int .i64 0, .str [65], .sl ([].map aD), .sl ([].map aC)] rfl rfl rfl rfl rfl rfl<|wBd [.int .i64 3, .int .i64 0, .str [65], .sl ([].map aD), .sl ([].map aC)] rfl rfl rfl rfl rfl rfl<|eU (L:=([aA.mk (3:Int) (0:Int) ([65]:List UInt8) ([]:List aA) ([]:List aB),aA.mk (3:Int) (0:Int) ([65]:List UInt8) ([]:List aA) ([]:List aB)]:List aA)) (f:=aD) rfl rfl rfl rfl (by simp only[List.map,aK]<;>rfl) rfl rfl<|wBd [.int .i64 4, .int .i64 0, .str [], .sl ([aA.mk (3:Int) (0:Int) ([65]:List UInt8) ([]:List aA) ([]:List aB),aA.mk (3:Int) (0:Int) ([65]:List UInt8) ([]:List aA) ([]:List aB)].map aD), .sl ([].map aC)] rfl rfl rfl rfl rfl rfl<|wIp (f:=aC) h rfl rfl rfl rfl rfl rfl (fun a=>by rw[aJ]; rfl) rfl (fun g ke71_33 h=> ?_)
 refine xFd rfl<|wSpN (f:=aC) (v':=aB.mk (4:Int) (0:Int) ([]:List UInt8) ([aA.mk (3:Int) (0:Int) ([65]:List UInt8) ([]:List aA) ([]:List aB),aA.mk (3:Int) (0:Int) ([65]:List UInt8) ([]:List aA) ([]:List aB)]:List aA) ([]:List aB) g.f5 g.f6 g.f7 g.f8 g.f9) h ke71_33 rfl rfl rfl rfl rfl rfl rfl (by rw[aJ]; rfl) (by rw[aJ,dC]; rfl) (fun Q h=> ?_)
 exact geo; exact gec; exact gec
abbrev Fx(p:Int→Int→Int→Option (Bool)):Prop:= ∀ {a b d:Int} {r:Bool},p a b d=some r→Big Tryd.prog τ An (.fn 75 [.one (.c (.int .i64 a)), .one (.c (.int .i64 b)), .one (.c (.int .i64 d))] [] (.one (.c (.bool r))) none [] none)
def cM(n:Nat)(a:Int)(b:Int)(c:Int):Option (Bool):=
  (bif decide (b≤a)then some (decide (a≤c))else some false).bind fun d=>some d
theorem dH{n:Nat}:Fx (cM n):=by
 intro c d f r h; unfold cM at h; refine bF Tryd.func75 rfl rfl<|gco 6 rfl<|oJn h [(6,14)] [] (fun a=>(.n,[(6,Bo a)],[])) (fun _ h=> ?_) (fun a h=> ?_)
 refine goo 4 rfl<|oIf 10 h rfl (fun b h=> ?_) (fun b h=> ?_)
 exact geo; exact geo; exact gec
abbrev DD(p:(List UInt8)→Option (Bool)):Prop:= ∀ {a:List UInt8} {r:Bool},p a=some r→Big Tryd.prog τ An (.fn 93 [.one (.c (.str a))] [] (.one (.c (.bool r))) none [] none)
def jA(n:Nat)(d:List UInt8):(Int)→Option ((Int)⊕((Bool)⊕(Int×Bool)))
  | a=>bif decide (a<(d.length:Int))then(ixs d a).bind fun b=>(cM n (IntKind.wrap .i64 b) (97:Int) (122:Int)).bind fun f=>(bif !f then bif decide (a=(0:Int))then some true else(cM n (IntKind.wrap .i64 b) (48:Int) (57:Int)).bind fun c=>bif !c then some (!decide ((IntKind.wrap .i64 b)=(95:Int)))else some false else some false).bind fun g=>bif g then some (.inr (.inl false))else some (.inl (IntKind.wrap .i64 (a+(1:Int))))else some (.inr (.inr (a,false)))
def jT(n:Nat)(b:List UInt8):Option (Bool):=
  (loopN (jA n b) n (0:Int)).bind fun q=>(match q with | .inl c=>some c | .inr (d,f)=>(cM n (b.length:Int) (1:Int) (20:Int)).bind fun a=>some a)
theorem AN{n:Nat}:DD (jT n):=by
 intro v r h; unfold jT at h; refine bF Tryd.func93 rfl rfl<|gcc 9 rfl<|cLp h [(2,32)] [] (fun c=>([(3,I64 c)],[])) (fun q=>match q with | .inl b=>(.r,[(2,Bo b)],[]) | .inr (d,f)=>(.e 0,[(3,I64 d),(9,Bo f)],[])) rfl (fun c _ h=> ?_) (fun q h=> ?_)
 unfold jA at h; refine gco 5 rfl<|xLs rfl<|goc 2 rfl<|cIf h rfl (fun t h=> ?_) (fun t h=> ?_)
 refine gco 7 rfl<|Hm h rfl rfl rfl rfl rfl (fun s h=> ?_)
 refine goo 6 rfl<|xC0 h (dH ·) rfl (fun p h=> ?_)
 refine goo 4 rfl<|oJn h [(18,32)] [] (fun a=>(.n,[(32,Bo a)],[])) (fun _ h=> ?_) (fun a h=> ?_)
 refine goo 3 rfl<|oIf 20 h rfl (fun u h=> ?_) (fun u h=> ?_)
 refine goo 3 rfl<|oIf 23 h rfl (fun l h=> ?_) (fun l h=> ?_)
 exact geo; refine xMv rfl<|xC0 h (dH ·) rfl (fun g h=> ?_)
 refine goo 2 rfl<|oIf 27 h rfl (fun m h=> ?_) (fun m h=> ?_)
 exact geo; exact geo; exact geo; refine cIf h rfl (fun o h=> ?_) (fun o h=> ?_)
 exact gec; exact gec; exact gec; rcases q with b | ⟨d,f⟩; exact en; refine gco 3 rfl<|xLs rfl<|xC0 h (dH ·) rfl (fun j h=> ?_)
 exact geo
abbrev vW(p:(List UInt8)→Option (Bool)):Prop:= ∀ {a:List UInt8} {r:Bool},p a=some r→Big Tryd.prog τ An (.fn 94 [.one (.c (.str a))] [] (.one (.c (.bool r))) none [] none)
def iA(n:Nat)(a:List UInt8):Option (Bool):=
  (bif decide (a=([99,97,115,101]:List UInt8))then some true else bif decide (a=([111,102]:List UInt8))then some true else some (decide (a=([101,110,100]:List UInt8)))).bind fun b=>some b
theorem sI{n:Nat}:vW (iA n):=by
 intro d r h; unfold iA at h; refine bF Tryd.func94 rfl rfl<|gco 6 rfl<|oJn h [(2,12)] [] (fun a=>(.n,[(2,Bo a)],[])) (fun _ h=> ?_) (fun a h=> ?_)
 refine goo 3 rfl<|oIf 5 h rfl (fun b h=> ?_) (fun b h=> ?_)
 exact geo; refine goo 4 rfl<|oIf 9 h rfl (fun c h=> ?_) (fun c h=> ?_)
 exact geo; exact geo; exact gec
abbrev Cy(p:(List UInt8)→Option (Bool)):Prop:= ∀ {a:List UInt8} {r:Bool},p a=some r→Big Tryd.prog τ An (.fn 76 [.one (.c (.str a))] [] (.one (.c (.bool r))) none [] none)
def hH(n:Nat)(a:List UInt8):Option (Bool):=
  ((jT n a).bind fun b=>bif b then(iA n a).bind fun c=>some (!c)else some false).bind fun d=>some d
theorem pY{n:Nat}:Cy (hH n):=by
 intro f r h; unfold hH at h; refine bF Tryd.func76 rfl rfl<|gco 6 rfl<|oJn h [(2,9)] [] (fun a=>(.n,[(2,Bo a)],[])) (fun _ h=> ?_) (fun a h=> ?_)
 refine xMv rfl<|xC0 h (AN ·) rfl (fun b h=> ?_)
 refine xMv rfl<|oIf 5 h rfl (fun d h=> ?_) (fun d h=> ?_)
 refine xMv rfl<|xC0 h (sI ·) rfl (fun c h=> ?_)
 exact geo; exact geo; exact gec
abbrev BC(p:Int→Option (Bool)):Prop:= ∀ {a:Int} {r:Bool},p a=some r→Big Tryd.prog τ An (.fn 95 [.one (.c (.int .u8 a))] [] (.one (.c (.bool r))) none [] none)
def iQ(n:Nat)(a:Int):Option (Bool):=
  ((cM n (IntKind.wrap .i64 a) (65:Int) (90:Int)).bind fun b=>bif b then some true else some (decide (a=(95:Int)))).bind fun c=>some c
theorem xS{n:Nat}:BC (iQ n):=by
 intro d r h; unfold iQ at h; refine bF Tryd.func95 rfl rfl<|gco 6 rfl<|oJn h [(2,9)] [] (fun a=>(.n,[(2,Bo a)],[])) (fun _ h=> ?_) (fun a h=> ?_)
 refine goo 2 rfl<|xC0 h (dH ·) rfl (fun b h=> ?_)
 refine xMv rfl<|oIf 6 h rfl (fun c h=> ?_) (fun c h=> ?_)
 exact geo; exact geo; exact gec
abbrev BB(p:Int→Option (Bool)):Prop:= ∀ {a:Int} {r:Bool},p a=some r→Big Tryd.prog τ An (.fn 96 [.one (.c (.int .u8 a))] [] (.one (.c (.bool r))) none [] none)
def iP(n:Nat)(b:Int):Option (Bool):=
  (cM n (IntKind.wrap .i64 b) (97:Int) (122:Int)).bind fun a=>some a
theorem xR{n:Nat}:BB (iP n):=by
 intro b r h; unfold iP at h; refine bF Tryd.func96 rfl rfl<|gco 8 rfl<|xC0 h (dH ·) rfl (fun a h=> ?_)
 exact geo
abbrev BD(p:Int→Option (Bool)):Prop:= ∀ {a:Int} {r:Bool},p a=some r→Big Tryd.prog τ An (.fn 97 [.one (.c (.int .u8 a))] [] (.one (.c (.bool r))) none [] none)
def iR(n:Nat)(b:Int):Option (Bool):=
  (cM n (IntKind.wrap .i64 b) (48:Int) (57:Int)).bind fun a=>some a
theorem xT{n:Nat}:BD (iR n):=by
 intro b r h; unfold iR at h; refine bF Tryd.func97 rfl rfl<|gco 8 rfl<|xC0 h (dH ·) rfl (fun a h=> ?_)
 exact geo
abbrev BA(p:(List UInt8)→Option (Bool)):Prop:= ∀ {a:List UInt8} {r:Bool},p a=some r→Big Tryd.prog τ An (.fn 77 [.one (.c (.str a))] [] (.one (.c (.bool r))) none [] none)
def iB(n:Nat)(b:List UInt8):(Int)→Option ((Int)⊕((Bool)⊕(Int×Bool)))
  | a=>bif decide (a<(b.length:Int))then((ixs b a).bind fun l=>(iQ n l).bind fun j=>bif !j then bif decide (a=(0:Int))then some true else(ixs b a).bind fun f=>(iP n f).bind fun c=>bif !c then(ixs b a).bind fun g=>(iR n g).bind fun d=>some (!d)else some false else some false).bind fun m=>bif m then some (.inr (.inl false))else some (.inl (IntKind.wrap .i64 (a+(1:Int))))else some (.inr (.inr (a,false)))
def iO(n:Nat)(b:List UInt8):Option (Bool):=
  (loopN (iB n b) n (0:Int)).bind fun q=>(match q with | .inl c=>some c | .inr (d,f)=>(cM n (b.length:Int) (1:Int) (20:Int)).bind fun a=>some a)
theorem xQ{n:Nat}:BA (iO n):=by
 intro z r h; unfold iO at h; refine bF Tryd.func77 rfl rfl<|gcc 9 rfl<|cLp h [(2,32)] [] (fun c=>([(3,I64 c)],[])) (fun q=>match q with | .inl b=>(.r,[(2,Bo b)],[]) | .inr (d,f)=>(.e 0,[(3,I64 d),(7,Bo f)],[])) rfl (fun c _ h=> ?_) (fun q h=> ?_)
 unfold iB at h; refine gco 5 rfl<|xLs rfl<|goc 2 rfl<|cIf h rfl (fun w h=> ?_) (fun w h=> ?_)
 refine gco 5 rfl<|oJn h [(10,32)] [] (fun a=>(.n,[(32,Bo a)],[])) (fun _ h=> ?_) (fun a h=> ?_)
 refine goo 2 rfl<|Hm h rfl rfl rfl rfl rfl (fun v h=> ?_)
 refine xC0 h (xS ·) rfl (fun u h=> ?_)
 refine goo 2 rfl<|oIf 15 h rfl (fun y h=> ?_) (fun y h=> ?_)
 refine goo 3 rfl<|oIf 18 h rfl (fun p h=> ?_) (fun p h=> ?_)
 exact geo; refine goo 2 rfl<|Hm h rfl rfl rfl rfl rfl (fun m h=> ?_)
 refine xC0 h (xR ·) rfl (fun g h=> ?_)
 refine goo 2 rfl<|oIf 24 h rfl (fun s h=> ?_) (fun s h=> ?_)
 refine goo 2 rfl<|Hm h rfl rfl rfl rfl rfl (fun o h=> ?_)
 refine xC0 h (xT ·) rfl (fun j h=> ?_)
 exact geo; exact geo; exact geo; refine cIf h rfl (fun t h=> ?_) (fun t h=> ?_)
 exact gec; exact gec; exact gec; rcases q with b | ⟨d,f⟩; exact en; refine gco 3 rfl<|xLs rfl<|xC0 h (dH ·) rfl (fun l h=> ?_)
 exact geo
abbrev Fv(p:(List UInt8)→Option (Bool)):Prop:= ∀ {a:List UInt8} {r:Bool},p a=some r→Big Tryd.prog τ An (.fn 78 [.one (.c (.str a))] [] (.one (.c (.bool r))) none [] none)
def lX(n:Nat)(a:List UInt8):Option (Bool):=
  (bif decide (a=([43]:List UInt8))then some true else bif decide (a=([45]:List UInt8))then some true else bif decide (a=([42]:List UInt8))then some true else bif decide (a=([61,61]:List UInt8))then some true else some (decide (a=([60]:List UInt8)))).bind fun b=>some b
theorem Ct{n:Nat}:Fv (lX n):=by
 intro g r h; unfold lX at h; refine bF Tryd.func78 rfl rfl<|gco 6 rfl<|oJn h [(2,20)] [] (fun a=>(.n,[(2,Bo a)],[])) (fun _ h=> ?_) (fun a h=> ?_)
 refine goo 3 rfl<|oIf 5 h rfl (fun b h=> ?_) (fun b h=> ?_)
 exact geo; refine goo 4 rfl<|oIf 9 h rfl (fun c h=> ?_) (fun c h=> ?_)
 exact geo; refine goo 4 rfl<|oIf 13 h rfl (fun d h=> ?_) (fun d h=> ?_)
 exact geo; refine goo 4 rfl<|oIf 17 h rfl (fun f h=> ?_) (fun f h=> ?_)
 exact geo; exact geo; exact gec
abbrev Ay(p:Int→Int→(List UInt8)→(List aA)→(List aB)→Bool→Option (Bool)):Prop:= ∀ {a b:Int} {d:List UInt8} {f:List aA} {g:List aB} {j:Bool} {r:Bool},p a b d f g j=some r→Big Tryd.prog τ An (.fn 61 [.one (.ag [.int .i64 a, .int .i64 b, .str d, .sl (f.map aD), .sl (g.map aC)]), .one (.c (.bool j))] [] (.one (.c (.bool r))) none [] none)
def iM(n:Nat)(a:Int)(f:Int)(b:List UInt8)(c:List aA)(s:List aB)(d:Bool):Option (Bool):=
  (bif !decide (a=(9:Int))then bif decide ((0:Int)<(s.length:Int))then some true else bif !decide (a=(1:Int))then some (!decide (f=(0:Int)))else some false else bif !decide (a=(1:Int))then some (!decide (f=(0:Int)))else some false).bind fun u=>bif u then some false else bif decide (a=(1:Int))then((cM n f (0:Int) (1000000000000:Int)).bind fun t=>bif t then bif decide (b=([]:List UInt8))then some (decide ((c.length:Int)=(0:Int)))else some false else some false).bind fun E=>some E else bif decide (a=(2:Int))then((hH n b).bind fun l=>bif l then some (decide ((c.length:Int)=(0:Int)))else some false).bind fun v=>some v else bif decide (a=(3:Int))then((iO n b).bind fun m=>bif m then bif decide ((c.length:Int)=(0:Int))then bif d then some true else some (!decide (b=([95]:List UInt8)))else some false else some false).bind fun w=>some w else bif decide (a=(4:Int))then(bif decide (b=([]:List UInt8))then some (decide ((c.length:Int)≤(20:Int)))else some false).bind fun y=>some y else bif decide (a=(5:Int))then(bif decide (b=([]:List UInt8))then some (decide ((c.length:Int)≤(20:Int)))else some false).bind fun z=>some z else bif decide (a=(6:Int))then(bif decide (b=([]:List UInt8))then(cM n (c.length:Int) (2:Int) (6:Int)).bind fun o=>some o else some false).bind fun A=>some A else bif decide (a=(7:Int))then(bif !d then(lX n b).bind fun p=>bif p then some (decide ((c.length:Int)=(2:Int)))else some false else some false).bind fun B=>some B else bif decide (a=(8:Int))then(bif !d then(hH n b).bind fun g=>bif g then some (decide ((c.length:Int)≤(4:Int)))else some false else some false).bind fun C=>some C else bif decide (a=(9:Int))then(bif !d then bif decide (b=([]:List UInt8))then bif decide ((c.length:Int)=(1:Int))then(cM n (s.length:Int) (1:Int) (6:Int)).bind fun j=>some j else some false else some false else some false).bind fun D=>some D else some false
theorem xO{n:Nat}:Ay (iM n):=by
 intro a7 a8 a9 b0 b1 b2 r h; unfold iM at h; refine bF Tryd.func61 rfl rfl<|gco 9 rfl<|xLn rfl<|goo 5 rfl<|oJn h [(9,27)] [] (fun a=>(.n,[(27,Bo a)],[])) (fun _ h=> ?_) (fun a h=> ?_)
 refine goo 4 rfl<|oIf 12 h rfl (fun q2 h=> ?_) (fun q2 h=> ?_)
 refine goo 2 rfl<|xLn rfl<|goo 3 rfl<|oIf 18 h rfl (fun q3 h=> ?_) (fun q3 h=> ?_)
 exact geo; refine goo 4 rfl<|oIf 22 h rfl (fun q4 h=> ?_) (fun q4 h=> ?_)
 exact geo; exact geo; refine goo 10 rfl<|oIf 22 h rfl (fun q5 h=> ?_) (fun q5 h=> ?_)
 exact geo; exact geo; refine cIf h rfl (fun q6 h=> ?_) (fun q6 h=> ?_)
 exact gec; refine gcc 13 rfl<|cIf h rfl (fun q7 h=> ?_) (fun q7 h=> ?_)
 refine cRs<|oJn h [(4,4),(32,43)] [] (fun o=>(.n,[(4,Bo o)],[])) (fun _ h=> ?_) (fun o h=> ?_)
 refine goo 2 rfl<|xC0 h (dH ·) rfl (fun a0 h=> ?_)
 refine xMv rfl<|oIf 35 h rfl (fun y h=> ?_) (fun y h=> ?_)
 refine goo 5 rfl<|oIf 40 h rfl (fun z h=> ?_) (fun z h=> ?_)
 exact geo; exact geo; exact geo; exact gec; refine gcc 5 rfl<|cIf h rfl (fun A h=> ?_) (fun A h=> ?_)
 refine cRs<|oJn h [(4,4),(46,52)] [] (fun b=>(.n,[(4,Bo b)],[])) (fun _ h=> ?_) (fun b h=> ?_)
 refine goo 2 rfl<|xC0 h (pY ·) rfl (fun t h=> ?_)
 refine xMv rfl<|oIf 49 h rfl (fun B h=> ?_) (fun B h=> ?_)
 exact geo; exact geo; exact gec; refine gcc 5 rfl<|cIf h rfl (fun C h=> ?_) (fun C h=> ?_)
 refine cRs<|oJn h [(4,4),(55,69)] [] (fun c=>(.n,[(4,Bo c)],[])) (fun _ h=> ?_) (fun c h=> ?_)
 refine goo 2 rfl<|xC0 h (xQ ·) rfl (fun u h=> ?_)
 refine xMv rfl<|oIf 58 h rfl (fun D h=> ?_) (fun D h=> ?_)
 refine goo 4 rfl<|oIf 62 h rfl (fun E h=> ?_) (fun E h=> ?_)
 refine goo 2 rfl<|oIf 64 h rfl (fun G h=> ?_) (fun G h=> ?_)
 exact geo; exact geo; exact geo; exact geo; exact gec; refine gcc 6 rfl<|cIf h rfl (fun H h=> ?_) (fun H h=> ?_)
 refine gco 4 rfl<|oJn h [(4,4),(73,79)] [] (fun d=>(.n,[(4,Bo d)],[])) (fun _ h=> ?_) (fun d h=> ?_)
 refine goo 4 rfl<|oIf 76 h rfl (fun I h=> ?_) (fun I h=> ?_)
 exact geo; exact geo; exact gec; refine gcc 4 rfl<|cIf h rfl (fun J h=> ?_) (fun J h=> ?_)
 refine cRs<|oJn h [(4,4),(73,79)] [] (fun f=>(.n,[(4,Bo f)],[])) (fun _ h=> ?_) (fun f h=> ?_)
 refine goo 4 rfl<|oIf 76 h rfl (fun K h=> ?_) (fun K h=> ?_)
 exact geo; exact geo; exact gec; refine gcc 5 rfl<|cIf h rfl (fun L h=> ?_) (fun L h=> ?_)
 refine cRs<|oJn h [(4,4),(82,88)] [] (fun g=>(.n,[(4,Bo g)],[])) (fun _ h=> ?_) (fun g h=> ?_)
 refine goo 4 rfl<|oIf 85 h rfl (fun M h=> ?_) (fun M h=> ?_)
 refine xMv rfl<|xC0 h (dH ·) rfl (fun v h=> ?_)
 exact geo; exact geo; exact gec; refine gcc 5 rfl<|cIf h rfl (fun N h=> ?_) (fun N h=> ?_)
 refine cRs<|oJn h [(4,4),(91,101)] [] (fun j=>(.n,[(4,Bo j)],[])) (fun _ h=> ?_) (fun j h=> ?_)
 refine goo 3 rfl<|oIf 93 h rfl (fun Q h=> ?_) (fun Q h=> ?_)
 refine goo 2 rfl<|xC0 h (Ct ·) rfl (fun w h=> ?_)
 refine goo 2 rfl<|oIf 98 h rfl (fun R h=> ?_) (fun R h=> ?_)
 exact geo; exact geo; exact geo; exact gec; refine gcc 5 rfl<|cIf h rfl (fun T h=> ?_) (fun T h=> ?_)
 refine cRs<|oJn h [(4,4),(104,114)] [] (fun l=>(.n,[(4,Bo l)],[])) (fun _ h=> ?_) (fun l h=> ?_)
 refine goo 3 rfl<|oIf 106 h rfl (fun U h=> ?_) (fun U h=> ?_)
 refine goo 2 rfl<|xC0 h (pY ·) rfl (fun p h=> ?_)
 refine goo 2 rfl<|oIf 111 h rfl (fun V h=> ?_) (fun V h=> ?_)
 exact geo; exact geo; exact geo; exact gec; refine gcc 5 rfl<|cIf h rfl (fun W h=> ?_) (fun W h=> ?_)
 refine cRs<|oJn h [(4,4),(117,133)] [] (fun m=>(.n,[(4,Bo m)],[])) (fun _ h=> ?_) (fun m h=> ?_)
 refine goo 3 rfl<|oIf 119 h rfl (fun X h=> ?_) (fun X h=> ?_)
 refine goo 5 rfl<|oIf 124 h rfl (fun Y h=> ?_) (fun Y h=> ?_)
 refine goo 4 rfl<|oIf 128 h rfl (fun Z h=> ?_) (fun Z h=> ?_)
 refine goo 2 rfl<|xLn rfl<|xC0 h (dH ·) rfl (fun s h=> ?_)
 exact geo; exact geo; exact geo; exact geo; exact gec; exact gec
abbrev Ea(p:(List (List UInt8))→(List UInt8)→Option (Bool)):Prop:= ∀ {a:List (List UInt8)} {b:List UInt8} {r:Bool},p a b=some r→Big Tryd.prog τ An (.fn 79 [.one (.c (.sl (a.map cU))), .one (.c (.str b))] [] (.one (.c (.bool r))) none [] none)
def gZ(n:Nat)(b:List (List UInt8))(d:List UInt8):(Int)→Option ((Int)⊕((Bool)⊕(Int×Bool)))
  | a=>bif decide (a<(b.length:Int))then(ix b a).bind fun c=>bif decide (c=d)then some (.inr (.inl true))else some (.inl (IntKind.wrap .i64 (a+(1:Int))))else some (.inr (.inr (a,false)))
def eG(n:Nat)(a:List (List UInt8))(b:List UInt8):Option (Bool):=
  (loopN (gZ n a b) n (0:Int)).bind fun q=>(match q with | .inl c=>some c | .inr (d,f)=>some false)
theorem kO{n:Nat}:Ea (eG n):=by
 intro l m r h; unfold eG at h; refine bF Tryd.func79 rfl rfl<|gcc 9 rfl<|cLp h [(4,17)] [] (fun b=>([(5,I64 b)],[])) (fun q=>match q with | .inl a=>(.r,[(4,Bo a)],[]) | .inr (c,d)=>(.e 0,[(5,I64 c),(9,Bo d)],[])) rfl (fun b _ h=> ?_) (fun q h=> ?_)
 unfold gZ at h; refine gco 5 rfl<|xLn rfl<|goc 2 rfl<|cIf h rfl (fun g h=> ?_) (fun g h=> ?_)
 refine gco 7 rfl<|xIx h mP rfl (fun f h=> ?_)
 refine goc 4 rfl<|cIf h rfl (fun j h=> ?_) (fun j h=> ?_)
 exact gec; exact gec; exact gec; rcases q with a | ⟨c,d⟩; exact en; exact gec
abbrev Cw(p:(List (List UInt8))→Option (Bool)):Prop:= ∀ {a:List (List UInt8)} {r:Bool},p a=some r→Big Tryd.prog τ An (.fn 62 [.one (.c (.sl (a.map cU)))] [] (.one (.c (.bool r))) none [] none)
def iV(n:Nat)(b:List (List UInt8)):(Int)→Option ((Int)⊕((Bool)⊕(Int×Bool)))
  | a=>bif decide (a<(b.length:Int))then(sub b none (some a)).bind fun f=>(ix b a).bind fun d=>(eG n f d).bind fun c=>bif c then some (.inr (.inl false))else some (.inl (IntKind.wrap .i64 (a+(1:Int))))else some (.inr (.inr (a,false)))
def jS(n:Nat)(a:List (List UInt8)):Option (Bool):=
  (loopN (iV n a) n (0:Int)).bind fun q=>(match q with | .inl b=>some b | .inr (c,d)=>some true)
theorem AJ{n:Nat}:Cw (jS n):=by
 intro o r h; unfold jS at h; refine bF Tryd.func62 rfl rfl<|gcc 9 rfl<|cLp h [(2,17)] [] (fun b=>([(3,I64 b)],[])) (fun q=>match q with | .inl a=>(.r,[(2,Bo a)],[]) | .inr (c,d)=>(.e 0,[(3,I64 c),(7,Bo d)],[])) rfl (fun b _ h=> ?_) (fun q h=> ?_)
 unfold iV at h; refine gco 5 rfl<|xLn rfl<|goc 2 rfl<|cIf h rfl (fun l h=> ?_) (fun l h=> ?_)
 refine gco 7 rfl<|wSl (rf:=cU) h rfl rfl rfl rfl .no (.so rfl) (fun _=>rfl) rfl (fun j h=> ?_)
 refine goo 2 rfl<|xIx h mP rfl (fun g h=> ?_)
 refine xLd rfl<|xC0 h (kO ·) rfl (fun f h=> ?_)
 refine oNl<|cIf h rfl (fun m h=> ?_) (fun m h=> ?_)
 exact gec; exact gec; exact gec; rcases q with a | ⟨c,d⟩; exact en; exact gec
abbrev hI:Type:=Int→Int→(List UInt8)→(List aA)→(List aB)→Option ((List (List UInt8)))
abbrev lQ(p:hI):Prop:= ∀ {a b:Int} {d:List UInt8} {f:List aA} {g:List aB} {r:(List (List UInt8))},p a b d f g=some r→Big Tryd.prog τ An (.fn 63 [.one (.ag [.int .i64 a, .int .i64 b, .str d, .sl (f.map aD), .sl (g.map aC)])] [] (.one (.c (.sl (r.map cU)))) none [] none)
def gC(n:Nat)(b:hI)(f:List aA):((List (List UInt8))×Int)→Option (((List (List UInt8))×Int)⊕(((List (List UInt8))×Int×Bool)))
  | (j,c)=>bif decide (c<(f.length:Int))then(ix f c).bind fun a=>(b a.f0 a.f1 a.f2 a.f3 a.f4).bind fun d=>(kG 16 j d).bind fun g=>some (.inl (g,(IntKind.wrap .i64 (c+(1:Int)))))else some (.inr (j,c,false))
def jQ(n:Nat)(a:hI)(d:Int)(l:Int)(b:List UInt8)(f:List aA)(m:List aB):Option ((List (List UInt8))):=
  bif decide (d=(3:Int))then bif !decide (b=([95]:List UInt8))then(kG 16 ([]:List (List UInt8)) ([b]:List (List UInt8))).bind fun c=>some c else some ([]:List (List UInt8))else(loopN (gC n a f) n (([]:List (List UInt8)),(0:Int))).bind fun(g,o,j)=>some g
theorem xI{n:Nat}{a:hI}(b:lQ a):lQ (jQ n a):=by
 intro y z m A B r h; unfold jQ at h; refine bF Tryd.func63 rfl rfl<|gco 3 rfl<|wAe (Li cU []) rfl rfl rfl rfl<|oRs<|eU (L:=([]:List (List UInt8))) (f:=cU) rfl rfl rfl rfl rfl rfl rfl<|goc 9 rfl<|cIf h rfl (fun u h=> ?_) (fun u h=> ?_)
 refine gcc 7 rfl<|cIf h rfl (fun v h=> ?_) (fun v h=> ?_)
 refine gco 4 rfl<|eU (L:=([m]:List (List UInt8))) (f:=cU) rfl rfl rfl rfl rfl rfl rfl<|wAp (f:=cU) h rfl rfl rfl rfl rfl rfl rfl rfl rfl (fun _=>rfl) rfl (fun t h=> ?_)
 exact geo; exact gec; refine gcc 6 rfl<|cLp h [(3,4),(18,32)] [] (fun(d,j)=>([(3,Li cU d),(4,I64 j)],[])) (fun(g,l,c)=>(.e 0,[(3,Li cU g),(4,I64 l),(22,Bo c)],[])) rfl (fun st _ h=> ?_) (fun q h=> ?_)
 obtain⟨d,j⟩:=st; unfold gC at h; refine gco 6 rfl<|xLn rfl<|goc 2 rfl<|cIf h rfl (fun w h=> ?_) (fun w h=> ?_)
 refine gco 8 rfl<|xIx h aH rfl (fun p h=> ?_)
 refine xLd rfl<|xC0 h (b ·) rfl (fun o h=> ?_)
 refine wAp (f:=cU) h rfl rfl rfl rfl rfl rfl rfl rfl rfl (fun _=>rfl) rfl (fun s h=> ?_)
 exact geo; exact gec; obtain⟨g,l,c⟩:=q; exact gec
def tO:Nat→(hI)
  | 0=>(fun _ _ _ _ _=>none)
  | n+1=>jQ n (tO n)
def eK(n:Nat):hI:=tO n
theorem xM(n:Nat):lQ (eK n):=by
  induction n with
  | zero=>exact(fun h=>nomatch h)
  | succ n ih=>exact xI (n:=n) ih
theorem AM{n:Nat}:lQ (eK n):=(xM n)
theorem uK(n:Nat):eK (n+1)=jQ n (eK n):=rfl
abbrev fO:Type:=Int→Int→(List UInt8)→(List aA)→(List aB)→Bool→Int→Int→Option (Int)
abbrev lN(p:fO):Prop:= ∀ {a b:Int} {d:List UInt8} {f:List aA} {g:List aB} {j:Bool} {l m:Int} {r:Int},p a b d f g j l m=some r→Big Tryd.prog τ An (.fn 38 [.one (.ag [.int .i64 a, .int .i64 b, .str d, .sl (f.map aD), .sl (g.map aC)]), .one (.c (.bool j)), .one (.c (.int .i64 l)), .one (.c (.int .i64 m))] [] (.one (.c (.int .i64 r))) none [] none)
def dN(n:Nat)(b:fO)(l:Bool)(m:Int)(g:List aA):(Int×Int)→Option ((Int×Int)⊕((Int×Int×Bool)))
  | (d,c)=>(bif decide (c<(g.length:Int))then some (decide ((0:Int)≤d))else some false).bind fun j=>bif j then(ix g c).bind fun a=>(b a.f0 a.f1 a.f2 a.f3 a.f4 l (IntKind.wrap .i64 (m - (1:Int))) d).bind fun f=>some (.inl (f,(IntKind.wrap .i64 (c+(1:Int)))))else some (.inr (d,c,false))
def dM(n:Nat)(b:fO)(s:Int)(j:List aB):(Int×Int)→Option ((Int×Int)⊕((Int)⊕(Int×Int×Bool)))
  | (l,a)=>(bif decide (a<(j.length:Int))then some (decide ((0:Int)≤l))else some false).bind fun t=>bif t then(((ix j a).bind fun c=>(eK n c.f0 c.f1 c.f2 c.f3 c.f4).bind fun m=>(jS n m).bind fun o=>bif !o then some (.inl ((-1):Int))else(ix j a).bind fun d=>(b d.f0 d.f1 d.f2 d.f3 d.f4 true (IntKind.wrap .i64 (s - (1:Int))) l).bind fun g=>bif decide ((0:Int)≤g)then(ix j a).bind fun f=>(b f.f5 f.f6 f.f7 f.f8 f.f9 false (IntKind.wrap .i64 (s - (1:Int))) g).bind fun p=>some (.inr p)else some (.inr g):Option ((Int)⊕(Int)))).bind fun q=>(match q with | .inl v=>some (.inr (.inl v)) | .inr u=>some (.inl (u,(IntKind.wrap .i64 (a+(1:Int))))))else some (.inr (.inr (l,a,false)))
def jN(n:Nat)(a:fO)(p:Int)(s:Int)(t:List UInt8)(c:List aA)(d:List aB)(f:Bool)(b:Int)(g:Int):Option (Int):=
  (bif decide (b<(1:Int))then some true else bif decide (g<(1:Int))then some true else(iM n p s t c d f).bind fun j=>some (!j)).bind fun l=>bif l then some ((-1):Int)else(loopN (dN n a f b c) n ((IntKind.wrap .i64 (g - (1:Int))),(0:Int))).bind fun(u,z,w)=>(loopN (dM n a b d) n (u,(0:Int))).bind fun q=>(match q with | .inl o=>some o | .inr (m,v,y)=>some m)
theorem xE{n:Nat}{b:fO}(a:lN b):lN (jN n b):=by
 intro X Y Z a0 a1 a2 a3 a4 r h; unfold jN at h; refine bF Tryd.func38 rfl rfl<|gco 8 rfl<|oJn h [(11,22)] [] (fun m=>(.n,[(22,Bo m)],[])) (fun _ h=> ?_) (fun m h=> ?_)
 refine goo 3 rfl<|oIf 13 h rfl (fun U h=> ?_) (fun U h=> ?_)
 exact geo; refine goo 4 rfl<|oIf 17 h rfl (fun V h=> ?_) (fun V h=> ?_)
 exact geo; refine goo 2 rfl<|xC0 h (xO ·) rfl (fun T h=> ?_)
 exact geo; refine cIf h rfl (fun W h=> ?_) (fun W h=> ?_)
 exact gec; refine gcc 12 rfl<|cLp h [(3,3),(9,9),(25,45)] [] (fun(v,y)=>([(3,I64 v),(9,I64 y)],[])) (fun(w,z,f)=>(.e 0,[(3,I64 w),(9,I64 z),(33,Bo f)],[])) rfl (fun st _ h=> ?_) (fun q h=> ?_)
 obtain⟨v,y⟩:=st; unfold dN at h; refine gco 3 rfl<|oJn h [(25,33)] [] (fun g=>(.n,[(33,Bo g)],[])) (fun _ h=> ?_) (fun g h=> ?_)
 refine goo 3 rfl<|xLn rfl<|goo 2 rfl<|oIf 30 h rfl (fun K h=> ?_) (fun K h=> ?_)
 exact geo; exact geo; refine cIf h rfl (fun L h=> ?_) (fun L h=> ?_)
 refine gco 7 rfl<|xIx h aH rfl (fun G h=> ?_)
 refine goo 5 rfl<|xC0 h (a ·) rfl (fun A h=> ?_)
 exact geo; exact gec; obtain⟨w,z,f⟩:=q; refine gcc 5 rfl<|cLp h [(3,3),(8,8),(10,10),(46,87)] [] (fun(o,c)=>([(3,I64 o),(10,I64 c)],[])) (fun q=>match q with | .inl t=>(.r,[(8,I64 t)],[]) | .inr (p,d,j)=>(.e 2,[(3,I64 p),(10,I64 d),(54,Bo j)],[])) rfl (fun st _ h=> ?_) (fun q h=> ?_)
 obtain⟨o,c⟩:=st; unfold dM at h; refine gco 3 rfl<|oJn h [(46,54)] [] (fun l=>(.n,[(54,Bo l)],[])) (fun _ h=> ?_) (fun l h=> ?_)
 refine goo 3 rfl<|xLn rfl<|goo 2 rfl<|oIf 51 h rfl (fun M h=> ?_) (fun M h=> ?_)
 exact geo; exact geo; refine cIf h rfl (fun N h=> ?_) (fun N h=> ?_)
 refine gcc 2 rfl<|cJn h [(3,3),(8,8),(57,87)] [] (fun q=>match q with | .inl u=>(.r,[(8,I64 u)],[]) | .inr s=>(.n,[(3,I64 s)],[])) (fun _ h=> ?_) (fun q h=> ?_)
 refine gco 7 rfl<|xIx h aJ rfl (fun H h=> ?_)
 refine goo 2 rfl<|xC0 h (AM ·) rfl (fun B h=> ?_)
 refine xC0 h (AJ ·) rfl (fun C h=> ?_)
 refine goc 2 rfl<|cIf h rfl (fun Q h=> ?_) (fun Q h=> ?_)
 exact gec; refine gco 6 rfl<|xIx h aJ rfl (fun I h=> ?_)
 refine goo 5 rfl<|xC0 h (a ·) rfl (fun D h=> ?_)
 refine goc 7 rfl<|cIf h rfl (fun R h=> ?_) (fun R h=> ?_)
 refine gco 4 rfl<|xIx h aJ rfl (fun J h=> ?_)
 refine goo 5 rfl<|xC0 h (a ·) rfl (fun E h=> ?_)
 exact geo; exact gec; rcases q with u | s; exact en; exact gec; exact gec; rcases q with t | ⟨p,d,j⟩; exact en; exact gec
def tL:Nat→(fO)
  | 0=>(fun _ _ _ _ _ _ _ _=>none)
  | n+1=>jN n (tL n)
def bW(n:Nat):fO:=tL n
theorem xJ(n:Nat):lN (bW n):=by
  induction n with
  | zero=>exact(fun h=>nomatch h)
  | succ n ih=>exact xE (n:=n) ih
theorem AK{n:Nat}:lN (bW n):=(xJ n)
theorem uH(n:Nat):bW (n+1)=jN n (bW n):=rfl
abbrev DC(p:Int→Int→(List UInt8)→(List aA)→(List aB)→Option (Bool)):Prop:= ∀ {a b:Int} {d:List UInt8} {f:List aA} {g:List aB} {r:Bool},p a b d f g=some r→Big Tryd.prog τ An (.fn 15 [.one (.ag [.int .i64 a, .int .i64 b, .str d, .sl (f.map aD), .sl (g.map aC)])] [] (.one (.c (.bool r))) none [] none)
def dG(n:Nat)(b:Int)(c:Int)(d:List UInt8)(f:List aA)(g:List aB):Option (Bool):=
  (bW n b c d f g false (10:Int) (300:Int)).bind fun a=>some (decide ((0:Int)≤a))
theorem mF{n:Nat}:DC (dG n):=by
 intro b c d f g r h; unfold dG at h; refine bF Tryd.func15 rfl rfl<|gco 8 rfl<|xC0 h (AK ·) rfl (fun a h=> ?_)
 exact geo
abbrev Cz(p:Int→(List Int)→Int→Int→Option (Bool×(List Int)×Int×Int)):Prop:= ∀ {f:Int} {a:List Int} {b d:Int} {r:Bool×(List Int)×Int×Int},p f a b d=some r→Big Tryd.prog τ An (.fn 56 [.one (.ptr 1000000 0), .one (.c (.int .i64 f))] [[.sl (a.map rI_u8), .int .i64 b, .int .i64 d]] (.one (.c (.bool r.1))) none [[.sl (r.2.1.map rI_u8), .int .i64 r.2.2.1, .int .i64 r.2.2.2]] none)
def fN(n:Nat)(f:Int)(b:List Int)(c:Int)(d:Int):Option (Bool×(List Int)×Int×Int):=
  (aG n f b c d).bind fun a=>some ((decide (a.1=(0:Int))),a.2.1,a.2.2.1,a.2.2.2)
theorem mE{n:Nat}:Cz (fN n):=by
 intro f b c d r h; unfold fN at h; refine bF Tryd.func56 rfl rfl<|gco 8 rfl<|xC1 h (aI ·) rfl (fun a h=> ?_)
 exact geo
abbrev Fw(p:(List UInt8)→Option (Int×Int×(List UInt8)×(List aA)×(List aB))):Prop:= ∀ {a:List UInt8} {r:Int×Int×(List UInt8)×(List aA)×(List aB)},p a=some r→Big Tryd.prog τ An (.fn 91 [.one (.c (.str a))] [] (.one (.ag [.int .i64 r.1, .int .i64 r.2.1, .str r.2.2.1, .sl (r.2.2.2.1.map aD), .sl (r.2.2.2.2.map aC)])) none [] none)
def iU(n:Nat)(a:List UInt8):Option (Int×Int×(List UInt8)×(List aA)×(List aB)):=
  some ((2:Int),(0:Int),a,([]:List aA),([]:List aB))
theorem oL{n:Nat}:Fw (iU n):=by
 intro a r h; unfold iU at h; exact bF Tryd.func91 rfl rfl<|cRs<|xAz [.int .i64 0, .int .i64 0, .str [], .sl ([].map aD), .sl ([].map aC)] rfl<|goo 4 rfl<|wBd [.int .i64 2, .int .i64 0, .str a, .sl ([].map aD), .sl ([].map aC)] rfl rfl rfl rfl rfl rfl<|geo
abbrev gU:Type:=Int→(List Int)→Int→Int→(List (List UInt8))→Option (Int×Int×(List UInt8)×(List aA)×(List aB)×(List Int)×Int×Int×(List (List UInt8)))
abbrev nD(p:gU):Prop:= ∀ {g:Int} {a:List Int} {b d:Int} {f:List (List UInt8)} {r:Int×Int×(List UInt8)×(List aA)×(List aB)×(List Int)×Int×Int×(List (List UInt8))},p g a b d f=some r→Big Tryd.prog τ An (.fn 92 [.one (.ptr 1000000 0), .one (.c (.int .i64 g)), .one (.ptr 1000001 0)] [[.sl (a.map rI_u8), .int .i64 b, .int .i64 d],[.sl (f.map cU)]] (.one (.ag [.int .i64 r.1, .int .i64 r.2.1, .str r.2.2.1, .sl (r.2.2.2.1.map aD), .sl (r.2.2.2.2.1.map aC)])) none [[.sl (r.2.2.2.2.2.1.map rI_u8), .int .i64 r.2.2.2.2.2.2.1, .int .i64 r.2.2.2.2.2.2.2.1],[.sl (r.2.2.2.2.2.2.2.2.map cU)]] none)
def jZ(n:Nat)(g:gU)(y:Int):(Int×Int×Int×(List UInt8)×(List aA)×(List aB)×(List Int)×Int×Int×(List (List UInt8)))→Option ((Int×Int×Int×(List UInt8)×(List aA)×(List aB)×(List Int)×Int×Int×(List (List UInt8)))⊕((Int×Bool×Int×Int×(List UInt8)×(List aA)×(List aB)×(List Int)×Int×Int×(List (List UInt8)))))
  | (j,s,t,u,v,w,b,c,d,f)=>bif decide (j<(2:Int))then((bif decide ((0:Int)<y)then(g (IntKind.wrap .i64 (y - (1:Int))) b c d f).bind fun a=>(kG 80 v ([aA.mk a.1 a.2.1 a.2.2.1 a.2.2.2.1 a.2.2.2.2.1]:List aA)).bind fun z=>some (s,t,u,z,w,a.2.2.2.2.2.1,a.2.2.2.2.2.2.1,a.2.2.2.2.2.2.2.1,a.2.2.2.2.2.2.2.2)else(kG 80 v ([aA.mk (3:Int) (0:Int) ([95]:List UInt8) ([]:List aA) ([]:List aB)]:List aA)).bind fun A=>some (s,t,u,A,w,b,c,d,f):Option ((Int×Int×(List UInt8)×(List aA)×(List aB)×(List Int)×Int×Int×(List (List UInt8)))))).bind fun(B,C,D,E,G,l,m,o,p)=>some (.inl ((IntKind.wrap .i64 (j+(1:Int))),B,C,D,E,G,l,m,o,p))else some (.inr (j,false,s,t,u,v,w,b,c,d,f))
def jY(n:Nat)(g:gU)(z:Int)(y:Int×(List Int)×Int×Int):(Int×Int×Int×(List UInt8)×(List aA)×(List aB)×(List Int)×Int×Int×(List (List UInt8)))→Option ((Int×Int×Int×(List UInt8)×(List aA)×(List aB)×(List Int)×Int×Int×(List (List UInt8)))⊕((Int×Bool×Int×Int×(List UInt8)×(List aA)×(List aB)×(List Int)×Int×Int×(List (List UInt8)))))
  | (j,s,t,u,v,w,b,c,d,f)=>bif decide (j<y.1)then((bif decide ((0:Int)<z)then(g (IntKind.wrap .i64 (z - (1:Int))) b c d f).bind fun a=>(kG 80 v ([aA.mk a.1 a.2.1 a.2.2.1 a.2.2.2.1 a.2.2.2.2.1]:List aA)).bind fun A=>some (s,t,u,A,w,a.2.2.2.2.2.1,a.2.2.2.2.2.2.1,a.2.2.2.2.2.2.2.1,a.2.2.2.2.2.2.2.2)else(kG 80 v ([aA.mk (3:Int) (0:Int) ([95]:List UInt8) ([]:List aA) ([]:List aB)]:List aA)).bind fun B=>some (s,t,u,B,w,b,c,d,f):Option ((Int×Int×(List UInt8)×(List aA)×(List aB)×(List Int)×Int×Int×(List (List UInt8)))))).bind fun(C,D,E,G,H,l,m,o,p)=>some (.inl ((IntKind.wrap .i64 (j+(1:Int))),C,D,E,G,H,l,m,o,p))else some (.inr (j,false,s,t,u,v,w,b,c,d,f))
def kP(n:Nat)(l:gU)(G:Int)(X:List Int)(Y:Int)(Z:Int)(f:List (List UInt8)):Option (Int×Int×(List UInt8)×(List aA)×(List aB)×(List Int)×Int×Int×(List (List UInt8))):=
  (aG n (8:Int) X Y Z).bind fun a=>bif decide (a.1=(0:Int))then(aG n (3:Int) a.2.1 a.2.2.1 a.2.2.2).bind fun p=>(bL n p.1).bind fun m=>some (m.1,m.2.1,m.2.2.1,m.2.2.2.1,m.2.2.2.2,p.2.1,p.2.2.1,p.2.2.2,f)else bif decide (a.1=(1:Int))then(aU n ([([111,107]:List UInt8),([97]:List UInt8),([115,116,111,112]:List UInt8)]:List (List UInt8)) a.2.1 a.2.2.1 a.2.2.2).bind fun s=>(iU n s.1).bind fun o=>some (o.1,o.2.1,o.2.2.1,o.2.2.2.1,o.2.2.2.2,s.2.1,s.2.2.1,s.2.2.2,f)else bif decide (a.1=(2:Int))then some ((3:Int),(0:Int),([95]:List UInt8),([]:List aA),([]:List aB),a.2.1,a.2.2.1,a.2.2.2,f)else bif decide (a.1=(3:Int))then(aU n ([([65]:List UInt8),([66]:List UInt8),([67]:List UInt8),([68]:List UInt8),([72]:List UInt8),([84]:List UInt8)]:List (List UInt8)) a.2.1 a.2.2.1 a.2.2.2).bind fun b=>(eG n f b.1).bind fun C=>bif C then some ((3:Int),(0:Int),([95]:List UInt8),([]:List aA),([]:List aB),b.2.1,b.2.2.1,b.2.2.2,f)else(kG 16 f ([b.1]:List (List UInt8))).bind fun H=>some ((3:Int),(0:Int),b.1,([]:List aA),([]:List aB),b.2.1,b.2.2.1,b.2.2.2,H)else bif decide (a.1=(4:Int))then(aU n ([([65]:List UInt8),([66]:List UInt8),([67]:List UInt8),([68]:List UInt8),([72]:List UInt8),([84]:List UInt8)]:List (List UInt8)) a.2.1 a.2.2.1 a.2.2.2).bind fun c=>(eG n f c.1).bind fun D=>bif D then some ((3:Int),(0:Int),([95]:List UInt8),([]:List aA),([]:List aB),c.2.1,c.2.2.1,c.2.2.2,f)else(kG 16 f ([c.1]:List (List UInt8))).bind fun I=>some ((3:Int),(0:Int),c.1,([]:List aA),([]:List aB),c.2.1,c.2.2.1,c.2.2.2,I)else bif decide (a.1=(5:Int))then(aU n ([([65]:List UInt8),([66]:List UInt8),([67]:List UInt8),([68]:List UInt8),([72]:List UInt8),([84]:List UInt8)]:List (List UInt8)) a.2.1 a.2.2.1 a.2.2.2).bind fun d=>(eG n f d.1).bind fun E=>bif E then some ((3:Int),(0:Int),([95]:List UInt8),([]:List aA),([]:List aB),d.2.1,d.2.2.1,d.2.2.2,f)else(kG 16 f ([d.1]:List (List UInt8))).bind fun J=>some ((3:Int),(0:Int),d.1,([]:List aA),([]:List aB),d.2.1,d.2.2.1,d.2.2.2,J)else(dI n ([(4:Int),(5:Int),(6:Int)]:List Int) a.2.1 a.2.2.1 a.2.2.2).bind fun j=>(aG n (3:Int) j.2.1 j.2.2.1 j.2.2.2).bind fun g=>bif decide (j.1=(6:Int))then(loopN (jZ n l G) n ((0:Int),j.1,(0:Int),([]:List UInt8),([]:List aA),([]:List aB),g.2.1,g.2.2.1,g.2.2.2,f)).bind fun(a0,a2,K,L,M,N,Q,t,u,v,A)=>some (K,L,M,N,Q,t,u,v,A)else(loopN (jY n l G g) n ((0:Int),j.1,(0:Int),([]:List UInt8),([]:List aA),([]:List aB),g.2.1,g.2.2.1,g.2.2.2,f)).bind fun(a1,a3,R,T,U,V,W,w,y,z,B)=>some (R,T,U,V,W,w,y,z,B)
theorem AG{n:Nat}{g:gU}(b:nD g):nD (kP n g):=by
 intro g5 f7 f8 f9 g0 r h; unfold kP at h; refine bF Tryd.func92 rfl rfl<|cRs<|xAz [.int .i64 0, .int .i64 0, .str [], .sl ([].map aD), .sl ([].map aC)] rfl<|goo 5 rfl<|xC1 h (aI ·) rfl (fun f2 h=> ?_)
 refine goc 7 rfl<|cIf h rfl (fun q2 h=> ?_) (fun q2 h=> ?_)
 refine gco 3 rfl<|xC1 h (aI ·) rfl (fun f3 h=> ?_)
 refine xC0 h (bZ ·) rfl (fun f4 h=> ?_)
 exact geo; refine gcc 5 rfl<|cIf h rfl (fun q5 h=> ?_) (fun q5 h=> ?_)
 refine gco 3 rfl<|eU (L:=([([111,107]:List UInt8),([97]:List UInt8),([115,116,111,112]:List UInt8)]:List (List UInt8))) (f:=cU) rfl rfl rfl rfl rfl rfl rfl<|xC1 h (bU ·) rfl (fun f5 h=> ?_)
 refine xC0 h (oL ·) rfl (fun f6 h=> ?_)
 exact geo; refine gcc 5 rfl<|cIf h rfl (fun q8 h=> ?_) (fun q8 h=> ?_)
 exact cRs<|wBd [.int .i64 3, .int .i64 0, .str [95], .sl ([].map aD), .sl ([].map aC)] rfl rfl rfl rfl rfl rfl<|geo
 refine gcc 6 rfl<|cIf h rfl (fun q9 h=> ?_) (fun q9 h=> ?_)
 refine gco 5 rfl<|eU (L:=([([65]:List UInt8),([66]:List UInt8),([67]:List UInt8),([68]:List UInt8),([72]:List UInt8),([84]:List UInt8)]:List (List UInt8))) (f:=cU) rfl rfl rfl rfl rfl rfl rfl<|xC1 h (bU ·) rfl (fun Q h=> ?_)
 refine goo 9 rfl<|xC0 h (kO ·) rfl (fun d1 h=> ?_)
 refine oNl<|cIf h rfl (fun d5 h=> ?_) (fun d5 h=> ?_)
 exact cRs<|wBd [.int .i64 3, .int .i64 0, .str [95], .sl ([].map aD), .sl ([].map aC)] rfl rfl rfl rfl rfl rfl<|geo
 refine gco 8 rfl<|eU (L:=([Q.1]:List (List UInt8))) (f:=cU) rfl rfl rfl rfl rfl rfl rfl<|wAp (f:=cU) h rfl rfl rfl rfl rfl rfl rfl rfl rfl (fun _=>rfl) rfl (fun e5 h=> ?_)
 exact goo 6 rfl<|wBd [.int .i64 3, .int .i64 0, .str Q.1, .sl ([].map aD), .sl ([].map aC)] rfl rfl rfl rfl rfl rfl<|geo
 refine gcc 5 rfl<|cIf h rfl (fun d6 h=> ?_) (fun d6 h=> ?_)
 refine gco 5 rfl<|eU (L:=([([65]:List UInt8),([66]:List UInt8),([67]:List UInt8),([68]:List UInt8),([72]:List UInt8),([84]:List UInt8)]:List (List UInt8))) (f:=cU) rfl rfl rfl rfl rfl rfl rfl<|xC1 h (bU ·) rfl (fun R h=> ?_)
 refine goo 9 rfl<|xC0 h (kO ·) rfl (fun d2 h=> ?_)
 refine oNl<|cIf h rfl (fun d7 h=> ?_) (fun d7 h=> ?_)
 exact cRs<|wBd [.int .i64 3, .int .i64 0, .str [95], .sl ([].map aD), .sl ([].map aC)] rfl rfl rfl rfl rfl rfl<|geo
 refine gco 8 rfl<|eU (L:=([R.1]:List (List UInt8))) (f:=cU) rfl rfl rfl rfl rfl rfl rfl<|wAp (f:=cU) h rfl rfl rfl rfl rfl rfl rfl rfl rfl (fun _=>rfl) rfl (fun e6 h=> ?_)
 exact goo 6 rfl<|wBd [.int .i64 3, .int .i64 0, .str R.1, .sl ([].map aD), .sl ([].map aC)] rfl rfl rfl rfl rfl rfl<|geo
 refine gcc 4 rfl<|cIf h rfl (fun d8 h=> ?_) (fun d8 h=> ?_)
 refine gco 3 rfl<|eU (L:=([([65]:List UInt8),([66]:List UInt8),([67]:List UInt8),([68]:List UInt8),([72]:List UInt8),([84]:List UInt8)]:List (List UInt8))) (f:=cU) rfl rfl rfl rfl rfl rfl rfl<|xC1 h (bU ·) rfl (fun T h=> ?_)
 refine goo 9 rfl<|xC0 h (kO ·) rfl (fun d3 h=> ?_)
 refine oNl<|cIf h rfl (fun d9 h=> ?_) (fun d9 h=> ?_)
 exact cRs<|wBd [.int .i64 3, .int .i64 0, .str [95], .sl ([].map aD), .sl ([].map aC)] rfl rfl rfl rfl rfl rfl<|geo
 refine gco 8 rfl<|eU (L:=([T.1]:List (List UInt8))) (f:=cU) rfl rfl rfl rfl rfl rfl rfl<|wAp (f:=cU) h rfl rfl rfl rfl rfl rfl rfl rfl rfl (fun _=>rfl) rfl (fun e7 h=> ?_)
 exact goo 6 rfl<|wBd [.int .i64 3, .int .i64 0, .str T.1, .sl ([].map aD), .sl ([].map aC)] rfl rfl rfl rfl rfl rfl<|geo
 refine gco 4 rfl<|eU (L:=([(4:Int),(5:Int),(6:Int)]:List Int)) (f:=uS) rfl rfl rfl rfl rfl rfl rfl<|xC1 h (gJ ·) rfl (fun d0 h=> ?_)
 refine wBd [.int .i64 d0.1, .int .i64 0, .str [], .sl ([].map aD), .sl ([].map aC)] rfl rfl rfl rfl rfl rfl<|xAz [.int .i64 0, .int .i64 0, .str [], .sl ([].map aD), .sl ([].map aC)] rfl<|goo 5 rfl<|xC1 h (aI ·) rfl (fun d4 h=> ?_)
 refine goc 9 rfl<|cIf h rfl (fun e0 h=> ?_) (fun e0 h=> ?_)
 refine gcc 8 rfl<|cLp h [(10,10),(59,81)] [(8,8),(1000000,1000001)] (fun(U,a0,a1,a2,a3,a4,j,l,m,H)=>([(10,I64 U)],[(8,[.int .i64 a0, .int .i64 a1, .str a2, .sl (a3.map aD), .sl (a4.map aC)]),(1000000,[.sl (j.map rI_u8), .int .i64 l, .int .i64 m]),(1000001,[.sl (H.map cU)])])) (fun(V,Y,a5,a6,a7,a8,a9,o,p,s,I)=>(.e 1,[(10,I64 V),(61,Bo Y)],[(8,[.int .i64 a5, .int .i64 a6, .str a7, .sl (a8.map aD), .sl (a9.map aC)]),(1000000,[.sl (o.map rI_u8), .int .i64 p, .int .i64 s]),(1000001,[.sl (I.map cU)])])) rfl (fun st _ h=> ?_) (fun q h=> ?_)
 obtain⟨U,a0,a1,a2,a3,a4,j,l,m,H⟩:=st; unfold jZ at h; refine gcc 7 rfl<|cIf h rfl (fun e1 h=> ?_) (fun e1 h=> ?_)
 refine gcc 2 rfl<|cJn h [(64,81)] [(8,8),(1000000,1000001)] (fun(b0,b1,b2,b3,b4,t,u,v,J)=>(.n,[],[(8,[.int .i64 b0, .int .i64 b1, .str b2, .sl (b3.map aD), .sl (b4.map aC)]),(1000000,[.sl (t.map rI_u8), .int .i64 u, .int .i64 v]),(1000001,[.sl (J.map cU)])])) (fun _ h=> ?_) (fun q h=> ?_)
 refine gcc 6 rfl<|cIf h rfl (fun e2 h=> ?_) (fun e2 h=> ?_)
 refine gco 7 rfl<|xCk h (b ·) rfl (fun c h=> ?_)
 refine eU (L:=([aA.mk c.1 c.2.1 c.2.2.1 c.2.2.2.1 c.2.2.2.2.1]:List aA)) (f:=aD) rfl rfl rfl rfl (by simp only[List.map,aK]<;>rfl) rfl rfl<|wAp (f:=aD) h rfl rfl rfl rfl rfl rfl rfl rfl rfl (fun a=>by rw[aH]; rfl) rfl (fun e8 h=> ?_)
 exact geo; refine gco 3 rfl<|wBd [.int .i64 3, .int .i64 0, .str [95], .sl ([].map aD), .sl ([].map aC)] rfl rfl rfl rfl rfl rfl<|eU (L:=([aA.mk (3:Int) (0:Int) ([95]:List UInt8) ([]:List aA) ([]:List aB)]:List aA)) (f:=aD) rfl rfl rfl rfl (by simp only[List.map,aK]<;>rfl) rfl rfl<|wAp (f:=aD) h rfl rfl rfl rfl rfl rfl rfl rfl rfl (fun a=>by rw[aH]; rfl) rfl (fun f0 h=> ?_)
 exact geo; obtain⟨b0,b1,b2,b3,b4,t,u,v,J⟩:=q; exact gec; exact gec; obtain⟨V,Y,a5,a6,a7,a8,a9,o,p,s,I⟩:=q; exact gec; refine gcc 6 rfl<|cLp h [(10,10),(59,81)] [(8,8),(1000000,1000001)] (fun(W,b5,b6,b7,b8,b9,w,y,z,K)=>([(10,I64 W)],[(8,[.int .i64 b5, .int .i64 b6, .str b7, .sl (b8.map aD), .sl (b9.map aC)]),(1000000,[.sl (w.map rI_u8), .int .i64 y, .int .i64 z]),(1000001,[.sl (K.map cU)])])) (fun(X,Z,c0,c1,c2,c3,c4,A,B,C,M)=>(.e 1,[(10,I64 X),(61,Bo Z)],[(8,[.int .i64 c0, .int .i64 c1, .str c2, .sl (c3.map aD), .sl (c4.map aC)]),(1000000,[.sl (A.map rI_u8), .int .i64 B, .int .i64 C]),(1000001,[.sl (M.map cU)])])) rfl (fun st _ h=> ?_) (fun q h=> ?_)
 obtain⟨W,b5,b6,b7,b8,b9,w,y,z,K⟩:=st; unfold jY at h; refine gcc 7 rfl<|cIf h rfl (fun e3 h=> ?_) (fun e3 h=> ?_)
 refine gcc 2 rfl<|cJn h [(64,81)] [(8,8),(1000000,1000001)] (fun(c5,c6,c7,c8,c9,D,E,G,N)=>(.n,[],[(8,[.int .i64 c5, .int .i64 c6, .str c7, .sl (c8.map aD), .sl (c9.map aC)]),(1000000,[.sl (D.map rI_u8), .int .i64 E, .int .i64 G]),(1000001,[.sl (N.map cU)])])) (fun _ h=> ?_) (fun q h=> ?_)
 refine gcc 6 rfl<|cIf h rfl (fun e4 h=> ?_) (fun e4 h=> ?_)
 refine gco 7 rfl<|xCk h (b ·) rfl (fun d h=> ?_)
 refine eU (L:=([aA.mk d.1 d.2.1 d.2.2.1 d.2.2.2.1 d.2.2.2.2.1]:List aA)) (f:=aD) rfl rfl rfl rfl (by simp only[List.map,aK]<;>rfl) rfl rfl<|wAp (f:=aD) h rfl rfl rfl rfl rfl rfl rfl rfl rfl (fun a=>by rw[aH]; rfl) rfl (fun e9 h=> ?_)
 exact geo; refine gco 3 rfl<|wBd [.int .i64 3, .int .i64 0, .str [95], .sl ([].map aD), .sl ([].map aC)] rfl rfl rfl rfl rfl rfl<|eU (L:=([aA.mk (3:Int) (0:Int) ([95]:List UInt8) ([]:List aA) ([]:List aB)]:List aA)) (f:=aD) rfl rfl rfl rfl (by simp only[List.map,aK]<;>rfl) rfl rfl<|wAp (f:=aD) h rfl rfl rfl rfl rfl rfl rfl rfl rfl (fun a=>by rw[aH]; rfl) rfl (fun f1 h=> ?_)
 exact geo; obtain⟨c5,c6,c7,c8,c9,D,E,G,N⟩:=q; exact gec; exact gec; obtain⟨X,Z,c0,c1,c2,c3,c4,A,B,C,M⟩:=q; exact gec
def wF:Nat→(gU)
  | 0=>(fun _ _ _ _ _=>none)
  | n+1=>kP n (wF n)
def cS(n:Nat):gU:=wF n
theorem AI(n:Nat):nD (cS n):=by
  induction n with
  | zero=>exact(fun h=>nomatch h)
  | succ n ih=>exact AG (n:=n) ih
theorem rK{n:Nat}:nD (cS n):=(AI n)
theorem vS(n:Nat):cS (n+1)=kP n (cS n):=rfl
abbrev cC:Type:=Int→(List (List UInt8))→(List Int)→Int→Int→Option (Int×Int×(List UInt8)×(List aA)×(List aB)×(List Int)×Int×Int)
abbrev lO(p:cC):Prop:= ∀ {f:Int} {g:List (List UInt8)} {a:List Int} {b d:Int} {r:Int×Int×(List UInt8)×(List aA)×(List aB)×(List Int)×Int×Int},p f g a b d=some r→Big Tryd.prog τ An (.fn 74 [.one (.ptr 1000000 0), .one (.c (.int .i64 f)), .one (.c (.sl (g.map cU)))] [[.sl (a.map rI_u8), .int .i64 b, .int .i64 d]] (.one (.ag [.int .i64 r.1, .int .i64 r.2.1, .str r.2.2.1, .sl (r.2.2.2.1.map aD), .sl (r.2.2.2.2.1.map aC)])) none [[.sl (r.2.2.2.2.2.1.map rI_u8), .int .i64 r.2.2.2.2.2.2.1, .int .i64 r.2.2.2.2.2.2.2]] none)
def oT(n:Nat)(f:cC)(t:Int)(u:List (List UInt8)):(Int×Int×Int×(List UInt8)×(List aA)×(List aB)×(List Int)×Int×Int)→Option ((Int×Int×Int×(List UInt8)×(List aA)×(List aB)×(List Int)×Int×Int)⊕((Int×Bool×Int×Int×(List UInt8)×(List aA)×(List aB)×(List Int)×Int×Int)))
  | (g,j,l,m,o,p,b,c,d)=>bif decide ((0:Int)<g)then(f (IntKind.wrap .i64 (t - (1:Int))) u b c d).bind fun a=>(kG 80 o ([aA.mk a.1 a.2.1 a.2.2.1 a.2.2.2.1 a.2.2.2.2.1]:List aA)).bind fun s=>some (.inl ((IntKind.wrap .i64 (g - (1:Int))),j,l,m,s,p,a.2.2.2.2.2.1,a.2.2.2.2.2.2.1,a.2.2.2.2.2.2.2))else some (.inr (g,false,j,l,m,o,p,b,c,d))
def oS(n:Nat)(f:cC)(t:Int)(u:List (List UInt8)):(Int×Int×Int×(List UInt8)×(List aA)×(List aB)×(List Int)×Int×Int)→Option ((Int×Int×Int×(List UInt8)×(List aA)×(List aB)×(List Int)×Int×Int)⊕((Int×Bool×Int×Int×(List UInt8)×(List aA)×(List aB)×(List Int)×Int×Int)))
  | (g,j,l,m,o,p,b,c,d)=>bif decide (g<(2:Int))then(f (IntKind.wrap .i64 (t - (1:Int))) u b c d).bind fun a=>(kG 80 o ([aA.mk a.1 a.2.1 a.2.2.1 a.2.2.2.1 a.2.2.2.2.1]:List aA)).bind fun s=>some (.inl ((IntKind.wrap .i64 (g+(1:Int))),j,l,m,s,p,a.2.2.2.2.2.1,a.2.2.2.2.2.2.1,a.2.2.2.2.2.2.2))else some (.inr (g,false,j,l,m,o,p,b,c,d))
def oR(n:Nat)(f:cC)(t:Int)(u:List (List UInt8)):(Int×Int×Int×(List UInt8)×(List aA)×(List aB)×(List Int)×Int×Int)→Option ((Int×Int×Int×(List UInt8)×(List aA)×(List aB)×(List Int)×Int×Int)⊕((Int×Bool×Int×Int×(List UInt8)×(List aA)×(List aB)×(List Int)×Int×Int)))
  | (g,j,l,m,o,p,b,c,d)=>bif decide (g<(1:Int))then(f (IntKind.wrap .i64 (t - (1:Int))) u b c d).bind fun a=>(kG 80 o ([aA.mk a.1 a.2.1 a.2.2.1 a.2.2.2.1 a.2.2.2.2.1]:List aA)).bind fun s=>some (.inl ((IntKind.wrap .i64 (g+(1:Int))),j,l,m,s,p,a.2.2.2.2.2.1,a.2.2.2.2.2.2.1,a.2.2.2.2.2.2.2))else some (.inr (g,false,j,l,m,o,p,b,c,d))
def oQ(n:Nat)(j:cC)(w:Int)(y:List (List UInt8)):(Int×Int×Int×(List UInt8)×(List aA)×(List aB)×(List Int)×Int×Int)→Option ((Int×Int×Int×(List UInt8)×(List aA)×(List aB)×(List Int)×Int×Int)⊕((Int×Bool×Int×Int×(List UInt8)×(List aA)×(List aB)×(List Int)×Int×Int)))
  | (g,l,m,o,p,s,c,d,f)=>bif decide ((0:Int)<g)then(cS n (1:Int) c d f ([]:List (List UInt8))).bind fun a=>(kG 16 ([]:List (List UInt8)) y).bind fun t=>(kG 16 t a.2.2.2.2.2.2.2.2).bind fun u=>(j (IntKind.wrap .i64 (w - (1:Int))) u a.2.2.2.2.2.1 a.2.2.2.2.2.2.1 a.2.2.2.2.2.2.2.1).bind fun b=>(kG 160 s ([aB.mk a.1 a.2.1 a.2.2.1 a.2.2.2.1 a.2.2.2.2.1 b.1 b.2.1 b.2.2.1 b.2.2.2.1 b.2.2.2.2.1]:List aB)).bind fun v=>some (.inl ((IntKind.wrap .i64 (g - (1:Int))),l,m,o,p,v,b.2.2.2.2.2.1,b.2.2.2.2.2.2.1,b.2.2.2.2.2.2.2))else some (.inr (g,false,l,m,o,p,s,c,d,f))
def iZ(n:Nat)(f:cC)(t:Int)(u:List (List UInt8)):(Int×Int×Int×(List UInt8)×(List aA)×(List aB)×(List Int)×Int×Int)→Option ((Int×Int×Int×(List UInt8)×(List aA)×(List aB)×(List Int)×Int×Int)⊕((Int×Bool×Int×Int×(List UInt8)×(List aA)×(List aB)×(List Int)×Int×Int)))
  | (g,j,l,m,o,p,b,c,d)=>bif decide ((0:Int)<g)then(f (IntKind.wrap .i64 (t - (1:Int))) u b c d).bind fun a=>(kG 80 o ([aA.mk a.1 a.2.1 a.2.2.1 a.2.2.2.1 a.2.2.2.2.1]:List aA)).bind fun s=>some (.inl ((IntKind.wrap .i64 (g - (1:Int))),j,l,m,s,p,a.2.2.2.2.2.1,a.2.2.2.2.2.2.1,a.2.2.2.2.2.2.2))else some (.inr (g,false,j,l,m,o,p,b,c,d))
def iY(n:Nat)(g:cC)(t:Int)(u:List (List UInt8)):(Int×Int×Int×(List UInt8)×(List aA)×(List aB)×(List Int)×Int×Int)→Option ((Int×Int×Int×(List UInt8)×(List aA)×(List aB)×(List Int)×Int×Int)⊕((Int×Bool×Int×Int×(List UInt8)×(List aA)×(List aB)×(List Int)×Int×Int)))
  | (f,j,l,m,o,p,b,c,d)=>bif decide (f<(2:Int))then(g (IntKind.wrap .i64 (t - (1:Int))) u b c d).bind fun a=>(kG 80 o ([aA.mk a.1 a.2.1 a.2.2.1 a.2.2.2.1 a.2.2.2.2.1]:List aA)).bind fun s=>some (.inl ((IntKind.wrap .i64 (f+(1:Int))),j,l,m,s,p,a.2.2.2.2.2.1,a.2.2.2.2.2.2.1,a.2.2.2.2.2.2.2))else some (.inr (f,false,j,l,m,o,p,b,c,d))
def iX(n:Nat)(g:cC)(t:Int)(u:List (List UInt8)):(Int×Int×Int×(List UInt8)×(List aA)×(List aB)×(List Int)×Int×Int)→Option ((Int×Int×Int×(List UInt8)×(List aA)×(List aB)×(List Int)×Int×Int)⊕((Int×Bool×Int×Int×(List UInt8)×(List aA)×(List aB)×(List Int)×Int×Int)))
  | (f,j,l,m,o,p,b,c,d)=>bif decide (f<(1:Int))then(g (IntKind.wrap .i64 (t - (1:Int))) u b c d).bind fun a=>(kG 80 o ([aA.mk a.1 a.2.1 a.2.2.1 a.2.2.2.1 a.2.2.2.2.1]:List aA)).bind fun s=>some (.inl ((IntKind.wrap .i64 (f+(1:Int))),j,l,m,s,p,a.2.2.2.2.2.1,a.2.2.2.2.2.2.1,a.2.2.2.2.2.2.2))else some (.inr (f,false,j,l,m,o,p,b,c,d))
def iW(n:Nat)(j:cC)(w:Int)(y:List (List UInt8)):(Int×Int×Int×(List UInt8)×(List aA)×(List aB)×(List Int)×Int×Int)→Option ((Int×Int×Int×(List UInt8)×(List aA)×(List aB)×(List Int)×Int×Int)⊕((Int×Bool×Int×Int×(List UInt8)×(List aA)×(List aB)×(List Int)×Int×Int)))
  | (g,l,m,o,p,s,c,d,f)=>bif decide ((0:Int)<g)then(cS n (1:Int) c d f ([]:List (List UInt8))).bind fun a=>(kG 16 ([]:List (List UInt8)) y).bind fun t=>(kG 16 t a.2.2.2.2.2.2.2.2).bind fun u=>(j (IntKind.wrap .i64 (w - (1:Int))) u a.2.2.2.2.2.1 a.2.2.2.2.2.2.1 a.2.2.2.2.2.2.2.1).bind fun b=>(kG 160 s ([aB.mk a.1 a.2.1 a.2.2.1 a.2.2.2.1 a.2.2.2.2.1 b.1 b.2.1 b.2.2.1 b.2.2.2.1 b.2.2.2.2.1]:List aB)).bind fun v=>some (.inl ((IntKind.wrap .i64 (g - (1:Int))),l,m,o,p,v,b.2.2.2.2.2.1,b.2.2.2.2.2.2.1,b.2.2.2.2.2.2.2))else some (.inr (g,false,l,m,o,p,s,c,d,f))
def jO(n:Nat)(a:cC)(f:Int)(d:List (List UInt8))(j3:List Int)(j4:Int)(j5:Int):Option (Int×Int×(List UInt8)×(List aA)×(List aB)×(List Int)×Int×Int):=
  (aG n (11:Int) j3 j4 j5).bind fun b=>bif decide (f<(1:Int))then(aG n (4:Int) b.2.1 b.2.2.1 b.2.2.2).bind fun c=>bif decide (c.1=(0:Int))then(dI n ([(0:Int),(1:Int),(2:Int),(5:Int),(40:Int)]:List Int) c.2.1 c.2.2.1 c.2.2.2).bind fun b9=>(bL n b9.1).bind fun a7=>some (a7.1,a7.2.1,a7.2.2.1,a7.2.2.2.1,a7.2.2.2.2,b9.2.1,b9.2.2.1,b9.2.2.2)else bif decide (c.1=(1:Int))then(aU n ([([111,107]:List UInt8),([97]:List UInt8),([115,116,111,112]:List UInt8),([116,114,117,101]:List UInt8)]:List (List UInt8)) c.2.1 c.2.2.1 c.2.2.2).bind fun c0=>(iU n c0.1).bind fun a8=>some (a8.1,a8.2.1,a8.2.2.1,a8.2.2.2.1,a8.2.2.2.2,c0.2.1,c0.2.2.1,c0.2.2.2)else bif decide (c.1=(2:Int))then bif decide ((0:Int)<(d.length:Int))then(aG n (d.length:Int) c.2.1 c.2.2.1 c.2.2.2).bind fun a9=>(ix d a9.1).bind fun h5=>some ((3:Int),(0:Int),h5,([]:List aA),([]:List aB),a9.2.1,a9.2.2.1,a9.2.2.2)else(aG n (4:Int) c.2.1 c.2.2.1 c.2.2.2).bind fun b2=>(bL n b2.1).bind fun R=>some (R.1,R.2.1,R.2.2.1,R.2.2.2.1,R.2.2.2.2,b2.2.1,b2.2.2.1,b2.2.2.2)else bif decide (c.1=(3:Int))then bif decide ((0:Int)<(d.length:Int))then(aG n (d.length:Int) c.2.1 c.2.2.1 c.2.2.2).bind fun b0=>(ix d b0.1).bind fun h6=>some ((3:Int),(0:Int),h6,([]:List aA),([]:List aB),b0.2.1,b0.2.2.1,b0.2.2.2)else(aG n (4:Int) c.2.1 c.2.2.1 c.2.2.2).bind fun b3=>(bL n b3.1).bind fun T=>some (T.1,T.2.1,T.2.2.1,T.2.2.2.1,T.2.2.2.2,b3.2.1,b3.2.2.1,b3.2.2.2)else bif decide (c.1=(4:Int))then bif decide ((0:Int)<(d.length:Int))then(aG n (d.length:Int) c.2.1 c.2.2.1 c.2.2.2).bind fun b1=>(ix d b1.1).bind fun h7=>some ((3:Int),(0:Int),h7,([]:List aA),([]:List aB),b1.2.1,b1.2.2.1,b1.2.2.2)else(aG n (4:Int) c.2.1 c.2.2.1 c.2.2.2).bind fun b4=>(bL n b4.1).bind fun U=>some (U.1,U.2.1,U.2.2.1,U.2.2.2.1,U.2.2.2.2,b4.2.1,b4.2.2.1,b4.2.2.2)else bif decide (c.1=(5:Int))then(aU n ([([43]:List UInt8),([45]:List UInt8),([42]:List UInt8),([61,61]:List UInt8),([60]:List UInt8),([43]:List UInt8)]:List (List UInt8)) c.2.1 c.2.2.1 c.2.2.2).bind fun b5=>(a (IntKind.wrap .i64 (f - (1:Int))) d b5.2.1 b5.2.2.1 b5.2.2.2).bind fun D=>(a (IntKind.wrap .i64 (f - (1:Int))) d D.2.2.2.2.2.1 D.2.2.2.2.2.2.1 D.2.2.2.2.2.2.2).bind fun G=>some ((7:Int),(0:Int),b5.1,([aA.mk D.1 D.2.1 D.2.2.1 D.2.2.2.1 D.2.2.2.2.1,aA.mk G.1 G.2.1 G.2.2.1 G.2.2.2.1 G.2.2.2.2.1]:List aA),([]:List aB),G.2.2.2.2.2.1,G.2.2.2.2.2.2.1,G.2.2.2.2.2.2.2)else bif decide (c.1=(6:Int))then(aU n ([([43]:List UInt8),([45]:List UInt8),([42]:List UInt8),([61,61]:List UInt8),([60]:List UInt8),([43]:List UInt8)]:List (List UInt8)) c.2.1 c.2.2.1 c.2.2.2).bind fun b6=>(a (IntKind.wrap .i64 (f - (1:Int))) d b6.2.1 b6.2.2.1 b6.2.2.2).bind fun E=>(a (IntKind.wrap .i64 (f - (1:Int))) d E.2.2.2.2.2.1 E.2.2.2.2.2.2.1 E.2.2.2.2.2.2.2).bind fun H=>some ((7:Int),(0:Int),b6.1,([aA.mk E.1 E.2.1 E.2.2.1 E.2.2.2.1 E.2.2.2.2.1,aA.mk H.1 H.2.1 H.2.2.1 H.2.2.2.1 H.2.2.2.2.1]:List aA),([]:List aB),H.2.2.2.2.2.1,H.2.2.2.2.2.2.1,H.2.2.2.2.2.2.2)else bif decide (c.1=(7:Int))then(dI n ([(4:Int),(5:Int)]:List Int) c.2.1 c.2.2.1 c.2.2.2).bind fun b7=>(aG n (3:Int) b7.2.1 b7.2.2.1 b7.2.2.2).bind fun b8=>(loopN (oT n a f d) n (b8.1,b7.1,(0:Int),([]:List UInt8),([]:List aA),([]:List aB),b8.2.1,b8.2.2.1,b8.2.2.2)).bind fun(l1,k9,i8,i9,j0,j1,j2,d9,e0,e1)=>some (i8,i9,j0,j1,j2,d9,e0,e1)else bif decide (c.1=(8:Int))then(a (IntKind.wrap .i64 (f - (1:Int))) d c.2.1 c.2.2.1 c.2.2.2).bind fun w=>(a (IntKind.wrap .i64 (f - (1:Int))) d w.2.2.2.2.2.1 w.2.2.2.2.2.2.1 w.2.2.2.2.2.2.2).bind fun y=>some ((6:Int),(0:Int),([]:List UInt8),([aA.mk w.1 w.2.1 w.2.2.1 w.2.2.2.1 w.2.2.2.2.1,aA.mk (5:Int) (0:Int) ([]:List UInt8) ([aA.mk y.1 y.2.1 y.2.2.1 y.2.2.2.1 y.2.2.2.2.1]:List aA) ([]:List aB)]:List aA),([]:List aB),y.2.2.2.2.2.1,y.2.2.2.2.2.2.1,y.2.2.2.2.2.2.2)else bif decide (c.1=(9:Int))then(aU n ([([102]:List UInt8),([103]:List UInt8),([104]:List UInt8)]:List (List UInt8)) c.2.1 c.2.2.1 c.2.2.2).bind fun t=>bif decide (t.1=([103]:List UInt8))then(loopN (oS n a f d) n ((0:Int),(8:Int),(0:Int),t.1,([]:List aA),([]:List aB),t.2.1,t.2.2.1,t.2.2.2)).bind fun(k7,k0,h8,h9,i0,i1,i2,e2,e3,e4)=>some (h8,h9,i0,i1,i2,e2,e3,e4)else(loopN (oR n a f d) n ((0:Int),(8:Int),(0:Int),t.1,([]:List aA),([]:List aB),t.2.1,t.2.2.1,t.2.2.2)).bind fun(k8,k1,g0,g1,g2,g3,g4,c1,c2,c3)=>some (g0,g1,g2,g3,g4,c1,c2,c3)else(a (IntKind.wrap .i64 (f - (1:Int))) d c.2.1 c.2.2.1 c.2.2.2).bind fun m=>(aG n (2:Int) m.2.2.2.2.2.1 m.2.2.2.2.2.2.1 m.2.2.2.2.2.2.2).bind fun N=>(loopN (oQ n a f d) n ((IntKind.wrap .i64 ((1:Int)+N.1)),(9:Int),(0:Int),([]:List UInt8),([aA.mk m.1 m.2.1 m.2.2.1 m.2.2.2.1 m.2.2.2.2.1]:List aA),([]:List aB),N.2.1,N.2.2.1,N.2.2.2)).bind fun(k4,j8,e5,e6,e7,e8,e9,c4,c5,c6)=>(fN n (2:Int) c4 c5 c6).bind fun u=>bif u.1 then(a (IntKind.wrap .i64 (f - (1:Int))) d u.2.1 u.2.2.1 u.2.2.2).bind fun p=>(kG 160 e9 ([aB.mk (3:Int) (0:Int) ([95]:List UInt8) ([]:List aA) ([]:List aB) p.1 p.2.1 p.2.2.1 p.2.2.2.1 p.2.2.2.2.1]:List aB)).bind fun f5=>some (e5,e6,e7,e8,f5,p.2.2.2.2.2.1,p.2.2.2.2.2.2.1,p.2.2.2.2.2.2.2)else some (e5,e6,e7,e8,e9,u.2.1,u.2.2.1,u.2.2.2)else bif decide (b.1=(0:Int))then(dI n ([(0:Int),(1:Int),(2:Int),(5:Int),(40:Int)]:List Int) b.2.1 b.2.2.1 b.2.2.2).bind fun V=>(bL n V.1).bind fun I=>some (I.1,I.2.1,I.2.2.1,I.2.2.2.1,I.2.2.2.2,V.2.1,V.2.2.1,V.2.2.2)else bif decide (b.1=(1:Int))then(aU n ([([111,107]:List UInt8),([97]:List UInt8),([115,116,111,112]:List UInt8),([116,114,117,101]:List UInt8)]:List (List UInt8)) b.2.1 b.2.2.1 b.2.2.2).bind fun W=>(iU n W.1).bind fun J=>some (J.1,J.2.1,J.2.2.1,J.2.2.2.1,J.2.2.2.2,W.2.1,W.2.2.1,W.2.2.2)else bif decide (b.1=(2:Int))then bif decide ((0:Int)<(d.length:Int))then(aG n (d.length:Int) b.2.1 b.2.2.1 b.2.2.2).bind fun X=>(ix d X.1).bind fun f7=>some ((3:Int),(0:Int),f7,([]:List aA),([]:List aB),X.2.1,X.2.2.1,X.2.2.2)else(aG n (4:Int) b.2.1 b.2.2.1 b.2.2.2).bind fun a0=>(bL n a0.1).bind fun K=>some (K.1,K.2.1,K.2.2.1,K.2.2.2.1,K.2.2.2.2,a0.2.1,a0.2.2.1,a0.2.2.2)else bif decide (b.1=(3:Int))then bif decide ((0:Int)<(d.length:Int))then(aG n (d.length:Int) b.2.1 b.2.2.1 b.2.2.2).bind fun Y=>(ix d Y.1).bind fun f8=>some ((3:Int),(0:Int),f8,([]:List aA),([]:List aB),Y.2.1,Y.2.2.1,Y.2.2.2)else(aG n (4:Int) b.2.1 b.2.2.1 b.2.2.2).bind fun a1=>(bL n a1.1).bind fun L=>some (L.1,L.2.1,L.2.2.1,L.2.2.2.1,L.2.2.2.2,a1.2.1,a1.2.2.1,a1.2.2.2)else bif decide (b.1=(4:Int))then bif decide ((0:Int)<(d.length:Int))then(aG n (d.length:Int) b.2.1 b.2.2.1 b.2.2.2).bind fun Z=>(ix d Z.1).bind fun f9=>some ((3:Int),(0:Int),f9,([]:List aA),([]:List aB),Z.2.1,Z.2.2.1,Z.2.2.2)else(aG n (4:Int) b.2.1 b.2.2.1 b.2.2.2).bind fun a2=>(bL n a2.1).bind fun M=>some (M.1,M.2.1,M.2.2.1,M.2.2.2.1,M.2.2.2.2,a2.2.1,a2.2.2.1,a2.2.2.2)else bif decide (b.1=(5:Int))then(aU n ([([43]:List UInt8),([45]:List UInt8),([42]:List UInt8),([61,61]:List UInt8),([60]:List UInt8),([43]:List UInt8)]:List (List UInt8)) b.2.1 b.2.2.1 b.2.2.2).bind fun a3=>(a (IntKind.wrap .i64 (f - (1:Int))) d a3.2.1 a3.2.2.1 a3.2.2.2).bind fun z=>(a (IntKind.wrap .i64 (f - (1:Int))) d z.2.2.2.2.2.1 z.2.2.2.2.2.2.1 z.2.2.2.2.2.2.2).bind fun B=>some ((7:Int),(0:Int),a3.1,([aA.mk z.1 z.2.1 z.2.2.1 z.2.2.2.1 z.2.2.2.2.1,aA.mk B.1 B.2.1 B.2.2.1 B.2.2.2.1 B.2.2.2.2.1]:List aA),([]:List aB),B.2.2.2.2.2.1,B.2.2.2.2.2.2.1,B.2.2.2.2.2.2.2)else bif decide (b.1=(6:Int))then(aU n ([([43]:List UInt8),([45]:List UInt8),([42]:List UInt8),([61,61]:List UInt8),([60]:List UInt8),([43]:List UInt8)]:List (List UInt8)) b.2.1 b.2.2.1 b.2.2.2).bind fun a4=>(a (IntKind.wrap .i64 (f - (1:Int))) d a4.2.1 a4.2.2.1 a4.2.2.2).bind fun A=>(a (IntKind.wrap .i64 (f - (1:Int))) d A.2.2.2.2.2.1 A.2.2.2.2.2.2.1 A.2.2.2.2.2.2.2).bind fun C=>some ((7:Int),(0:Int),a4.1,([aA.mk A.1 A.2.1 A.2.2.1 A.2.2.2.1 A.2.2.2.2.1,aA.mk C.1 C.2.1 C.2.2.1 C.2.2.2.1 C.2.2.2.2.1]:List aA),([]:List aB),C.2.2.2.2.2.1,C.2.2.2.2.2.2.1,C.2.2.2.2.2.2.2)else bif decide (b.1=(7:Int))then(dI n ([(4:Int),(5:Int)]:List Int) b.2.1 b.2.2.1 b.2.2.2).bind fun a5=>(aG n (3:Int) a5.2.1 a5.2.2.1 a5.2.2.2).bind fun a6=>(loopN (iZ n a f d) n (a6.1,a5.1,(0:Int),([]:List UInt8),([]:List aA),([]:List aB),a6.2.1,a6.2.2.1,a6.2.2.2)).bind fun(l0,k6,i3,i4,i5,i6,i7,c7,c8,c9)=>some (i3,i4,i5,i6,i7,c7,c8,c9)else bif decide (b.1=(8:Int))then(a (IntKind.wrap .i64 (f - (1:Int))) d b.2.1 b.2.2.1 b.2.2.2).bind fun j=>(a (IntKind.wrap .i64 (f - (1:Int))) d j.2.2.2.2.2.1 j.2.2.2.2.2.2.1 j.2.2.2.2.2.2.2).bind fun l=>some ((6:Int),(0:Int),([]:List UInt8),([aA.mk j.1 j.2.1 j.2.2.1 j.2.2.2.1 j.2.2.2.2.1,aA.mk (5:Int) (0:Int) ([]:List UInt8) ([aA.mk l.1 l.2.1 l.2.2.1 l.2.2.2.1 l.2.2.2.2.1]:List aA) ([]:List aB)]:List aA),([]:List aB),l.2.2.2.2.2.1,l.2.2.2.2.2.2.1,l.2.2.2.2.2.2.2)else bif decide (b.1=(9:Int))then(aU n ([([102]:List UInt8),([103]:List UInt8),([104]:List UInt8)]:List (List UInt8)) b.2.1 b.2.2.1 b.2.2.2).bind fun g=>bif decide (g.1=([103]:List UInt8))then(loopN (iY n a f d) n ((0:Int),(8:Int),(0:Int),g.1,([]:List aA),([]:List aB),g.2.1,g.2.2.1,g.2.2.2)).bind fun(k2,j6,g5,g6,g7,g8,g9,d0,d1,d2)=>some (g5,g6,g7,g8,g9,d0,d1,d2)else(loopN (iX n a f d) n ((0:Int),(8:Int),(0:Int),g.1,([]:List aA),([]:List aB),g.2.1,g.2.2.1,g.2.2.2)).bind fun(k3,j7,h0,h1,h2,h3,h4,d3,d4,d5)=>some (h0,h1,h2,h3,h4,d3,d4,d5)else(a (IntKind.wrap .i64 (f - (1:Int))) d b.2.1 b.2.2.1 b.2.2.2).bind fun o=>(aG n (2:Int) o.2.2.2.2.2.1 o.2.2.2.2.2.2.1 o.2.2.2.2.2.2.2).bind fun Q=>(loopN (iW n a f d) n ((IntKind.wrap .i64 ((1:Int)+Q.1)),(9:Int),(0:Int),([]:List UInt8),([aA.mk o.1 o.2.1 o.2.2.1 o.2.2.2.1 o.2.2.2.2.1]:List aA),([]:List aB),Q.2.1,Q.2.2.1,Q.2.2.2)).bind fun(k5,j9,f0,f1,f2,f3,f4,d6,d7,d8)=>(fN n (2:Int) d6 d7 d8).bind fun v=>bif v.1 then(a (IntKind.wrap .i64 (f - (1:Int))) d v.2.1 v.2.2.1 v.2.2.2).bind fun s=>(kG 160 f4 ([aB.mk (3:Int) (0:Int) ([95]:List UInt8) ([]:List aA) ([]:List aB) s.1 s.2.1 s.2.2.1 s.2.2.2.1 s.2.2.2.2.1]:List aB)).bind fun f6=>some (f0,f1,f2,f3,f6,s.2.2.2.2.2.1,s.2.2.2.2.2.2.1,s.2.2.2.2.2.2.2)else some (f0,f1,f2,f3,f4,v.2.1,v.2.2.1,v.2.2.2)
theorem xF{n:Nat}{M:cC}(b:lO M):lO (jO n M):=by
 intro y7 y8 y1 y2 y3 r h; unfold jO at h; refine bF Tryd.func74 rfl rfl<|cRs<|xAz [.int .i64 0, .int .i64 0, .str [], .sl ([].map aD), .sl ([].map aC)] rfl<|goo 4 rfl<|xC1 h (aI ·) rfl (fun x5 h=> ?_)
 refine goc 8 rfl<|cIf h rfl (fun q2 h=> ?_) (fun q2 h=> ?_)
 refine gco 2 rfl<|xC1 h (aI ·) rfl (fun x6 h=> ?_)
 refine goc 13 rfl<|cIf h rfl (fun q4 h=> ?_) (fun q4 h=> ?_)
 refine gco 3 rfl<|eU (L:=([(0:Int),(1:Int),(2:Int),(5:Int),(40:Int)]:List Int)) (f:=uS) rfl rfl rfl rfl rfl rfl rfl<|xC1 h (gJ ·) rfl (fun x7 h=> ?_)
 refine xC0 h (bZ ·) rfl (fun x8 h=> ?_)
 exact geo; refine gcc 5 rfl<|cIf h rfl (fun q7 h=> ?_) (fun q7 h=> ?_)
 refine gco 3 rfl<|eU (L:=([([111,107]:List UInt8),([97]:List UInt8),([115,116,111,112]:List UInt8),([116,114,117,101]:List UInt8)]:List (List UInt8))) (f:=cU) rfl rfl rfl rfl rfl rfl rfl<|xC1 h (bU ·) rfl (fun x9 h=> ?_)
 refine xC0 h (oL ·) rfl (fun y0 h=> ?_)
 exact geo; refine gcc 6 rfl<|cIf h rfl (fun w0 h=> ?_) (fun w0 h=> ?_)
 refine gco 6 rfl<|xLn rfl<|goc 2 rfl<|cIf h rfl (fun w1 h=> ?_) (fun w1 h=> ?_)
 refine gco 5 rfl<|xLn rfl<|xC1 h (aI ·) rfl (fun v0 h=> ?_)
 refine xIx h mP rfl (fun p4 h=> ?_)
 exact xLd rfl<|wBd [.int .i64 3, .int .i64 0, .str p4, .sl ([].map aD), .sl ([].map aC)] rfl rfl rfl rfl rfl rfl<|geo
 refine gco 4 rfl<|xC1 h (aI ·) rfl (fun v3 h=> ?_)
 refine xC0 h (bZ ·) rfl (fun v6 h=> ?_)
 exact geo; refine gcc 5 rfl<|cIf h rfl (fun w2 h=> ?_) (fun w2 h=> ?_)
 refine gco 6 rfl<|xLn rfl<|goc 2 rfl<|cIf h rfl (fun w3 h=> ?_) (fun w3 h=> ?_)
 refine gco 5 rfl<|xLn rfl<|xC1 h (aI ·) rfl (fun v1 h=> ?_)
 refine xIx h mP rfl (fun p5 h=> ?_)
 exact xLd rfl<|wBd [.int .i64 3, .int .i64 0, .str p5, .sl ([].map aD), .sl ([].map aC)] rfl rfl rfl rfl rfl rfl<|geo
 refine gco 4 rfl<|xC1 h (aI ·) rfl (fun v4 h=> ?_)
 refine xC0 h (bZ ·) rfl (fun v7 h=> ?_)
 exact geo; refine gcc 4 rfl<|cIf h rfl (fun w4 h=> ?_) (fun w4 h=> ?_)
 refine gco 4 rfl<|xLn rfl<|goc 2 rfl<|cIf h rfl (fun w5 h=> ?_) (fun w5 h=> ?_)
 refine gco 5 rfl<|xLn rfl<|xC1 h (aI ·) rfl (fun v2 h=> ?_)
 refine xIx h mP rfl (fun p6 h=> ?_)
 exact xLd rfl<|wBd [.int .i64 3, .int .i64 0, .str p6, .sl ([].map aD), .sl ([].map aC)] rfl rfl rfl rfl rfl rfl<|geo
 refine gco 4 rfl<|xC1 h (aI ·) rfl (fun v5 h=> ?_)
 refine xC0 h (bZ ·) rfl (fun v8 h=> ?_)
 exact geo; refine gcc 6 rfl<|cIf h rfl (fun w6 h=> ?_) (fun w6 h=> ?_)
 refine gco 5 rfl<|eU (L:=([([43]:List UInt8),([45]:List UInt8),([42]:List UInt8),([61,61]:List UInt8),([60]:List UInt8),([43]:List UInt8)]:List (List UInt8))) (f:=cU) rfl rfl rfl rfl rfl rfl rfl<|xC1 h (bU ·) rfl (fun p1 h=> ?_)
 refine goo 4 rfl<|xC1 h (b ·) rfl (fun B h=> ?_)
 refine goo 4 rfl<|xC1 h (b ·) rfl (fun D h=> ?_)
 exact eU (L:=([aA.mk B.1 B.2.1 B.2.2.1 B.2.2.2.1 B.2.2.2.2.1,aA.mk D.1 D.2.1 D.2.2.1 D.2.2.2.1 D.2.2.2.2.1]:List aA)) (f:=aD) rfl rfl rfl rfl (by simp only[List.map,aK]<;>rfl) rfl rfl<|wBd [.int .i64 7, .int .i64 0, .str p1.1, .sl ([aA.mk B.1 B.2.1 B.2.2.1 B.2.2.2.1 B.2.2.2.2.1,aA.mk D.1 D.2.1 D.2.2.1 D.2.2.2.1 D.2.2.2.2.1].map aD), .sl ([].map aC)] rfl rfl rfl rfl rfl rfl<|geo
 refine gcc 4 rfl<|cIf h rfl (fun w7 h=> ?_) (fun w7 h=> ?_)
 refine gco 3 rfl<|eU (L:=([([43]:List UInt8),([45]:List UInt8),([42]:List UInt8),([61,61]:List UInt8),([60]:List UInt8),([43]:List UInt8)]:List (List UInt8))) (f:=cU) rfl rfl rfl rfl rfl rfl rfl<|xC1 h (bU ·) rfl (fun p2 h=> ?_)
 refine goo 4 rfl<|xC1 h (b ·) rfl (fun C h=> ?_)
 refine goo 4 rfl<|xC1 h (b ·) rfl (fun E h=> ?_)
 exact eU (L:=([aA.mk C.1 C.2.1 C.2.2.1 C.2.2.2.1 C.2.2.2.2.1,aA.mk E.1 E.2.1 E.2.2.1 E.2.2.2.1 E.2.2.2.2.1]:List aA)) (f:=aD) rfl rfl rfl rfl (by simp only[List.map,aK]<;>rfl) rfl rfl<|wBd [.int .i64 7, .int .i64 0, .str p2.1, .sl ([aA.mk C.1 C.2.1 C.2.2.1 C.2.2.2.1 C.2.2.2.2.1,aA.mk E.1 E.2.1 E.2.2.1 E.2.2.2.1 E.2.2.2.2.1].map aD), .sl ([].map aC)] rfl rfl rfl rfl rfl rfl<|geo
 refine gcc 5 rfl<|cIf h rfl (fun w8 h=> ?_) (fun w8 h=> ?_)
 refine gco 3 rfl<|eU (L:=([(4:Int),(5:Int)]:List Int)) (f:=uS) rfl rfl rfl rfl rfl rfl rfl<|xC1 h (gJ ·) rfl (fun p3 h=> ?_)
 refine wBd [.int .i64 p3.1, .int .i64 0, .str [], .sl ([].map aD), .sl ([].map aC)] rfl rfl rfl rfl rfl rfl<|xAz [.int .i64 0, .int .i64 0, .str [], .sl ([].map aD), .sl ([].map aC)] rfl<|goo 6 rfl<|xC1 h (aI ·) rfl (fun v9 h=> ?_)
 refine goc 2 rfl<|cLp h [(9,9),(80,93)] [(8,8),(1000000,1000000)] (fun(n2,n4,n5,n6,n7,n8,c4,c5,c6)=>([(9,I64 n2)],[(8,[.int .i64 n4, .int .i64 n5, .str n6, .sl (n7.map aD), .sl (n8.map aC)]),(1000000,[.sl (c4.map rI_u8), .int .i64 c5, .int .i64 c6])])) (fun(n3,k3,n9,o0,o1,o2,o3,c7,c8,c9)=>(.e 1,[(9,I64 n3),(81,Bo k3)],[(8,[.int .i64 n9, .int .i64 o0, .str o1, .sl (o2.map aD), .sl (o3.map aC)]),(1000000,[.sl (c7.map rI_u8), .int .i64 c8, .int .i64 c9])])) rfl (fun st _ h=> ?_) (fun q h=> ?_)
 obtain⟨n2,n4,n5,n6,n7,n8,c4,c5,c6⟩:=st; unfold oT at h; refine gcc 6 rfl<|cIf h rfl (fun w9 h=> ?_) (fun w9 h=> ?_)
 refine gco 10 rfl<|xC1 h (b ·) rfl (fun N h=> ?_)
 refine eU (L:=([aA.mk N.1 N.2.1 N.2.2.1 N.2.2.2.1 N.2.2.2.2.1]:List aA)) (f:=aD) rfl rfl rfl rfl (by simp only[List.map,aK]<;>rfl) rfl rfl<|wAp (f:=aD) h rfl rfl rfl rfl rfl rfl rfl rfl rfl (fun a=>by rw[aH]; rfl) rfl (fun x4 h=> ?_)
 exact geo; exact gec; obtain⟨n3,k3,n9,o0,o1,o2,o3,c7,c8,c9⟩:=q; exact gec; refine gcc 5 rfl<|cIf h rfl (fun x0 h=> ?_) (fun x0 h=> ?_)
 refine gco 6 rfl<|xC1 h (b ·) rfl (fun v h=> ?_)
 refine goo 4 rfl<|xC1 h (b ·) rfl (fun d h=> ?_)
 exact eU (L:=([aA.mk d.1 d.2.1 d.2.2.1 d.2.2.2.1 d.2.2.2.2.1]:List aA)) (f:=aD) rfl rfl rfl rfl (by simp only[List.map,aK]<;>rfl) rfl rfl<|wBd [.int .i64 5, .int .i64 0, .str [], .sl ([aA.mk d.1 d.2.1 d.2.2.1 d.2.2.2.1 d.2.2.2.2.1].map aD), .sl ([].map aC)] rfl rfl rfl rfl rfl rfl<|eU (L:=([aA.mk v.1 v.2.1 v.2.2.1 v.2.2.2.1 v.2.2.2.2.1,aA.mk (5:Int) (0:Int) ([]:List UInt8) ([aA.mk d.1 d.2.1 d.2.2.1 d.2.2.2.1 d.2.2.2.2.1]:List aA) ([]:List aB)]:List aA)) (f:=aD) rfl rfl rfl rfl (by simp only[List.map,aK]<;>rfl) rfl rfl<|wBd [.int .i64 6, .int .i64 0, .str [], .sl ([aA.mk v.1 v.2.1 v.2.2.1 v.2.2.2.1 v.2.2.2.2.1,aA.mk (5:Int) (0:Int) ([]:List UInt8) ([aA.mk d.1 d.2.1 d.2.2.1 d.2.2.2.1 d.2.2.2.2.1]:List aA) ([]:List aB)].map aD), .sl ([].map aC)] rfl rfl rfl rfl rfl rfl<|geo
 refine gcc 5 rfl<|cIf h rfl (fun x1 h=> ?_) (fun x1 h=> ?_)
 refine gco 3 rfl<|eU (L:=([([102]:List UInt8),([103]:List UInt8),([104]:List UInt8)]:List (List UInt8))) (f:=cU) rfl rfl rfl rfl rfl rfl rfl<|xC1 h (bU ·) rfl (fun o4 h=> ?_)
 refine wBd [.int .i64 8, .int .i64 0, .str o4.1, .sl ([].map aD), .sl ([].map aC)] rfl rfl rfl rfl rfl rfl<|xAz [.int .i64 0, .int .i64 0, .str [], .sl ([].map aD), .sl ([].map aC)] rfl<|goc 13 rfl<|cIf h rfl (fun x2 h=> ?_) (fun x2 h=> ?_)
 refine gcc 8 rfl<|cLp h [(12,12),(120,134)] [(10,10),(1000000,1000000)] (fun(j9,k6,k7,k8,k9,l0,d0,d1,d2)=>([(12,I64 j9)],[(10,[.int .i64 k6, .int .i64 k7, .str k8, .sl (k9.map aD), .sl (l0.map aC)]),(1000000,[.sl (d0.map rI_u8), .int .i64 d1, .int .i64 d2])])) (fun(k0,e3,l1,l2,l3,l4,l5,d3,d4,d5)=>(.e 3,[(12,I64 k0),(122,Bo e3)],[(10,[.int .i64 l1, .int .i64 l2, .str l3, .sl (l4.map aD), .sl (l5.map aC)]),(1000000,[.sl (d3.map rI_u8), .int .i64 d4, .int .i64 d5])])) rfl (fun st _ h=> ?_) (fun q h=> ?_)
 obtain⟨j9,k6,k7,k8,k9,l0,d0,d1,d2⟩:=st; unfold oS at h; refine gcc 7 rfl<|cIf h rfl (fun x3 h=> ?_) (fun x3 h=> ?_)
 refine gco 10 rfl<|xC1 h (b ·) rfl (fun J h=> ?_)
 refine eU (L:=([aA.mk J.1 J.2.1 J.2.2.1 J.2.2.2.1 J.2.2.2.2.1]:List aA)) (f:=aD) rfl rfl rfl rfl (by simp only[List.map,aK]<;>rfl) rfl rfl<|wAp (f:=aD) h rfl rfl rfl rfl rfl rfl rfl rfl rfl (fun a=>by rw[aH]; rfl) rfl (fun u8 h=> ?_)
 exact geo; exact gec; obtain⟨k0,e3,l1,l2,l3,l4,l5,d3,d4,d5⟩:=q; exact gec; refine gcc 6 rfl<|cLp h [(12,12),(120,134)] [(10,10),(1000000,1000000)] (fun(k1,l6,l7,l8,l9,m0,d6,d7,d8)=>([(12,I64 k1)],[(10,[.int .i64 l6, .int .i64 l7, .str l8, .sl (l9.map aD), .sl (m0.map aC)]),(1000000,[.sl (d6.map rI_u8), .int .i64 d7, .int .i64 d8])])) (fun(k2,e4,f4,f5,f6,f7,f8,Q,R,T)=>(.e 3,[(12,I64 k2),(122,Bo e4)],[(10,[.int .i64 f4, .int .i64 f5, .str f6, .sl (f7.map aD), .sl (f8.map aC)]),(1000000,[.sl (Q.map rI_u8), .int .i64 R, .int .i64 T])])) rfl (fun st _ h=> ?_) (fun q h=> ?_)
 obtain⟨k1,l6,l7,l8,l9,m0,d6,d7,d8⟩:=st; unfold oR at h; refine gcc 7 rfl<|cIf h rfl (fun q1 h=> ?_) (fun q1 h=> ?_)
 refine gco 10 rfl<|xC1 h (b ·) rfl (fun G h=> ?_)
 refine eU (L:=([aA.mk G.1 G.2.1 G.2.2.1 G.2.2.2.1 G.2.2.2.2.1]:List aA)) (f:=aD) rfl rfl rfl rfl (by simp only[List.map,aK]<;>rfl) rfl rfl<|wAp (f:=aD) h rfl rfl rfl rfl rfl rfl rfl rfl rfl (fun a=>by rw[aH]; rfl) rfl (fun s3 h=> ?_)
 exact geo; exact gec; obtain⟨k2,e4,f4,f5,f6,f7,f8,Q,R,T⟩:=q; exact gec; refine gco 7 rfl<|xC1 h (b ·) rfl (fun j h=> ?_)
 refine eU (L:=([aA.mk j.1 j.2.1 j.2.2.1 j.2.2.2.1 j.2.2.2.2.1]:List aA)) (f:=aD) rfl rfl rfl rfl (by simp only[List.map,aK]<;>rfl) rfl rfl<|wBd [.int .i64 9, .int .i64 0, .str [], .sl ([aA.mk j.1 j.2.1 j.2.2.1 j.2.2.2.1 j.2.2.2.2.1].map aD), .sl ([].map aC)] rfl rfl rfl rfl rfl rfl<|xAz [.int .i64 0, .int .i64 0, .str [], .sl ([].map aD), .sl ([].map aC)] rfl<|goo 6 rfl<|xC1 h (aI ·) rfl (fun p7 h=> ?_)
 refine goc 3 rfl<|cLp h [(14,16),(146,168)] [(13,13),(15,16),(1000000,1000000)] (fun(e9,h9,i0,i1,i2,i3,U,V,W)=>([(14,I64 e9)],[(13,[.int .i64 h9, .int .i64 i0, .str i1, .sl (i2.map aD), .sl (i3.map aC)]),(1000000,[.sl (U.map rI_u8), .int .i64 V, .int .i64 W])])) (fun(f0,e1,i4,i5,i6,i7,i8,X,Y,Z)=>(.e 5,[(14,I64 f0),(147,Bo e1)],[(13,[.int .i64 i4, .int .i64 i5, .str i6, .sl (i7.map aD), .sl (i8.map aC)]),(1000000,[.sl (X.map rI_u8), .int .i64 Y, .int .i64 Z])])) rfl (fun st _ h=> ?_) (fun q h=> ?_)
 obtain⟨e9,h9,i0,i1,i2,i3,U,V,W⟩:=st; unfold oQ at h; refine gcc 6 rfl<|cIf h rfl (fun q2 h=> ?_) (fun q2 h=> ?_)
 refine gco 5 rfl<|eU (L:=([]:List (List UInt8))) (f:=cU) rfl rfl rfl rfl rfl rfl rfl<|xAz [.sl ([].map cU)] rfl<|goo 5 rfl<|xCk h (rK ·) rfl (fun m h=> ?_)
 refine xAz [.int .i64 0, .int .i64 0, .str [], .sl ([].map aD), .sl ([].map aC)] rfl<|goo 9 rfl<|eU (L:=([]:List (List UInt8))) (f:=cU) rfl rfl rfl rfl rfl rfl rfl<|xMv rfl<|wAp (f:=cU) h rfl rfl rfl rfl rfl rfl rfl rfl rfl (fun _=>rfl) rfl (fun s6 h=> ?_)
 refine xLd rfl<|wAp (f:=cU) h rfl rfl rfl rfl rfl rfl rfl rfl rfl (fun _=>rfl) rfl (fun s8 h=> ?_)
 refine xC1 h (b ·) rfl (fun p h=> ?_)
 refine wBd [.int .i64 m.1, .int .i64 m.2.1, .str m.2.2.1, .sl (m.2.2.2.1.map aD), .sl (m.2.2.2.2.1.map aC), .int .i64 p.1, .int .i64 p.2.1, .str p.2.2.1, .sl (p.2.2.2.1.map aD), .sl (p.2.2.2.2.1.map aC)] rfl rfl rfl rfl rfl rfl<|eU (L:=([aB.mk m.1 m.2.1 m.2.2.1 m.2.2.2.1 m.2.2.2.2.1 p.1 p.2.1 p.2.2.1 p.2.2.2.1 p.2.2.2.2.1]:List aB)) (f:=aC) rfl rfl rfl rfl (by simp only[List.map,dC]<;>rfl) rfl rfl<|wAp (f:=aC) h rfl rfl rfl rfl rfl rfl rfl rfl rfl (fun a=>by rw[aJ]; rfl) rfl (fun t0 h=> ?_)
 exact geo; exact gec; obtain⟨f0,e1,i4,i5,i6,i7,i8,X,Y,Z⟩:=q; refine gco 4 rfl<|xC1 h (mE ·) rfl (fun p9 h=> ?_)
 refine oNl<|cIf h rfl (fun q3 h=> ?_) (fun q3 h=> ?_)
 refine gco 3 rfl<|wBd [.int .i64 3, .int .i64 0, .str [95], .sl ([].map aD), .sl ([].map aC)] rfl rfl rfl rfl rfl rfl<|goo 4 rfl<|xC1 h (b ·) rfl (fun t h=> ?_)
 refine wBd [.int .i64 3, .int .i64 0, .str [95], .sl ([].map aD), .sl ([].map aC), .int .i64 t.1, .int .i64 t.2.1, .str t.2.2.1, .sl (t.2.2.2.1.map aD), .sl (t.2.2.2.2.1.map aC)] rfl rfl rfl rfl rfl rfl<|eU (L:=([aB.mk (3:Int) (0:Int) ([95]:List UInt8) ([]:List aA) ([]:List aB) t.1 t.2.1 t.2.2.1 t.2.2.2.1 t.2.2.2.2.1]:List aB)) (f:=aC) rfl rfl rfl rfl (by simp only[List.map,dC]<;>rfl) rfl rfl<|wAp (f:=aC) h rfl rfl rfl rfl rfl rfl rfl rfl rfl (fun a=>by rw[aJ]; rfl) rfl (fun t2 h=> ?_)
 exact geo; exact gec; refine gcc 12 rfl<|cIf h rfl (fun q4 h=> ?_) (fun q4 h=> ?_)
 refine gco 3 rfl<|eU (L:=([(0:Int),(1:Int),(2:Int),(5:Int),(40:Int)]:List Int)) (f:=uS) rfl rfl rfl rfl rfl rfl rfl<|xC1 h (gJ ·) rfl (fun t4 h=> ?_)
 refine xC0 h (bZ ·) rfl (fun t5 h=> ?_)
 exact geo; refine gcc 5 rfl<|cIf h rfl (fun q5 h=> ?_) (fun q5 h=> ?_)
 refine gco 3 rfl<|eU (L:=([([111,107]:List UInt8),([97]:List UInt8),([115,116,111,112]:List UInt8),([116,114,117,101]:List UInt8)]:List (List UInt8))) (f:=cU) rfl rfl rfl rfl rfl rfl rfl<|xC1 h (bU ·) rfl (fun t6 h=> ?_)
 refine xC0 h (oL ·) rfl (fun t7 h=> ?_)
 exact geo; refine gcc 6 rfl<|cIf h rfl (fun q6 h=> ?_) (fun q6 h=> ?_)
 refine gco 6 rfl<|xLn rfl<|goc 2 rfl<|cIf h rfl (fun q7 h=> ?_) (fun q7 h=> ?_)
 refine gco 5 rfl<|xLn rfl<|xC1 h (aI ·) rfl (fun t8 h=> ?_)
 refine xIx h mP rfl (fun o8 h=> ?_)
 exact xLd rfl<|wBd [.int .i64 3, .int .i64 0, .str o8, .sl ([].map aD), .sl ([].map aC)] rfl rfl rfl rfl rfl rfl<|geo
 refine gco 4 rfl<|xC1 h (aI ·) rfl (fun u1 h=> ?_)
 refine xC0 h (bZ ·) rfl (fun u4 h=> ?_)
 exact geo; refine gcc 5 rfl<|cIf h rfl (fun q8 h=> ?_) (fun q8 h=> ?_)
 refine gco 6 rfl<|xLn rfl<|goc 2 rfl<|cIf h rfl (fun q9 h=> ?_) (fun q9 h=> ?_)
 refine gco 5 rfl<|xLn rfl<|xC1 h (aI ·) rfl (fun t9 h=> ?_)
 refine xIx h mP rfl (fun o9 h=> ?_)
 exact xLd rfl<|wBd [.int .i64 3, .int .i64 0, .str o9, .sl ([].map aD), .sl ([].map aC)] rfl rfl rfl rfl rfl rfl<|geo
 refine gco 4 rfl<|xC1 h (aI ·) rfl (fun u2 h=> ?_)
 refine xC0 h (bZ ·) rfl (fun u5 h=> ?_)
 exact geo; refine gcc 4 rfl<|cIf h rfl (fun r0 h=> ?_) (fun r0 h=> ?_)
 refine gco 4 rfl<|xLn rfl<|goc 2 rfl<|cIf h rfl (fun r1 h=> ?_) (fun r1 h=> ?_)
 refine gco 5 rfl<|xLn rfl<|xC1 h (aI ·) rfl (fun u0 h=> ?_)
 refine xIx h mP rfl (fun p0 h=> ?_)
 exact xLd rfl<|wBd [.int .i64 3, .int .i64 0, .str p0, .sl ([].map aD), .sl ([].map aC)] rfl rfl rfl rfl rfl rfl<|geo
 refine gco 4 rfl<|xC1 h (aI ·) rfl (fun u3 h=> ?_)
 refine xC0 h (bZ ·) rfl (fun u6 h=> ?_)
 exact geo; refine gcc 6 rfl<|cIf h rfl (fun r2 h=> ?_) (fun r2 h=> ?_)
 refine gco 5 rfl<|eU (L:=([([43]:List UInt8),([45]:List UInt8),([42]:List UInt8),([61,61]:List UInt8),([60]:List UInt8),([43]:List UInt8)]:List (List UInt8))) (f:=cU) rfl rfl rfl rfl rfl rfl rfl<|xC1 h (bU ·) rfl (fun o5 h=> ?_)
 refine goo 4 rfl<|xC1 h (b ·) rfl (fun w h=> ?_)
 refine goo 4 rfl<|xC1 h (b ·) rfl (fun z h=> ?_)
 exact eU (L:=([aA.mk w.1 w.2.1 w.2.2.1 w.2.2.2.1 w.2.2.2.2.1,aA.mk z.1 z.2.1 z.2.2.1 z.2.2.2.1 z.2.2.2.2.1]:List aA)) (f:=aD) rfl rfl rfl rfl (by simp only[List.map,aK]<;>rfl) rfl rfl<|wBd [.int .i64 7, .int .i64 0, .str o5.1, .sl ([aA.mk w.1 w.2.1 w.2.2.1 w.2.2.2.1 w.2.2.2.2.1,aA.mk z.1 z.2.1 z.2.2.1 z.2.2.2.1 z.2.2.2.2.1].map aD), .sl ([].map aC)] rfl rfl rfl rfl rfl rfl<|geo
 refine gcc 4 rfl<|cIf h rfl (fun r3 h=> ?_) (fun r3 h=> ?_)
 refine gco 3 rfl<|eU (L:=([([43]:List UInt8),([45]:List UInt8),([42]:List UInt8),([61,61]:List UInt8),([60]:List UInt8),([43]:List UInt8)]:List (List UInt8))) (f:=cU) rfl rfl rfl rfl rfl rfl rfl<|xC1 h (bU ·) rfl (fun o6 h=> ?_)
 refine goo 4 rfl<|xC1 h (b ·) rfl (fun y h=> ?_)
 refine goo 4 rfl<|xC1 h (b ·) rfl (fun A h=> ?_)
 exact eU (L:=([aA.mk y.1 y.2.1 y.2.2.1 y.2.2.2.1 y.2.2.2.2.1,aA.mk A.1 A.2.1 A.2.2.1 A.2.2.2.1 A.2.2.2.2.1]:List aA)) (f:=aD) rfl rfl rfl rfl (by simp only[List.map,aK]<;>rfl) rfl rfl<|wBd [.int .i64 7, .int .i64 0, .str o6.1, .sl ([aA.mk y.1 y.2.1 y.2.2.1 y.2.2.2.1 y.2.2.2.2.1,aA.mk A.1 A.2.1 A.2.2.1 A.2.2.2.1 A.2.2.2.2.1].map aD), .sl ([].map aC)] rfl rfl rfl rfl rfl rfl<|geo
 refine gcc 5 rfl<|cIf h rfl (fun r4 h=> ?_) (fun r4 h=> ?_)
 refine gco 3 rfl<|eU (L:=([(4:Int),(5:Int)]:List Int)) (f:=uS) rfl rfl rfl rfl rfl rfl rfl<|xC1 h (gJ ·) rfl (fun o7 h=> ?_)
 refine wBd [.int .i64 o7.1, .int .i64 0, .str [], .sl ([].map aD), .sl ([].map aC)] rfl rfl rfl rfl rfl rfl<|xAz [.int .i64 0, .int .i64 0, .str [], .sl ([].map aD), .sl ([].map aC)] rfl<|goo 6 rfl<|xC1 h (aI ·) rfl (fun u7 h=> ?_)
 refine goc 2 rfl<|cLp h [(9,9),(80,93)] [(8,8),(1000000,1000000)] (fun(k4,m1,m2,m3,m4,m5,a0,a1,a2)=>([(9,I64 k4)],[(8,[.int .i64 m1, .int .i64 m2, .str m3, .sl (m4.map aD), .sl (m5.map aC)]),(1000000,[.sl (a0.map rI_u8), .int .i64 a1, .int .i64 a2])])) (fun(k5,f3,m6,m7,m8,m9,n0,a3,a4,a5)=>(.e 1,[(9,I64 k5),(81,Bo f3)],[(8,[.int .i64 m6, .int .i64 m7, .str m8, .sl (m9.map aD), .sl (n0.map aC)]),(1000000,[.sl (a3.map rI_u8), .int .i64 a4, .int .i64 a5])])) rfl (fun st _ h=> ?_) (fun q h=> ?_)
 obtain⟨k4,m1,m2,m3,m4,m5,a0,a1,a2⟩:=st; unfold iZ at h; refine gcc 6 rfl<|cIf h rfl (fun r5 h=> ?_) (fun r5 h=> ?_)
 refine gco 10 rfl<|xC1 h (b ·) rfl (fun K h=> ?_)
 refine eU (L:=([aA.mk K.1 K.2.1 K.2.2.1 K.2.2.2.1 K.2.2.2.2.1]:List aA)) (f:=aD) rfl rfl rfl rfl (by simp only[List.map,aK]<;>rfl) rfl rfl<|wAp (f:=aD) h rfl rfl rfl rfl rfl rfl rfl rfl rfl (fun a=>by rw[aH]; rfl) rfl (fun u9 h=> ?_)
 exact geo; exact gec; obtain⟨k5,f3,m6,m7,m8,m9,n0,a3,a4,a5⟩:=q; exact gec; refine gcc 5 rfl<|cIf h rfl (fun r6 h=> ?_) (fun r6 h=> ?_)
 refine gco 6 rfl<|xC1 h (b ·) rfl (fun g h=> ?_)
 refine goo 4 rfl<|xC1 h (b ·) rfl (fun c h=> ?_)
 exact eU (L:=([aA.mk c.1 c.2.1 c.2.2.1 c.2.2.2.1 c.2.2.2.2.1]:List aA)) (f:=aD) rfl rfl rfl rfl (by simp only[List.map,aK]<;>rfl) rfl rfl<|wBd [.int .i64 5, .int .i64 0, .str [], .sl ([aA.mk c.1 c.2.1 c.2.2.1 c.2.2.2.1 c.2.2.2.2.1].map aD), .sl ([].map aC)] rfl rfl rfl rfl rfl rfl<|eU (L:=([aA.mk g.1 g.2.1 g.2.2.1 g.2.2.2.1 g.2.2.2.2.1,aA.mk (5:Int) (0:Int) ([]:List UInt8) ([aA.mk c.1 c.2.1 c.2.2.1 c.2.2.2.1 c.2.2.2.2.1]:List aA) ([]:List aB)]:List aA)) (f:=aD) rfl rfl rfl rfl (by simp only[List.map,aK]<;>rfl) rfl rfl<|wBd [.int .i64 6, .int .i64 0, .str [], .sl ([aA.mk g.1 g.2.1 g.2.2.1 g.2.2.2.1 g.2.2.2.2.1,aA.mk (5:Int) (0:Int) ([]:List UInt8) ([aA.mk c.1 c.2.1 c.2.2.1 c.2.2.2.1 c.2.2.2.2.1]:List aA) ([]:List aB)].map aD), .sl ([].map aC)] rfl rfl rfl rfl rfl rfl<|geo
 refine gcc 5 rfl<|cIf h rfl (fun r7 h=> ?_) (fun r7 h=> ?_)
 refine gco 3 rfl<|eU (L:=([([102]:List UInt8),([103]:List UInt8),([104]:List UInt8)]:List (List UInt8))) (f:=cU) rfl rfl rfl rfl rfl rfl rfl<|xC1 h (bU ·) rfl (fun n1 h=> ?_)
 refine wBd [.int .i64 8, .int .i64 0, .str n1.1, .sl ([].map aD), .sl ([].map aC)] rfl rfl rfl rfl rfl rfl<|xAz [.int .i64 0, .int .i64 0, .str [], .sl ([].map aD), .sl ([].map aC)] rfl<|goc 13 rfl<|cIf h rfl (fun r8 h=> ?_) (fun r8 h=> ?_)
 refine gcc 8 rfl<|cLp h [(12,12),(120,134)] [(10,10),(1000000,1000000)] (fun(e5,f9,g0,g1,g2,g3,a6,a7,a8)=>([(12,I64 e5)],[(10,[.int .i64 f9, .int .i64 g0, .str g1, .sl (g2.map aD), .sl (g3.map aC)]),(1000000,[.sl (a6.map rI_u8), .int .i64 a7, .int .i64 a8])])) (fun(e6,d9,g4,g5,g6,g7,g8,a9,b0,b1)=>(.e 3,[(12,I64 e6),(122,Bo d9)],[(10,[.int .i64 g4, .int .i64 g5, .str g6, .sl (g7.map aD), .sl (g8.map aC)]),(1000000,[.sl (a9.map rI_u8), .int .i64 b0, .int .i64 b1])])) rfl (fun st _ h=> ?_) (fun q h=> ?_)
 obtain⟨e5,f9,g0,g1,g2,g3,a6,a7,a8⟩:=st; unfold iY at h; refine gcc 7 rfl<|cIf h rfl (fun r9 h=> ?_) (fun r9 h=> ?_)
 refine gco 10 rfl<|xC1 h (b ·) rfl (fun H h=> ?_)
 refine eU (L:=([aA.mk H.1 H.2.1 H.2.2.1 H.2.2.2.1 H.2.2.2.2.1]:List aA)) (f:=aD) rfl rfl rfl rfl (by simp only[List.map,aK]<;>rfl) rfl rfl<|wAp (f:=aD) h rfl rfl rfl rfl rfl rfl rfl rfl rfl (fun a=>by rw[aH]; rfl) rfl (fun s4 h=> ?_)
 exact geo; exact gec; obtain⟨e6,d9,g4,g5,g6,g7,g8,a9,b0,b1⟩:=q; exact gec; refine gcc 6 rfl<|cLp h [(12,12),(120,134)] [(10,10),(1000000,1000000)] (fun(e7,g9,h0,h1,h2,h3,b2,b3,b4)=>([(12,I64 e7)],[(10,[.int .i64 g9, .int .i64 h0, .str h1, .sl (h2.map aD), .sl (h3.map aC)]),(1000000,[.sl (b2.map rI_u8), .int .i64 b3, .int .i64 b4])])) (fun(e8,e0,h4,h5,h6,h7,h8,b5,b6,b7)=>(.e 3,[(12,I64 e8),(122,Bo e0)],[(10,[.int .i64 h4, .int .i64 h5, .str h6, .sl (h7.map aD), .sl (h8.map aC)]),(1000000,[.sl (b5.map rI_u8), .int .i64 b6, .int .i64 b7])])) rfl (fun st _ h=> ?_) (fun q h=> ?_)
 obtain⟨e7,g9,h0,h1,h2,h3,b2,b3,b4⟩:=st; unfold iX at h; refine gcc 7 rfl<|cIf h rfl (fun s0 h=> ?_) (fun s0 h=> ?_)
 refine gco 10 rfl<|xC1 h (b ·) rfl (fun I h=> ?_)
 refine eU (L:=([aA.mk I.1 I.2.1 I.2.2.1 I.2.2.2.1 I.2.2.2.2.1]:List aA)) (f:=aD) rfl rfl rfl rfl (by simp only[List.map,aK]<;>rfl) rfl rfl<|wAp (f:=aD) h rfl rfl rfl rfl rfl rfl rfl rfl rfl (fun a=>by rw[aH]; rfl) rfl (fun s5 h=> ?_)
 exact geo; exact gec; obtain⟨e8,e0,h4,h5,h6,h7,h8,b5,b6,b7⟩:=q; exact gec; refine gco 7 rfl<|xC1 h (b ·) rfl (fun l h=> ?_)
 refine eU (L:=([aA.mk l.1 l.2.1 l.2.2.1 l.2.2.2.1 l.2.2.2.2.1]:List aA)) (f:=aD) rfl rfl rfl rfl (by simp only[List.map,aK]<;>rfl) rfl rfl<|wBd [.int .i64 9, .int .i64 0, .str [], .sl ([aA.mk l.1 l.2.1 l.2.2.1 l.2.2.2.1 l.2.2.2.2.1].map aD), .sl ([].map aC)] rfl rfl rfl rfl rfl rfl<|xAz [.int .i64 0, .int .i64 0, .str [], .sl ([].map aD), .sl ([].map aC)] rfl<|goo 6 rfl<|xC1 h (aI ·) rfl (fun p8 h=> ?_)
 refine goc 3 rfl<|cLp h [(14,16),(146,168)] [(13,13),(15,16),(1000000,1000000)] (fun(f1,i9,j0,j1,j2,j3,b8,b9,c0)=>([(14,I64 f1)],[(13,[.int .i64 i9, .int .i64 j0, .str j1, .sl (j2.map aD), .sl (j3.map aC)]),(1000000,[.sl (b8.map rI_u8), .int .i64 b9, .int .i64 c0])])) (fun(f2,e2,j4,j5,j6,j7,j8,c1,c2,c3)=>(.e 5,[(14,I64 f2),(147,Bo e2)],[(13,[.int .i64 j4, .int .i64 j5, .str j6, .sl (j7.map aD), .sl (j8.map aC)]),(1000000,[.sl (c1.map rI_u8), .int .i64 c2, .int .i64 c3])])) rfl (fun st _ h=> ?_) (fun q h=> ?_)
 obtain⟨f1,i9,j0,j1,j2,j3,b8,b9,c0⟩:=st; unfold iW at h; refine gcc 6 rfl<|cIf h rfl (fun s1 h=> ?_) (fun s1 h=> ?_)
 refine gco 5 rfl<|eU (L:=([]:List (List UInt8))) (f:=cU) rfl rfl rfl rfl rfl rfl rfl<|xAz [.sl ([].map cU)] rfl<|goo 5 rfl<|xCk h (rK ·) rfl (fun o h=> ?_)
 refine xAz [.int .i64 0, .int .i64 0, .str [], .sl ([].map aD), .sl ([].map aC)] rfl<|goo 9 rfl<|eU (L:=([]:List (List UInt8))) (f:=cU) rfl rfl rfl rfl rfl rfl rfl<|xMv rfl<|wAp (f:=cU) h rfl rfl rfl rfl rfl rfl rfl rfl rfl (fun _=>rfl) rfl (fun s7 h=> ?_)
 refine xLd rfl<|wAp (f:=cU) h rfl rfl rfl rfl rfl rfl rfl rfl rfl (fun _=>rfl) rfl (fun s9 h=> ?_)
 refine xC1 h (b ·) rfl (fun s h=> ?_)
 refine wBd [.int .i64 o.1, .int .i64 o.2.1, .str o.2.2.1, .sl (o.2.2.2.1.map aD), .sl (o.2.2.2.2.1.map aC), .int .i64 s.1, .int .i64 s.2.1, .str s.2.2.1, .sl (s.2.2.2.1.map aD), .sl (s.2.2.2.2.1.map aC)] rfl rfl rfl rfl rfl rfl<|eU (L:=([aB.mk o.1 o.2.1 o.2.2.1 o.2.2.2.1 o.2.2.2.2.1 s.1 s.2.1 s.2.2.1 s.2.2.2.1 s.2.2.2.2.1]:List aB)) (f:=aC) rfl rfl rfl rfl (by simp only[List.map,dC]<;>rfl) rfl rfl<|wAp (f:=aC) h rfl rfl rfl rfl rfl rfl rfl rfl rfl (fun a=>by rw[aJ]; rfl) rfl (fun t1 h=> ?_)
 exact geo; exact gec; obtain⟨f2,e2,j4,j5,j6,j7,j8,c1,c2,c3⟩:=q; refine gco 4 rfl<|xC1 h (mE ·) rfl (fun q0 h=> ?_)
 refine oNl<|cIf h rfl (fun s2 h=> ?_) (fun s2 h=> ?_)
 refine gco 3 rfl<|wBd [.int .i64 3, .int .i64 0, .str [95], .sl ([].map aD), .sl ([].map aC)] rfl rfl rfl rfl rfl rfl<|goo 4 rfl<|xC1 h (b ·) rfl (fun u h=> ?_)
 refine wBd [.int .i64 3, .int .i64 0, .str [95], .sl ([].map aD), .sl ([].map aC), .int .i64 u.1, .int .i64 u.2.1, .str u.2.2.1, .sl (u.2.2.2.1.map aD), .sl (u.2.2.2.2.1.map aC)] rfl rfl rfl rfl rfl rfl<|eU (L:=([aB.mk (3:Int) (0:Int) ([95]:List UInt8) ([]:List aA) ([]:List aB) u.1 u.2.1 u.2.2.1 u.2.2.2.1 u.2.2.2.2.1]:List aB)) (f:=aC) rfl rfl rfl rfl (by simp only[List.map,dC]<;>rfl) rfl rfl<|wAp (f:=aC) h rfl rfl rfl rfl rfl rfl rfl rfl rfl (fun a=>by rw[aJ]; rfl) rfl (fun t3 h=> ?_)
 exact geo; exact gec
def tM:Nat→(cC)
  | 0=>(fun _ _ _ _ _=>none)
  | n+1=>jO n (tM n)
def aY(n:Nat):cC:=tM n
theorem xK(n:Nat):lO (aY n):=by
  induction n with
  | zero=>exact(fun h=>nomatch h)
  | succ n ih=>exact xF (n:=n) ih
theorem AL{n:Nat}:lO (aY n):=(xK n)
theorem uI(n:Nat):aY (n+1)=jO n (aY n):=rfl
abbrev Az(p:(List (List UInt8))→(List Int)→Int→Int→Option (Int×Int×(List UInt8)×(List aA)×(List aB)×(List Int)×Int×Int)):Prop:= ∀ {f:List (List UInt8)} {a:List Int} {b d:Int} {r:Int×Int×(List UInt8)×(List aA)×(List aB)×(List Int)×Int×Int},p f a b d=some r→Big Tryd.prog τ An (.fn 55 [.one (.ptr 1000000 0), .one (.c (.sl (f.map cU)))] [[.sl (a.map rI_u8), .int .i64 b, .int .i64 d]] (.one (.ag [.int .i64 r.1, .int .i64 r.2.1, .str r.2.2.1, .sl (r.2.2.2.1.map aD), .sl (r.2.2.2.2.1.map aC)])) none [[.sl (r.2.2.2.2.2.1.map rI_u8), .int .i64 r.2.2.2.2.2.2.1, .int .i64 r.2.2.2.2.2.2.2]] none)
def iN(n:Nat)(j:List (List UInt8))(d:List Int)(f:Int)(g:Int):Option (Int×Int×(List UInt8)×(List aA)×(List aB)×(List Int)×Int×Int):=
  (aY n (3:Int) j d f g).bind fun a=>(dG n a.1 a.2.1 a.2.2.1 a.2.2.2.1 a.2.2.2.2.1).bind fun c=>bif !c then(bL n (1:Int)).bind fun b=>some (b.1,b.2.1,b.2.2.1,b.2.2.2.1,b.2.2.2.2,a.2.2.2.2.2.1,a.2.2.2.2.2.2.1,a.2.2.2.2.2.2.2)else some (a.1,a.2.1,a.2.2.1,a.2.2.2.1,a.2.2.2.2.1,a.2.2.2.2.2.1,a.2.2.2.2.2.2.1,a.2.2.2.2.2.2.2)
theorem xP{n:Nat}:Az (iN n):=by
 intro l d f g r h; unfold iN at h; refine bF Tryd.func55 rfl rfl<|cRs<|xAz [.int .i64 0, .int .i64 0, .str [], .sl ([].map aD), .sl ([].map aC)] rfl<|goo 5 rfl<|xC1 h (AL ·) rfl (fun c h=> ?_)
 refine xAz [.int .i64 0, .int .i64 0, .str [], .sl ([].map aD), .sl ([].map aC)] rfl<|goo 6 rfl<|xC0 h (mF ·) rfl (fun a h=> ?_)
 refine goc 2 rfl<|cIf h rfl (fun j h=> ?_) (fun j h=> ?_)
 refine cRs<|xC0 h (bZ ·) rfl (fun b h=> ?_)
 exact geo; exact gec
abbrev Eb(p:(List Int)→Int→Int→Option (Int×Int×(List UInt8)×(List aA)×(List aB)×(List Int)×Int×Int)):Prop:= ∀ {a:List Int} {b c:Int} {r:Int×Int×(List UInt8)×(List aA)×(List aB)×(List Int)×Int×Int},p a b c=some r→Big Tryd.prog τ An (.fn 31 [.one (.ptr 1000000 0)] [[.sl (a.map rI_u8), .int .i64 b, .int .i64 c]] (.one (.ag [.int .i64 r.1, .int .i64 r.2.1, .str r.2.2.1, .sl (r.2.2.2.1.map aD), .sl (r.2.2.2.2.1.map aC)])) none [[.sl (r.2.2.2.2.2.1.map rI_u8), .int .i64 r.2.2.2.2.2.2.1, .int .i64 r.2.2.2.2.2.2.2]] none)
def jF(n:Nat)(d:List Int)(f:Int)(g:Int):Option (Int×Int×(List UInt8)×(List aA)×(List aB)×(List Int)×Int×Int):=
  (iN n ([([88]:List UInt8),([89]:List UInt8)]:List (List UInt8)) d f g).bind fun a=>(fN n (4:Int) a.2.2.2.2.2.1 a.2.2.2.2.2.2.1 a.2.2.2.2.2.2.2).bind fun c=>bif c.1 then(hG n a.1 a.2.1 a.2.2.1 a.2.2.2.1 a.2.2.2.2.1 c.2.1 c.2.2.1 c.2.2.2).bind fun b=>some (b.1,b.2.1,b.2.2.1,b.2.2.2.1,b.2.2.2.2.1,b.2.2.2.2.2.1,b.2.2.2.2.2.2.1,b.2.2.2.2.2.2.2)else some (a.1,a.2.1,a.2.2.1,a.2.2.2.1,a.2.2.2.2.1,c.2.1,c.2.2.1,c.2.2.2)
theorem rL{n:Nat}:Eb (jF n):=by
 intro d g j r h; unfold jF at h; refine bF Tryd.func31 rfl rfl<|cRs<|xAz [.int .i64 0, .int .i64 0, .str [], .sl ([].map aD), .sl ([].map aC)] rfl<|goo 4 rfl<|eU (L:=([([88]:List UInt8),([89]:List UInt8)]:List (List UInt8))) (f:=cU) rfl rfl rfl rfl rfl rfl rfl<|xC1 h (xP ·) rfl (fun b h=> ?_)
 refine xAz [.int .i64 0, .int .i64 0, .str [], .sl ([].map aD), .sl ([].map aC)] rfl<|goo 6 rfl<|xC1 h (mE ·) rfl (fun c h=> ?_)
 refine oNl<|cIf h rfl (fun l h=> ?_) (fun l h=> ?_)
 refine gco 3 rfl<|xC1 h (pX ·) rfl (fun a h=> ?_)
 exact geo; exact gec
abbrev sL(p:(List Int)→Option (Int×Int×(List UInt8)×(List aA)×(List aB)×Int×Int×(List UInt8)×(List aA)×(List aB))):Prop:= ∀ {a:List Int} {r:Int×Int×(List UInt8)×(List aA)×(List aB)×Int×Int×(List UInt8)×(List aA)×(List aB)},p a=some r→Big Tryd.prog τ An (.fn 12 [.one (.c (.sl (a.map rI_u8)))] [] (.tup [.ag [.int .i64 r.1, .int .i64 r.2.1, .str r.2.2.1, .sl (r.2.2.2.1.map aD), .sl (r.2.2.2.2.1.map aC)], .ag [.int .i64 r.2.2.2.2.2.1, .int .i64 r.2.2.2.2.2.2.1, .str r.2.2.2.2.2.2.2.1, .sl (r.2.2.2.2.2.2.2.2.1.map aD), .sl (r.2.2.2.2.2.2.2.2.2.map aC)]]) none [] none)
def dW(n:Nat)(j:List Int):Option (Int×Int×(List UInt8)×(List aA)×(List aB)×Int×Int×(List UInt8)×(List aA)×(List aB)):=
  (kR n j).bind fun g=>(jF n g.1 g.2.1 g.2.2).bind fun a=>(aG n (3:Int) a.2.2.2.2.2.1 a.2.2.2.2.2.2.1 a.2.2.2.2.2.2.2).bind fun b=>bif decide (b.1=(0:Int))then(cB n a.1 a.2.1 a.2.2.1 a.2.2.2.1 a.2.2.2.2.1).bind fun c=>some (a.1,a.2.1,a.2.2.1,a.2.2.2.1,a.2.2.2.2.1,c.1,c.2.1,c.2.2.1,c.2.2.2.1,c.2.2.2.2)else bif decide (b.1=(1:Int))then(hG n a.1 a.2.1 a.2.2.1 a.2.2.2.1 a.2.2.2.2.1 b.2.1 b.2.2.1 b.2.2.2).bind fun d=>some (a.1,a.2.1,a.2.2.1,a.2.2.2.1,a.2.2.2.2.1,d.1,d.2.1,d.2.2.1,d.2.2.2.1,d.2.2.2.2.1)else(jF n b.2.1 b.2.2.1 b.2.2.2).bind fun f=>some (a.1,a.2.1,a.2.2.1,a.2.2.2.1,a.2.2.2.2.1,f.1,f.2.1,f.2.2.1,f.2.2.2.1,f.2.2.2.2.1)
theorem qL{n:Nat}:sL (dW n):=by
 intro m r h; unfold dW at h; refine bF Tryd.func12 rfl rfl<|cRs<|xAz [.int .i64 0, .int .i64 0, .str [], .sl ([].map aD), .sl ([].map aC)] rfl<|xAz [.int .i64 0, .int .i64 0, .str [], .sl ([].map aD), .sl ([].map aC)] rfl<|goo 4 rfl<|wCn h (fun _=>(At ·)) rfl rfl rfl rfl rfl rfl rfl (fun _=>rfl) (fun f h=> ?_)
 refine goo 5 rfl<|xC1 h (rL ·) rfl (fun g h=> ?_)
 refine xAz [.int .i64 0, .int .i64 0, .str [], .sl ([].map aD), .sl ([].map aC)] rfl<|goo 6 rfl<|xC1 h (aI ·) rfl (fun a h=> ?_)
 refine goc 7 rfl<|cIf h rfl (fun j h=> ?_) (fun j h=> ?_)
 refine gco 4 rfl<|xC0 h (mD ·) rfl (fun b h=> ?_)
 exact geo; refine gcc 5 rfl<|cIf h rfl (fun l h=> ?_) (fun l h=> ?_)
 refine gco 5 rfl<|xC1 h (pX ·) rfl (fun c h=> ?_)
 exact geo; refine gco 5 rfl<|xC1 h (rL ·) rfl (fun d h=> ?_)
 exact geo
abbrev bB:Type:=Int→Int→(List UInt8)→(List aA)→(List aB)→Int→Int→(List UInt8)→(List aA)→(List aB)→Int→Int→(List UInt8)→(List aA)→(List aB)→Int→Int→(List UInt8)→(List aA)→(List aB)→Option (Bool)
abbrev dF(p:bB):Prop:= ∀ {a b:Int} {d:List UInt8} {f:List aA} {g:List aB} {j l:Int} {m:List UInt8} {o:List aA} {s:List aB} {t u:Int} {v:List UInt8} {w:List aA} {y:List aB} {z A:Int} {B:List UInt8} {C:List aA} {D:List aB} {r:Bool},p a b d f g j l m o s t u v w y z A B C D=some r→Big Tryd.prog τ An (.fn 37 [.one (.ag [.int .i64 a, .int .i64 b, .str d, .sl (f.map aD), .sl (g.map aC), .int .i64 j, .int .i64 l, .str m, .sl (o.map aD), .sl (s.map aC)]), .one (.ag [.int .i64 t, .int .i64 u, .str v, .sl (w.map aD), .sl (y.map aC), .int .i64 z, .int .i64 A, .str B, .sl (C.map aD), .sl (D.map aC)])] [] (.one (.c (.bool r))) none [] none)
abbrev aQ:Type:=(List aB)→(List aB)→Option (Bool)
abbrev bO(p:aQ):Prop:= ∀ {a b:List aB} {r:Bool},p a b=some r→Big Tryd.prog τ An (.fn 36 [.one (.c (.sl (a.map aC))), .one (.c (.sl (b.map aC))), .one (.fn 37 [])] [] (.one (.c (.bool r))) none [] none)
abbrev aP:Type:=(List aA)→(List aA)→Option (Bool)
abbrev bN(p:aP):Prop:= ∀ {a b:List aA} {r:Bool},p a b=some r→Big Tryd.prog τ An (.fn 35 [.one (.c (.sl (a.map aD))), .one (.c (.sl (b.map aD))), .one (.fn 13 [])] [] (.one (.c (.bool r))) none [] none)
abbrev bP:Type:=Int→Int→(List UInt8)→(List aA)→(List aB)→Int→Int→(List UInt8)→(List aA)→(List aB)→Option (Bool)
abbrev dV(p:bP):Prop:= ∀ {a b:Int} {d:List UInt8} {f:List aA} {g:List aB} {j l:Int} {m:List UInt8} {o:List aA} {s:List aB} {r:Bool},p a b d f g j l m o s=some r→Big Tryd.prog τ An (.fn 13 [.one (.ag [.int .i64 a, .int .i64 b, .str d, .sl (f.map aD), .sl (g.map aC)]), .one (.ag [.int .i64 j, .int .i64 l, .str m, .sl (o.map aD), .sl (s.map aC)])] [] (.one (.c (.bool r))) none [] none)
def fC(n:Nat)(a:bP)(c:aP)(b:aQ)(d:bB)(j:Int)(l:Int)(m:List UInt8)(o:List aA)(p:List aB)(s:Int)(t:Int)(u:List UInt8)(v:List aA)(w:List aB)(y:Int)(z:Int)(A:List UInt8)(B:List aA)(C:List aB)(D:Int)(E:Int)(G:List UInt8)(H:List aA)(I:List aB):Option (Bool):=
  ((a j l m o p y z A B C).bind fun g=>bif g then(a s t u v w D E G H I).bind fun f=>some f else some false).bind fun J=>some J
theorem rB{n:Nat}{f:bP}(d:dV f){b:aP}(j:bN b){a:aQ}(g:bO a){c:bB}(l:dF c):dF (fC n f b a c):=by
 intro t u v w y z A B C D E G H I J K L M N Q r h; unfold fC at h; refine bF Tryd.func37 rfl rfl<|gco 8 rfl<|oJn h [(4,16)] [] (fun m=>(.n,[(4,Bo m)],[])) (fun _ h=> ?_) (fun m h=> ?_)
 refine goo 4 rfl<|xC0 h (d ·) rfl (fun p h=> ?_)
 refine xMv rfl<|oIf 10 h rfl (fun s h=> ?_) (fun s h=> ?_)
 refine goo 4 rfl<|xC0 h (d ·) rfl (fun o h=> ?_)
 exact geo; exact geo; exact gec
def cZ(n:Nat)(f:List aB)(j:List aB)(c:bB):(Int)→Option ((Int)⊕((Bool)⊕(Int×Bool)))
  | d=>bif decide (d<(f.length:Int))then(ix f d).bind fun a=>(ix j d).bind fun b=>(c a.f0 a.f1 a.f2 a.f3 a.f4 a.f5 a.f6 a.f7 a.f8 a.f9 b.f0 b.f1 b.f2 b.f3 b.f4 b.f5 b.f6 b.f7 b.f8 b.f9).bind fun g=>bif !g then some (.inr (.inl false))else some (.inl (IntKind.wrap .i64 (d+(1:Int))))else some (.inr (.inr (d,false)))
def cQ(n:Nat)(d:bP)(c:aP)(b:aQ)(a:bB)(f:List aB)(g:List aB):Option (Bool):=
  bif !decide ((f.length:Int)=(g.length:Int))then some false else(loopN (cZ n f g a) n (0:Int)).bind fun q=>(match q with | .inl j=>some j | .inr (l,m)=>some true)
theorem nF{n:Nat}{d:bP}(l:dV d){b:aP}(j:bN b){a:aQ}(g:bO a){c:bB}(f:dF c):bO (cQ n d b a c):=by
 intro A B r h; unfold cQ at h; refine bF Tryd.func36 rfl rfl<|gco 8 rfl<|xLn rfl<|xMv rfl<|xLn rfl<|goc 2 rfl<|cIf h rfl (fun y h=> ?_) (fun y h=> ?_)
 exact gec; refine gco 5 rfl<|xLn rfl<|goc 2 rfl<|cLp h [(6,9),(17,31)] [(8,9)] (fun m=>([(17,I64 m)],[])) (fun q=>match q with | .inl s=>(.r,[(6,Bo s)],[]) | .inr (o,p)=>(.e 0,[(17,I64 o),(18,Bo p)],[])) rfl (fun m _ h=> ?_) (fun q h=> ?_)
 unfold cZ at h; refine gcc 5 rfl<|cIf h rfl (fun z h=> ?_) (fun z h=> ?_)
 refine gco 6 rfl<|xIx h aJ rfl (fun v h=> ?_)
 refine xLd rfl<|xAz [.int .i64 0, .int .i64 0, .str [], .sl ([].map aD), .sl ([].map aC), .int .i64 0, .int .i64 0, .str [], .sl ([].map aD), .sl ([].map aC)] rfl<|goo 7 rfl<|xIx h aJ rfl (fun w h=> ?_)
 refine xLd rfl<|xAz [.int .i64 0, .int .i64 0, .str [], .sl ([].map aD), .sl ([].map aC), .int .i64 0, .int .i64 0, .str [], .sl ([].map aD), .sl ([].map aC)] rfl<|goo 7 rfl<|xC0 h (f ·) rfl (fun u h=> ?_)
 refine goc 2 rfl<|cIf h rfl (fun t h=> ?_) (fun t h=> ?_)
 exact gec; exact gec; exact gec; rcases q with s | ⟨o,p⟩; exact en; exact gec
def cY(n:Nat)(c:bP)(f:List aA)(j:List aA):(Int)→Option ((Int)⊕((Bool)⊕(Int×Bool)))
  | d=>bif decide (d<(f.length:Int))then(ix f d).bind fun a=>(ix j d).bind fun b=>(c a.f0 a.f1 a.f2 a.f3 a.f4 b.f0 b.f1 b.f2 b.f3 b.f4).bind fun g=>bif !g then some (.inr (.inl false))else some (.inl (IntKind.wrap .i64 (d+(1:Int))))else some (.inr (.inr (d,false)))
def cP(n:Nat)(a:bP)(c:aP)(b:aQ)(d:bB)(f:List aA)(g:List aA):Option (Bool):=
  bif !decide ((f.length:Int)=(g.length:Int))then some false else(loopN (cY n a f g) n (0:Int)).bind fun q=>(match q with | .inl j=>some j | .inr (l,m)=>some true)
theorem nE{n:Nat}{d:bP}(f:dV d){b:aP}(j:bN b){a:aQ}(g:bO a){c:bB}(l:dF c):bN (cP n d b a c):=by
 intro A B r h; unfold cP at h; refine bF Tryd.func35 rfl rfl<|gco 8 rfl<|xLn rfl<|xMv rfl<|xLn rfl<|goc 2 rfl<|cIf h rfl (fun y h=> ?_) (fun y h=> ?_)
 exact gec; refine gco 5 rfl<|xLn rfl<|goc 2 rfl<|cLp h [(6,9),(17,31)] [(8,9)] (fun m=>([(17,I64 m)],[])) (fun q=>match q with | .inl s=>(.r,[(6,Bo s)],[]) | .inr (o,p)=>(.e 0,[(17,I64 o),(18,Bo p)],[])) rfl (fun m _ h=> ?_) (fun q h=> ?_)
 unfold cY at h; refine gcc 5 rfl<|cIf h rfl (fun z h=> ?_) (fun z h=> ?_)
 refine gco 6 rfl<|xIx h aH rfl (fun v h=> ?_)
 refine xLd rfl<|xAz [.int .i64 0, .int .i64 0, .str [], .sl ([].map aD), .sl ([].map aC)] rfl<|goo 7 rfl<|xIx h aH rfl (fun w h=> ?_)
 refine xLd rfl<|xAz [.int .i64 0, .int .i64 0, .str [], .sl ([].map aD), .sl ([].map aC)] rfl<|goo 7 rfl<|xC0 h (f ·) rfl (fun u h=> ?_)
 refine goc 2 rfl<|cIf h rfl (fun t h=> ?_) (fun t h=> ?_)
 exact gec; exact gec; exact gec; rcases q with s | ⟨o,p⟩; exact en; exact gec
def gX(n:Nat)(d:bP)(b:aP)(a:aQ)(c:bB)(l:Int)(m:Int)(o:List UInt8)(p:List aA)(s:List aB)(t:Int)(u:Int)(v:List UInt8)(w:List aA)(y:List aB):Option (Bool):=
  (bif !decide (l=t)then some true else bif !decide (m=u)then some true else bif !decide (o=v)then some true else(b p w).bind fun f=>some (!f)).bind fun j=>bif j then some false else(a s y).bind fun g=>some g
theorem uG{n:Nat}{g:bP}(l:dV g){b:aP}(f:bN b){a:aQ}(d:bO a){c:bB}(j:dF c):dV (gX n g b a c):=by
 intro w y z A B C D E G H r h; unfold gX at h; refine bF Tryd.func13 rfl rfl<|gco 9 rfl<|oJn h [(5,31)] [] (fun m=>(.n,[(31,Bo m)],[])) (fun _ h=> ?_) (fun m h=> ?_)
 refine goo 6 rfl<|oIf 10 h rfl (fun s h=> ?_) (fun s h=> ?_)
 exact geo; refine goo 7 rfl<|oIf 17 h rfl (fun t h=> ?_) (fun t h=> ?_)
 exact geo; refine goo 7 rfl<|oIf 24 h rfl (fun u h=> ?_) (fun u h=> ?_)
 exact geo; refine goo 4 rfl<|xC0 h (f ·) rfl (fun o h=> ?_)
 exact geo; refine cIf h rfl (fun v h=> ?_) (fun v h=> ?_)
 exact gec; refine gco 7 rfl<|xC0 h (d ·) rfl (fun p h=> ?_)
 exact geo
end Go.Own
