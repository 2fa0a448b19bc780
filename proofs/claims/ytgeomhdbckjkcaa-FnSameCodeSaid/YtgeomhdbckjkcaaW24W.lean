/- Each function on plain data, and its walk. No conditions. -/
import Derived.Test.YtgeomhdbckjkcaaW24V
set_option linter.unusedVariables false
set_option linter.unusedSimpArgs false
set_option linter.unnecessarySimpa false
namespace Go.Own
open Go Go.Proofs
def iZ(n:Nat)(f:List aG)(g:List aG):(Int)→Option ((Int)⊕((Bool)⊕(Int×Bool)))
  | c=>bif decide (c<(f.length:Int))then(ix f c).bind fun b=>(ix g c).bind fun a=>(iJ n b.f0 b.f1 b.f2 b.f3 a.f0 a.f1 a.f2 a.f3).bind fun d=>bif !d then some (.inr (.inl false))else some (.inl (IntKind.wrap .i64 (c+(1:Int))))else some (.inr (.inr (c,false)))
def iY(n:Nat)(f:List aB)(g:List aB):(Int)→Option ((Int)⊕((Bool)⊕(Int×Bool)))
  | c=>bif decide (c<(f.length:Int))then(ix f c).bind fun a=>(ix g c).bind fun b=>(fA n a.f0 a.f1 a.f2 a.f3 b.f0 b.f1 b.f2 b.f3).bind fun d=>bif !d then some (.inr (.inl false))else some (.inl (IntKind.wrap .i64 (c+(1:Int))))else some (.inr (.inr (c,false)))
def jI(n:Nat)(a:List aG)(b:List aB)(c:List aG)(d:List aB):Option (Bool):=
  (bif !decide ((a.length:Int)=(c.length:Int))then some true else some (!decide ((b.length:Int)=(d.length:Int)))).bind fun f=>bif f then some false else(loopN (iZ n a c) n (0:Int)).bind fun q=>(match q with | .inl j=>some j | .inr (p,m)=>(loopN (iY n b d) n (0:Int)).bind fun q=>(match q with | .inl g=>some g | .inr (o,l)=>some true))
theorem zU{n:Nat}:DH (jI n):=by
 intro D E G H r h
 unfold jI at h
 refine bF Try.func65 rfl rfl<|gco 9 rfl<|oJn h [(7,22)] [] (fun b=>(.n,[(22,Bo b)],[])) (fun _ h=> ?_) (fun b h=> ?_)
 refine goo 2 rfl<|xLn rfl<|goo 2 rfl<|xLn rfl<|goo 2 rfl<|oIf 14 h rfl (fun A h=> ?_) (fun A h=> ?_)
 exact geo
 exact goo 2 rfl<|xLn rfl<|goo 2 rfl<|xLn rfl<|geo
 refine cIf h rfl (fun B h=> ?_) (fun B h=> ?_)
 exact gec
 refine gcc 6 rfl<|cLp h [(4,5),(23,41)] [] (fun l=>([(5,I64 l)],[])) (fun q=>match q with | .inl j=>(.r,[(4,Bo j)],[]) | .inr (m,c)=>(.e 0,[(5,I64 m),(27,Bo c)],[])) rfl (fun l _ h=> ?_) (fun q h=> ?_)
 unfold iZ at h
 refine gco 6 rfl<|xLn rfl<|goc 2 rfl<|cIf h rfl (fun C h=> ?_) (fun C h=> ?_)
 refine gco 8 rfl<|xIx h dX rfl (fun z h=> ?_)
 refine goo 4 rfl<|xIx h dX rfl (fun s h=> ?_)
 refine xLd rfl<|xC0 h (yO ·) rfl (fun o h=> ?_)
 refine goc 2 rfl<|cIf h rfl (fun v h=> ?_) (fun v h=> ?_)
 exact gec
 exact gec
 exact gec
 rcases q with j | ⟨m,c⟩
 exact en
 refine gcc 5 rfl<|cLp h [(4,4),(6,6),(42,60)] [] (fun f=>([(6,I64 f)],[])) (fun q=>match q with | .inl d=>(.r,[(4,Bo d)],[]) | .inr (g,a)=>(.e 2,[(6,I64 g),(46,Bo a)],[])) rfl (fun f _ h=> ?_) (fun q h=> ?_)
 unfold iY at h
 refine gco 6 rfl<|xLn rfl<|goc 2 rfl<|cIf h rfl (fun w h=> ?_) (fun w h=> ?_)
 refine gco 8 rfl<|xIx h aP rfl (fun t h=> ?_)
 refine goo 4 rfl<|xIx h aP rfl (fun u h=> ?_)
 refine xLd rfl<|xC0 h (wM ·) rfl (fun p h=> ?_)
 refine goc 2 rfl<|cIf h rfl (fun y h=> ?_) (fun y h=> ?_)
 exact gec
 exact gec
 exact gec
 rcases q with d | ⟨g,a⟩
 exact en
 exact gec
abbrev Fx(p:(List UInt8)→Int→Int→(List aF)→(List UInt8)→Option (Bool×(List UInt8))):Prop:= ∀ {b:List UInt8} {d f:Int} {g:List aF} {a:List UInt8} {r:Bool×(List UInt8)},p b d f g a=some r→Big Try.prog τ An (.fn 243 [.one (.ag [.str b, .int .i64 d, .int .i64 f, .sl (g.map aL)]), .one (.ptr 1000000 0)] [[.str a]] (.one (.c (.bool r.1))) none [[.str r.2]] none)
def oG(n:Nat)(b:List UInt8)(c:Int)(d:Int)(f:List aF)(a:List UInt8):Option (Bool×(List UInt8)):=
  some ((decide (b=a)),a)
theorem Cx{n:Nat}:Fx (oG n):=by
 intro b c d f a r h
 unfold oG at h
 exact bF Try.func243 rfl rfl<|gec
abbrev rY(p:(List aG)→(List UInt8)→Option (Int×(List UInt8))):Prop:= ∀ {b:List aG} {a:List UInt8} {r:Int×(List UInt8)},p b a=some r→Big Try.prog τ An (.fn 242 [.one (.c (.sl (b.map aK))), .one (.fn 243 [(1000000,0)])] [[.str a]] (.one (.c (.int .i64 r.1))) none [[.str r.2]] none)
def bS(n:Nat)(f:List aG):(Int×(List UInt8))→Option ((Int×(List UInt8))⊕((Int×(List UInt8))⊕(Int×Bool×(List UInt8))))
  | (d,a)=>bif decide (d<(f.length:Int))then(ix f d).bind fun b=>(oG n b.f0 b.f1 b.f2 b.f3 a).bind fun c=>bif c.1 then some (.inr (.inl (d,c.2)))else some (.inl ((IntKind.wrap .i64 (d+(1:Int))),c.2))else some (.inr (.inr (d,false,a)))
def eW(n:Nat)(d:List aG)(c:List UInt8):Option (Int×(List UInt8)):=
  (loopN (bS n d) n ((0:Int),c)).bind fun q=>(match q with | .inl (f,a)=>some (f,a) | .inr (g,j,b)=>some (((-1):Int),b))
theorem qP{n:Nat}:rY (eW n):=by
 intro t p r h
 unfold eW at h
 refine bF Try.func242 rfl rfl<|gco 8 rfl<|xLn rfl<|goc 2 rfl<|cLp h [(4,5),(8,18)] [(1000000,1000000)] (fun(f,a)=>([(8,I64 f)],[(1000000,[.str a])])) (fun q=>match q with | .inl (d,b)=>(.r,[(4,I64 d)],[(1000000,[.str b])]) | .inr (g,j,c)=>(.e 0,[(8,I64 g),(9,Bo j)],[(1000000,[.str c])])) rfl (fun st _ h=> ?_) (fun q h=> ?_)
 obtain⟨f,a⟩:=st
 unfold bS at h
 refine gcc 5 rfl<|cIf h rfl (fun s h=> ?_) (fun s h=> ?_)
 refine gco 13 rfl<|xIx h dX rfl (fun o h=> ?_)
 refine xLd rfl<|xC1 h (Cx ·) rfl (fun l h=> ?_)
 refine oNl<|cIf h rfl (fun m h=> ?_) (fun m h=> ?_)
 exact gec
 exact gec
 exact gec
 rcases q with⟨d,b⟩ | ⟨g,j,c⟩
 exact en
 exact gec
abbrev JN(p:(List UInt8)→(List aG)→(List aB)→Option (Int×(List aG)×(List aB))):Prop:= ∀ {d:List UInt8} {a:List aG} {b:List aB} {r:Int×(List aG)×(List aB)},p d a b=some r→Big Try.prog τ An (.fn 206 [.one (.ptr 1000000 0), .one (.c (.str d))] [[.sl (a.map aK), .sl (b.map aH)]] (.one (.c (.int .i64 r.1))) none [[.sl (r.2.1.map aK), .sl (r.2.2.map aH)]] none)
def mX(n:Nat)(d:List UInt8)(a:List aG)(c:List aB):Option (Int×(List aG)×(List aB)):=
  (eW n a d).bind fun b=>some (b.1,a,c)
theorem xW{n:Nat}:JN (mX n):=by
 intro d b c r h
 unfold mX at h
 refine bF Try.func206 rfl rfl<|gco 11 rfl<|wFn rfl rfl rfl<|xC1 h (qP ·) rfl (fun a h=> ?_)
 exact geo
abbrev EF(p:Int→Int→Int→Option (Bool)):Prop:= ∀ {a b d:Int} {r:Bool},p a b d=some r→Big Try.prog τ An (.fn 75 [.one (.c (.int .i64 a)), .one (.c (.int .i64 b)), .one (.c (.int .i64 d))] [] (.one (.c (.bool r))) none [] none)
def aR(n:Nat)(a:Int)(b:Int)(c:Int):Option (Bool):=
  (bif decide (b≤a)then some (decide (a≤c))else some false).bind fun d=>some d
theorem aZ{n:Nat}:EF (aR n):=by
 intro c d f r h
 unfold aR at h
 refine bF Try.func75 rfl rfl<|gco 6 rfl<|oJn h [(6,14)] [] (fun a=>(.n,[(6,Bo a)],[])) (fun _ h=> ?_) (fun a h=> ?_)
 refine goo 4 rfl<|oIf 10 h rfl (fun b h=> ?_) (fun b h=> ?_)
 exact geo
 exact geo
 exact gec
abbrev ED(p:Int→Option (Bool)):Prop:= ∀ {a:Int} {r:Bool},p a=some r→Big Try.prog τ An (.fn 236 [.one (.c (.int .u8 a))] [] (.one (.c (.bool r))) none [] none)
def gF(n:Nat)(a:Int):Option (Bool):=
  (bif decide ((97:Int)≤a)then some (decide (a≤(122:Int)))else some false).bind fun b=>some b
theorem sL{n:Nat}:ED (gF n):=by
 intro c r h
 unfold gF at h
 refine bF Try.func236 rfl rfl<|gco 6 rfl<|oJn h [(2,8)] [] (fun a=>(.n,[(2,Bo a)],[])) (fun _ h=> ?_) (fun a h=> ?_)
 refine goo 3 rfl<|oIf 5 h rfl (fun b h=> ?_) (fun b h=> ?_)
 exact geo
 exact geo
 exact gec
abbrev DI(p:Int→Option (Bool)):Prop:= ∀ {a:Int} {r:Bool},p a=some r→Big Try.prog τ An (.fn 237 [.one (.c (.int .u8 a))] [] (.one (.c (.bool r))) none [] none)
def fD(n:Nat)(a:Int):Option (Bool):=
  (bif decide ((48:Int)≤a)then some (decide (a≤(57:Int)))else some false).bind fun b=>some b
theorem rL{n:Nat}:DI (fD n):=by
 intro c r h
 unfold fD at h
 refine bF Try.func237 rfl rfl<|gco 6 rfl<|oJn h [(2,8)] [] (fun a=>(.n,[(2,Bo a)],[])) (fun _ h=> ?_) (fun a h=> ?_)
 refine goo 3 rfl<|oIf 5 h rfl (fun b h=> ?_) (fun b h=> ?_)
 exact geo
 exact geo
 exact gec
abbrev Fz(p:(List UInt8)→Option (Bool)):Prop:= ∀ {a:List UInt8} {r:Bool},p a=some r→Big Try.prog τ An (.fn 196 [.one (.c (.str a))] [] (.one (.c (.bool r))) none [] none)
def lA(n:Nat)(b:List UInt8):(Int)→Option ((Int)⊕((Bool)⊕(Int×Bool)))
  | a=>bif decide (a<(b.length:Int))then((ixs b a).bind fun j=>(gF n j).bind fun g=>bif !g then bif decide (a=(0:Int))then some true else(ixs b a).bind fun d=>(fD n d).bind fun c=>bif !c then(ixs b a).bind fun f=>some (!decide (f=(95:Int)))else some false else some false).bind fun l=>bif l then some (.inr (.inl false))else some (.inl (IntKind.wrap .i64 (a+(1:Int))))else some (.inr (.inr (a,false)))
def mB(n:Nat)(b:List UInt8):Option (Bool):=
  (loopN (lA n b) n (0:Int)).bind fun q=>(match q with | .inl c=>some c | .inr (d,f)=>(aR n (b.length:Int) (1:Int) (20:Int)).bind fun a=>some a)
theorem Cz{n:Nat}:Fz (mB n):=by
 intro y r h
 unfold mB at h
 refine bF Try.func196 rfl rfl<|gcc 9 rfl<|cLp h [(2,31)] [] (fun c=>([(3,I64 c)],[])) (fun q=>match q with | .inl b=>(.r,[(2,Bo b)],[]) | .inr (d,f)=>(.e 0,[(3,I64 d),(7,Bo f)],[])) rfl (fun c _ h=> ?_) (fun q h=> ?_)
 unfold lA at h
 refine gco 5 rfl<|xLs rfl<|goc 2 rfl<|cIf h rfl (fun v h=> ?_) (fun v h=> ?_)
 refine gco 5 rfl<|oJn h [(10,31)] [] (fun a=>(.n,[(31,Bo a)],[])) (fun _ h=> ?_) (fun a h=> ?_)
 refine goo 2 rfl<|LK h rfl rfl rfl rfl rfl (fun u h=> ?_)
 refine xC0 h (sL ·) rfl (fun t h=> ?_)
 refine goo 2 rfl<|oIf 15 h rfl (fun w h=> ?_) (fun w h=> ?_)
 refine goo 3 rfl<|oIf 18 h rfl (fun o h=> ?_) (fun o h=> ?_)
 exact geo
 refine goo 2 rfl<|LK h rfl rfl rfl rfl rfl (fun l h=> ?_)
 refine xC0 h (rL ·) rfl (fun g h=> ?_)
 refine goo 2 rfl<|oIf 24 h rfl (fun p h=> ?_) (fun p h=> ?_)
 refine goo 2 rfl<|LK h rfl rfl rfl rfl rfl (fun m h=> ?_)
 exact geo
 exact geo
 exact geo
 refine cIf h rfl (fun s h=> ?_) (fun s h=> ?_)
 exact gec
 exact gec
 exact gec
 rcases q with b | ⟨d,f⟩
 exact en
 refine gco 3 rfl<|xLs rfl<|xC0 h (aZ ·) rfl (fun j h=> ?_)
 exact geo
abbrev Dy(p:(List UInt8)→Option (Bool)):Prop:= ∀ {a:List UInt8} {r:Bool},p a=some r→Big Try.prog τ An (.fn 228 [.one (.c (.str a))] [] (.one (.c (.bool r))) none [] none)
def dZ(n:Nat)(a:List UInt8):Option (Bool):=
  ((mB n a).bind fun b=>bif b then bif !decide (a=([99,97,115,101]:List UInt8))then bif !decide (a=([111,102]:List UInt8))then some (!decide (a=([101,110,100]:List UInt8)))else some false else some false else some false).bind fun c=>some c
theorem lB{n:Nat}:Dy (dZ n):=by
 intro g r h
 unfold dZ at h
 refine bF Try.func228 rfl rfl<|gco 6 rfl<|oJn h [(2,16)] [] (fun a=>(.n,[(2,Bo a)],[])) (fun _ h=> ?_) (fun a h=> ?_)
 refine xMv rfl<|xC0 h (Cz ·) rfl (fun b h=> ?_)
 refine xMv rfl<|oIf 5 h rfl (fun c h=> ?_) (fun c h=> ?_)
 refine goo 4 rfl<|oIf 9 h rfl (fun d h=> ?_) (fun d h=> ?_)
 refine goo 4 rfl<|oIf 13 h rfl (fun f h=> ?_) (fun f h=> ?_)
 exact geo
 exact geo
 exact geo
 exact geo
 exact gec
abbrev EE(p:Int→Option (Bool)):Prop:= ∀ {a:Int} {r:Bool},p a=some r→Big Try.prog τ An (.fn 258 [.one (.c (.int .u8 a))] [] (.one (.c (.bool r))) none [] none)
def iQ(n:Nat)(a:Int):Option (Bool):=
  (bif decide ((65:Int)≤a)then bif decide (a≤(90:Int))then some true else some (decide (a=(95:Int)))else some (decide (a=(95:Int)))).bind fun b=>some b
theorem sM{n:Nat}:EE (iQ n):=by
 intro d r h
 unfold iQ at h
 refine bF Try.func258 rfl rfl<|gco 6 rfl<|oJn h [(2,12)] [] (fun a=>(.n,[(2,Bo a)],[])) (fun _ h=> ?_) (fun a h=> ?_)
 refine goo 3 rfl<|oIf 5 h rfl (fun b h=> ?_) (fun b h=> ?_)
 refine goo 4 rfl<|oIf 9 h rfl (fun c h=> ?_) (fun c h=> ?_)
 exact geo
 exact geo
 exact geo
 exact gec
abbrev zX(p:Int→Option (Bool)):Prop:= ∀ {a:Int} {r:Bool},p a=some r→Big Try.prog τ An (.fn 257 [.one (.c (.int .u8 a))] [] (.one (.c (.bool r))) none [] none)
def gN(n:Nat)(a:Int):Option (Bool):=
  ((gF n a).bind fun c=>bif c then some true else(iQ n a).bind fun d=>bif d then some true else(fD n a).bind fun b=>some b).bind fun f=>some f
theorem wP{n:Nat}:zX (gN n):=by
 intro j r h
 unfold gN at h
 refine bF Try.func257 rfl rfl<|gco 6 rfl<|oJn h [(2,12)] [] (fun a=>(.n,[(2,Bo a)],[])) (fun _ h=> ?_) (fun a h=> ?_)
 refine xMv rfl<|xC0 h (sL ·) rfl (fun c h=> ?_)
 refine xMv rfl<|oIf 5 h rfl (fun f h=> ?_) (fun f h=> ?_)
 exact geo
 refine xMv rfl<|xC0 h (sM ·) rfl (fun d h=> ?_)
 refine goo 2 rfl<|oIf 9 h rfl (fun g h=> ?_) (fun g h=> ?_)
 exact geo
 refine xMv rfl<|xC0 h (rL ·) rfl (fun b h=> ?_)
 exact geo
 exact gec
abbrev Hm(p:(List UInt8)→Option (Bool)):Prop:= ∀ {a:List UInt8} {r:Bool},p a=some r→Big Try.prog τ An (.fn 227 [.one (.c (.str a))] [] (.one (.c (.bool r))) none [] none)
def mI(n:Nat)(b:List UInt8):(Int)→Option ((Int)⊕((Bool)⊕(Int×Bool)))
  | a=>bif decide (a<(b.length:Int))then(ixs b a).bind fun d=>(gN n d).bind fun c=>bif !c then some (.inr (.inl false))else some (.inl (IntKind.wrap .i64 (a+(1:Int))))else some (.inr (.inr (a,false)))
def nP(n:Nat)(a:List UInt8):Option (Bool):=
  (loopN (mI n a) n (0:Int)).bind fun q=>(match q with | .inl f=>some f | .inr (j,l)=>((aR n (a.length:Int) (1:Int) (20:Int)).bind fun b=>bif b then(ixs a (0:Int)).bind fun d=>(iQ n d).bind fun c=>some c else some false).bind fun g=>some g)
theorem Do{n:Nat}:Hm (nP n):=by
 intro u r h
 unfold nP at h
 refine bF Try.func227 rfl rfl<|gcc 9 rfl<|cLp h [(2,14)] [] (fun c=>([(3,I64 c)],[])) (fun q=>match q with | .inl a=>(.r,[(2,Bo a)],[]) | .inr (d,f)=>(.e 0,[(3,I64 d),(7,Bo f)],[])) rfl (fun c _ h=> ?_) (fun q h=> ?_)
 unfold mI at h
 refine gco 5 rfl<|xLs rfl<|goc 2 rfl<|cIf h rfl (fun s h=> ?_) (fun s h=> ?_)
 refine gco 7 rfl<|LK h rfl rfl rfl rfl rfl (fun p h=> ?_)
 refine xC0 h (wP ·) rfl (fun o h=> ?_)
 refine goc 2 rfl<|cIf h rfl (fun t h=> ?_) (fun t h=> ?_)
 exact gec
 exact gec
 exact gec
 rcases q with a | ⟨d,f⟩
 exact en
 refine cRs<|oJn h [(2,2),(15,22)] [] (fun b=>(.n,[(2,Bo b)],[])) (fun _ h=> ?_) (fun b h=> ?_)
 refine xMv rfl<|xLs rfl<|xC0 h (aZ ·) rfl (fun g h=> ?_)
 refine xMv rfl<|oIf 18 h rfl (fun m h=> ?_) (fun m h=> ?_)
 refine xMv rfl<|LK h rfl rfl rfl rfl rfl (fun l h=> ?_)
 refine xC0 h (sM ·) rfl (fun j h=> ?_)
 exact geo
 exact geo
 exact gec
abbrev JL(p:(List UInt8)→Option (Bool)):Prop:= ∀ {a:List UInt8} {r:Bool},p a=some r→Big Try.prog τ An (.fn 261 [.one (.c (.str a))] [] (.one (.c (.bool r))) none [] none)
def mW(n:Nat)(a:List UInt8):Option (Bool):=
  bif decide (a=([43]:List UInt8))then some true else bif decide (a=([45]:List UInt8))then some true else bif decide (a=([42]:List UInt8))then some true else bif decide (a=([61,61]:List UInt8))then some true else bif decide (a=([60]:List UInt8))then some true else some false
theorem xV{n:Nat}:JL (mW n):=by
 intro g r h
 unfold mW at h
 refine bF Try.func261 rfl rfl<|gcc 16 rfl<|cIf h rfl (fun a h=> ?_) (fun a h=> ?_)
 exact gec
 refine gcc 5 rfl<|cIf h rfl (fun b h=> ?_) (fun b h=> ?_)
 exact gec
 refine gcc 5 rfl<|cIf h rfl (fun c h=> ?_) (fun c h=> ?_)
 exact gec
 refine gcc 5 rfl<|cIf h rfl (fun d h=> ?_) (fun d h=> ?_)
 exact gec
 refine gcc 4 rfl<|cIf h rfl (fun f h=> ?_) (fun f h=> ?_)
 exact gec
 exact gec
abbrev EA(p:Int→Int→(List UInt8)→Int→Option (Bool)):Prop:= ∀ {a b:Int} {d:List UInt8} {f:Int} {r:Bool},p a b d f=some r→Big Try.prog τ An (.fn 234 [.one (.c (.int .i64 a)), .one (.c (.int .i64 b)), .one (.c (.str d)), .one (.c (.int .i64 f))] [] (.one (.c (.bool r))) none [] none)
def kL(n:Nat)(a:Int)(b:Int)(c:List UInt8)(d:Int):Option (Bool):=
  bif decide (a=(1:Int))then((aR n b (0:Int) (1000000000000:Int)).bind fun m=>bif m then bif decide (c=([]:List UInt8))then some (decide (d=(0:Int)))else some false else some false).bind fun z=>some z else bif decide (a=(2:Int))then(bif decide (b=(0:Int))then(dZ n c).bind fun o=>bif o then some (decide (d=(0:Int)))else some false else some false).bind fun A=>some A else bif decide (a=(3:Int))then(bif decide (b=(0:Int))then(nP n c).bind fun f=>bif f then some (decide (d=(0:Int)))else some false else some false).bind fun p=>some p else bif decide (a=(4:Int))then(bif decide (b=(0:Int))then bif decide (c=([]:List UInt8))then some (decide (d≤(20:Int)))else some false else some false).bind fun s=>some s else bif decide (a=(5:Int))then(bif decide (b=(0:Int))then bif decide (c=([]:List UInt8))then some (decide (d≤(20:Int)))else some false else some false).bind fun t=>some t else bif decide (a=(6:Int))then(bif decide (b=(0:Int))then bif decide (c=([]:List UInt8))then(aR n d (2:Int) (6:Int)).bind fun g=>some g else some false else some false).bind fun u=>some u else bif decide (a=(7:Int))then(bif decide (b=(0:Int))then(mW n c).bind fun j=>bif j then some (decide (d=(2:Int)))else some false else some false).bind fun v=>some v else bif decide (a=(8:Int))then(bif decide (b=(0:Int))then(dZ n c).bind fun l=>bif l then some (decide (d≤(4:Int)))else some false else some false).bind fun w=>some w else bif decide (a=(9:Int))then(bif decide (b=(0:Int))then bif decide (c=([]:List UInt8))then some (decide (d=(1:Int)))else some false else some false).bind fun y=>some y else some false
theorem BA{n:Nat}:EA (kL n):=by
 intro a2 a3 a4 a5 r h
 unfold kL at h
 refine bF Try.func234 rfl rfl<|gcc 15 rfl<|cIf h rfl (fun X h=> ?_) (fun X h=> ?_)
 refine cRs<|oJn h [(8,8),(12,21)] [] (fun l=>(.n,[(8,Bo l)],[])) (fun _ h=> ?_) (fun l h=> ?_)
 refine xMv rfl<|xC0 h (aZ ·) rfl (fun V h=> ?_)
 refine xMv rfl<|oIf 14 h rfl (fun Y h=> ?_) (fun Y h=> ?_)
 refine goo 4 rfl<|oIf 18 h rfl (fun Z h=> ?_) (fun Z h=> ?_)
 exact geo
 exact geo
 exact geo
 exact gec
 refine gcc 5 rfl<|cIf h rfl (fun q6 h=> ?_) (fun q6 h=> ?_)
 refine cRs<|oJn h [(8,8),(24,33)] [] (fun m=>(.n,[(8,Bo m)],[])) (fun _ h=> ?_) (fun m h=> ?_)
 refine goo 3 rfl<|oIf 26 h rfl (fun q8 h=> ?_) (fun q8 h=> ?_)
 refine xMv rfl<|xC0 h (lB ·) rfl (fun W h=> ?_)
 refine goo 2 rfl<|oIf 30 h rfl (fun u h=> ?_) (fun u h=> ?_)
 exact geo
 exact geo
 exact geo
 exact gec
 refine gcc 5 rfl<|cIf h rfl (fun v h=> ?_) (fun v h=> ?_)
 refine cRs<|oJn h [(8,8),(36,45)] [] (fun a=>(.n,[(8,Bo a)],[])) (fun _ h=> ?_) (fun a h=> ?_)
 refine goo 3 rfl<|oIf 38 h rfl (fun w h=> ?_) (fun w h=> ?_)
 refine xMv rfl<|xC0 h (Do ·) rfl (fun o h=> ?_)
 refine goo 2 rfl<|oIf 42 h rfl (fun y h=> ?_) (fun y h=> ?_)
 exact geo
 exact geo
 exact geo
 exact gec
 refine gcc 6 rfl<|cIf h rfl (fun z h=> ?_) (fun z h=> ?_)
 refine gco 4 rfl<|oJn h [(8,8),(49,58)] [] (fun b=>(.n,[(8,Bo b)],[])) (fun _ h=> ?_) (fun b h=> ?_)
 refine goo 3 rfl<|oIf 51 h rfl (fun A h=> ?_) (fun A h=> ?_)
 refine goo 4 rfl<|oIf 55 h rfl (fun B h=> ?_) (fun B h=> ?_)
 exact geo
 exact geo
 exact geo
 exact gec
 refine gcc 4 rfl<|cIf h rfl (fun C h=> ?_) (fun C h=> ?_)
 refine cRs<|oJn h [(8,8),(49,58)] [] (fun c=>(.n,[(8,Bo c)],[])) (fun _ h=> ?_) (fun c h=> ?_)
 refine goo 3 rfl<|oIf 51 h rfl (fun D h=> ?_) (fun D h=> ?_)
 refine goo 4 rfl<|oIf 55 h rfl (fun E h=> ?_) (fun E h=> ?_)
 exact geo
 exact geo
 exact geo
 exact gec
 refine gcc 5 rfl<|cIf h rfl (fun G h=> ?_) (fun G h=> ?_)
 refine cRs<|oJn h [(8,8),(61,70)] [] (fun d=>(.n,[(8,Bo d)],[])) (fun _ h=> ?_) (fun d h=> ?_)
 refine goo 3 rfl<|oIf 63 h rfl (fun H h=> ?_) (fun H h=> ?_)
 refine goo 4 rfl<|oIf 67 h rfl (fun I h=> ?_) (fun I h=> ?_)
 refine xMv rfl<|xC0 h (aZ ·) rfl (fun p h=> ?_)
 exact geo
 exact geo
 exact geo
 exact gec
 refine gcc 5 rfl<|cIf h rfl (fun J h=> ?_) (fun J h=> ?_)
 refine cRs<|oJn h [(8,8),(73,82)] [] (fun f=>(.n,[(8,Bo f)],[])) (fun _ h=> ?_) (fun f h=> ?_)
 refine goo 3 rfl<|oIf 75 h rfl (fun K h=> ?_) (fun K h=> ?_)
 refine xMv rfl<|xC0 h (xV ·) rfl (fun s h=> ?_)
 refine goo 2 rfl<|oIf 79 h rfl (fun L h=> ?_) (fun L h=> ?_)
 exact geo
 exact geo
 exact geo
 exact gec
 refine gcc 5 rfl<|cIf h rfl (fun M h=> ?_) (fun M h=> ?_)
 refine cRs<|oJn h [(8,8),(85,94)] [] (fun g=>(.n,[(8,Bo g)],[])) (fun _ h=> ?_) (fun g h=> ?_)
 refine goo 3 rfl<|oIf 87 h rfl (fun N h=> ?_) (fun N h=> ?_)
 refine xMv rfl<|xC0 h (lB ·) rfl (fun t h=> ?_)
 refine goo 2 rfl<|oIf 91 h rfl (fun Q h=> ?_) (fun Q h=> ?_)
 exact geo
 exact geo
 exact geo
 exact gec
 refine gcc 5 rfl<|cIf h rfl (fun R h=> ?_) (fun R h=> ?_)
 refine cRs<|oJn h [(8,8),(97,106)] [] (fun j=>(.n,[(8,Bo j)],[])) (fun _ h=> ?_) (fun j h=> ?_)
 refine goo 3 rfl<|oIf 99 h rfl (fun T h=> ?_) (fun T h=> ?_)
 refine goo 4 rfl<|oIf 103 h rfl (fun U h=> ?_) (fun U h=> ?_)
 exact geo
 exact geo
 exact geo
 exact gec
 exact gec
abbrev wS(p:(List Int)→Int→Option (Int)):Prop:= ∀ {a:List Int} {b:Int} {r:Int},p a b=some r→Big Try.prog τ An (.fn 280 [.one (.c (.sl (a.map aW))), .one (.c (.int .i64 b))] [] (.one (.c (.int .i64 r))) none [] none)
def dQ(n:Nat)(b:List Int)(d:Int):(Int)→Option ((Int)⊕((Int)⊕(Int×Bool)))
  | a=>bif decide (a<(b.length:Int))then(ix b a).bind fun c=>bif decide (d=c)then some (.inr (.inl a))else some (.inl (IntKind.wrap .i64 (a+(1:Int))))else some (.inr (.inr (a,false)))
def fG(n:Nat)(a:List Int)(b:Int):Option (Int):=
  (loopN (dQ n a b) n (0:Int)).bind fun q=>(match q with | .inl c=>some c | .inr (d,f)=>some ((-1):Int))
theorem uN{n:Nat}:wS (fG n):=by
 intro l m r h
 unfold fG at h
 refine bF Try.func280 rfl rfl<|gco 8 rfl<|xLn rfl<|goc 2 rfl<|cLp h [(4,5),(8,18)] [] (fun b=>([(8,I64 b)],[])) (fun q=>match q with | .inl a=>(.r,[(4,I64 a)],[]) | .inr (c,d)=>(.e 0,[(8,I64 c),(9,Bo d)],[])) rfl (fun b _ h=> ?_) (fun q h=> ?_)
 unfold dQ at h
 refine gcc 5 rfl<|cIf h rfl (fun g h=> ?_) (fun g h=> ?_)
 refine gco 13 rfl<|xIx h nB rfl (fun f h=> ?_)
 refine goc 3 rfl<|cIf h rfl (fun j h=> ?_) (fun j h=> ?_)
 exact gec
 exact gec
 exact gec
 rcases q with a | ⟨c,d⟩
 exact en
 exact gec
abbrev sW(p:(List Int)→Int→Option (Bool)):Prop:= ∀ {a:List Int} {b:Int} {r:Bool},p a b=some r→Big Try.prog τ An (.fn 271 [.one (.c (.sl (a.map aW))), .one (.c (.int .i64 b))] [] (.one (.c (.bool r))) none [] none)
def dR(n:Nat)(b:List Int)(c:Int):Option (Bool):=
  (fG n b c).bind fun a=>some (decide ((0:Int)≤a))
theorem rR{n:Nat}:sW (dR n):=by
 intro b c r h
 unfold dR at h
 refine bF Try.func271 rfl rfl<|gco 8 rfl<|xC0 h (uN ·) rfl (fun a h=> ?_)
 exact geo
abbrev eI:Type:=Int→Int→(List UInt8)→(List aB)→Int→Int→Int→(List Int)→Option (Bool×Int×Int×(List Int))
abbrev jA(p:eI):Prop:= ∀ {f g:Int} {j:List UInt8} {l:List aB} {m a b:Int} {d:List Int} {r:Bool×Int×Int×(List Int)},p f g j l m a b d=some r→Big Try.prog τ An (.fn 246 [.one (.ptr 1000000 0), .one (.ag [.int .i64 f, .int .i64 g, .str j, .sl (l.map aH)]), .one (.c (.int .i64 m))] [[.int .i64 a, .int .i64 b, .sl (d.map aW)]] (.one (.c (.bool r.1))) none [[.int .i64 r.2.1, .int .i64 r.2.2.1, .sl (r.2.2.2.map aW)]] none)
def cX(n:Nat)(b:eI)(m:Int)(l:List aB):(Int×Int×Int×(List Int))→Option ((Int×Int×Int×(List Int))⊕((Bool×Int×Int×(List Int))⊕(Int×Bool×Int×Int×(List Int))))
  | (j,c,d,f)=>bif decide (j<(l.length:Int))then(ix l j).bind fun g=>(b g.f0 g.f1 g.f2 g.f3 (IntKind.wrap .i64 (m+(1:Int))) c d f).bind fun a=>bif !a.1 then some (.inr (.inl (false,a.2.1,a.2.2.1,a.2.2.2)))else some (.inl ((IntKind.wrap .i64 (j+(1:Int))),a.2.1,a.2.2.1,a.2.2.2))else some (.inr (.inr (j,false,c,d,f)))
def fZ(n:Nat)(a:eI)(s:Int)(f:Int)(w:List UInt8)(t:List aB)(y:Int)(b:Int)(c:Int)(d:List Int):Option (Bool×Int×Int×(List Int)):=
  (bif decide ((10:Int)<y)then some true else some (decide ((300:Int)<(IntKind.wrap .i64 (c+(1:Int)))))).bind fun C=>bif C then some (false,b,(IntKind.wrap .i64 (c+(1:Int))),d)else bif decide (s=(3:Int))then((aR n f ((-1):Int) (IntKind.wrap .i64 (b - (1:Int)))).bind fun B=>bif !B then some true else bif !decide (w=([]:List UInt8))then some true else bif decide ((0:Int)<(t.length:Int))then some true else bif decide ((0:Int)≤f)then(dR n d f).bind fun u=>some u else some false).bind fun D=>bif D then some (false,b,(IntKind.wrap .i64 (c+(1:Int))),d)else(fQ 8 d ([f]:List Int)).bind fun z=>some (true,b,(IntKind.wrap .i64 (c+(1:Int))),z)else(bif decide ((6:Int)<s)then some true else(kL n s f w (t.length:Int)).bind fun v=>some (!v)).bind fun A=>bif A then some (false,b,(IntKind.wrap .i64 (c+(1:Int))),d)else(loopN (cX n a y t) n ((0:Int),b,(IntKind.wrap .i64 (c+(1:Int))),d)).bind fun q=>(match q with | .inl (E,g,j,l)=>some (E,g,j,l) | .inr (G,H,m,o,p)=>some (true,m,o,p))
theorem uJ{n:Nat}{a:eI}(b:jA a):jA (fZ n a):=by
 intro a2 B a3 a4 a5 T U V r h
 unfold fZ at h
 refine bF Try.func246 rfl rfl<|gco 19 rfl<|oJn h [(16,24)] [] (fun y=>(.n,[(24,Bo y)],[])) (fun _ h=> ?_) (fun y h=> ?_)
 refine goo 3 rfl<|oIf 18 h rfl (fun W h=> ?_) (fun W h=> ?_)
 exact geo
 exact geo
 refine cIf h rfl (fun X h=> ?_) (fun X h=> ?_)
 exact gec
 refine gcc 8 rfl<|cIf h rfl (fun Y h=> ?_) (fun Y h=> ?_)
 refine gco 3 rfl<|oJn h [(28,61)] [] (fun z=>(.n,[(61,Bo z)],[])) (fun _ h=> ?_) (fun z h=> ?_)
 refine goo 7 rfl<|xC0 h (aZ ·) rfl (fun R h=> ?_)
 refine goo 2 rfl<|oIf 37 h rfl (fun Z h=> ?_) (fun Z h=> ?_)
 exact geo
 refine goo 5 rfl<|oIf 42 h rfl (fun q8 h=> ?_) (fun q8 h=> ?_)
 exact geo
 refine goo 2 rfl<|xLn rfl<|goo 3 rfl<|oIf 48 h rfl (fun q9 h=> ?_) (fun q9 h=> ?_)
 exact geo
 refine goo 4 rfl<|oIf 52 h rfl (fun H h=> ?_) (fun H h=> ?_)
 refine goo 6 rfl<|xC0 h (rR ·) rfl (fun D h=> ?_)
 exact geo
 exact geo
 refine cIf h rfl (fun I h=> ?_) (fun I h=> ?_)
 exact gec
 refine gco 10 rfl<|dM (L:=([B]:List Int)) (f:=aW) rfl rfl rfl rfl rfl rfl rfl<|wAp (f:=aW) h rfl rfl rfl rfl rfl rfl rfl rfl rfl (fun _=>rfl) rfl (fun Q h=> ?_)
 exact geo
 refine gco 4 rfl<|oJn h [(73,88)] [] (fun t=>(.n,[(88,Bo t)],[])) (fun _ h=> ?_) (fun t h=> ?_)
 refine goo 4 rfl<|oIf 76 h rfl (fun J h=> ?_) (fun J h=> ?_)
 exact geo
 refine goo 8 rfl<|xLn rfl<|xC0 h (BA ·) rfl (fun E h=> ?_)
 exact geo
 refine cIf h rfl (fun K h=> ?_) (fun K h=> ?_)
 exact gec
 refine gco 6 rfl<|xLn rfl<|goc 2 rfl<|cLp h [(6,6),(8,8),(92,102)] [(8,8),(1000000,1000000)] (fun(u,c,d,g)=>([(92,I64 u)],[(1000000,[.int .i64 c, .int .i64 d, .sl (g.map aW)])])) (fun q=>match q with | .inl (A,j,l,m)=>(.r,[(6,Bo A)],[(1000000,[.int .i64 j, .int .i64 l, .sl (m.map aW)])]) | .inr (v,w,o,p,s)=>(.e 0,[(92,I64 v),(93,Bo w)],[(1000000,[.int .i64 o, .int .i64 p, .sl (s.map aW)])])) rfl (fun st _ h=> ?_) (fun q h=> ?_)
 obtain⟨u,c,d,g⟩:=st
 unfold cX at h
 refine gcc 5 rfl<|cIf h rfl (fun M h=> ?_) (fun M h=> ?_)
 refine gco 5 rfl<|xIx h aP rfl (fun G h=> ?_)
 refine xLd rfl<|xAz [.int .i64 0, .int .i64 0, .str [], .sl ([].map aH)] rfl<|goo 8 rfl<|xC1 h (b ·) rfl (fun C h=> ?_)
 refine goc 2 rfl<|cIf h rfl (fun N h=> ?_) (fun N h=> ?_)
 exact gec
 exact gec
 exact gec
 rcases q with⟨A,j,l,m⟩ | ⟨v,w,o,p,s⟩
 exact en
 exact gec
def qC:Nat→(eI)
  | 0=>(fun _ _ _ _ _ _ _ _=>none)
  | n+1=>fZ n (qC n)
def cE(n:Nat):eI:=qC n
theorem uL(n:Nat):jA (cE n):=by
  induction n with
  | zero=>exact(fun h=>nomatch h)
  | succ n ih=>exact uJ (n:=n) ih
theorem vG{n:Nat}:jA (cE n):=(uL n)
theorem rV(n:Nat):cE (n+1)=fZ n (cE n):=rfl
abbrev EH(p:Int→Int→(List UInt8)→(List aB)→Int→Option (Bool)):Prop:= ∀ {a b:Int} {d:List UInt8} {f:List aB} {g:Int} {r:Bool},p a b d f g=some r→Big Try.prog τ An (.fn 208 [.one (.ag [.int .i64 a, .int .i64 b, .str d, .sl (f.map aH)]), .one (.c (.int .i64 g))] [] (.one (.c (.bool r))) none [] none)
def gG(n:Nat)(d:Int)(f:Int)(g:List UInt8)(j:List aB)(b:Int):Option (Bool):=
  ((aR n b (0:Int) (400:Int)).bind fun c=>bif c then(cE n d f g j (1:Int) b (0:Int) ([]:List Int)).bind fun a=>some (a.1,a.2.1,a.2.2.1,a.2.2.2)else some (false,b,(0:Int),([]:List Int))).bind fun(l,m,o,p)=>some l
theorem sO{n:Nat}:EH (gG n):=by
 intro m o p s f r h
 unfold gG at h
 refine bF Try.func208 rfl rfl<|gco 8 rfl<|wBd [.int .i64 f, .int .i64 0, .sl ([].map aW)] rfl rfl rfl rfl rfl rfl<|xAz [.int .i64 0, .int .i64 0, .sl ([].map aW)] rfl<|goo 4 rfl<|oJn h [(4,4),(8,13)] [(5,5)] (fun(a,b,c,d)=>(.n,[(4,Bo a)],[(5,[.int .i64 b, .int .i64 c, .sl (d.map aW)])])) (fun _ h=> ?_) (fun q h=> ?_)
 refine xMv rfl<|xC0 h (aZ ·) rfl (fun j h=> ?_)
 refine xMv rfl<|oIf 10 h rfl (fun l h=> ?_) (fun l h=> ?_)
 refine xLd rfl<|xC1 h (vG ·) rfl (fun g h=> ?_)
 exact geo
 exact geo
 obtain⟨a,b,c,d⟩:=q
 exact gec
abbrev Hn(p:(List UInt8)→Int→Int→(List aF)→Int→Int→(List UInt8)→Int→(List aG)→(List aB)→Option (Bool×(List aG)×(List aB))):Prop:= ∀ {d:List UInt8} {f g:Int} {j:List aF} {l m:Int} {o:List UInt8} {s:Int} {a:List aG} {b:List aB} {r:Bool×(List aG)×(List aB)},p d f g j l m o s a b=some r→Big Try.prog τ An (.fn 244 [.one (.ptr 1000000 0), .one (.cp [.str d, .int .i64 f, .int .i64 g, .sl (j.map aL)]), .one (.ag [.int .i64 l, .int .i64 m, .str o, .int .i64 s])] [[.sl (a.map aK), .sl (b.map aH)]] (.one (.c (.bool r.1))) none [[.sl (r.2.1.map aK), .sl (r.2.2.map aH)]] none)
def lI(n:Nat)(U:List UInt8)(V:Int)(B:Int)(Q:List aF)(d:Int)(c:Int)(l:List UInt8)(m:Int)(b:List aG)(a:List aB):Option (Bool×(List aG)×(List aB)):=
  (bif decide (l=([]:List UInt8))then some (decide (m=(0:Int)))else some false).bind fun j=>(aR n m (0:Int) (IntKind.wrap .i64 ((Q.length:Int) - (1:Int)))).bind fun o=>bif decide (d=(1:Int))then(bif j then(aR n c (0:Int) (1000000000000:Int)).bind fun C=>some C else some false).bind fun R=>some (R,b,a)else bif decide (d=(2:Int))then(bif decide (c=(0:Int))then(dZ n l).bind fun u=>bif u then some (decide (m=(0:Int)))else some false else some false).bind fun T=>some (T,b,a)else bif decide (d=(3:Int))then(bif j then(aR n c (0:Int) (IntKind.wrap .i64 (B - (1:Int)))).bind fun v=>some v else some false).bind fun D=>some (D,b,a)else bif decide (d=(4:Int))then(bif j then(aR n c (0:Int) (20:Int)).bind fun w=>some w else some false).bind fun E=>some (E,b,a)else bif decide (d=(5:Int))then(bif j then(aR n c (0:Int) (20:Int)).bind fun y=>some y else some false).bind fun G=>some (G,b,a)else bif decide (d=(6:Int))then(bif j then(aR n c (2:Int) (6:Int)).bind fun z=>some z else some false).bind fun H=>some (H,b,a)else bif decide (d=(7:Int))then(bif decide (c=(0:Int))then(mW n l).bind fun A=>bif A then some (decide (m=(0:Int)))else some false else some false).bind fun I=>some (I,b,a)else bif decide (d=(8:Int))then(mX n l b a).bind fun f=>(bif decide ((0:Int)≤f.1)then(ix f.2.1 f.1).bind fun t=>bif decide (t.f1=c)then some (decide (m=(0:Int)))else some false else some false).bind fun J=>some (J,f.2.1,f.2.2)else bif decide (d=(9:Int))then(bif decide (l=([]:List UInt8))then bif o then(aR n c (0:Int) (IntKind.wrap .i64 ((a.length:Int) - (1:Int)))).bind fun p=>bif p then(ix a c).bind fun g=>(gG n g.f0 g.f1 g.f2 g.f3 B).bind fun s=>some s else some false else some false else some false).bind fun K=>some (K,b,a)else bif decide (d=(10:Int))then(bif decide (l=([]:List UInt8))then bif decide (c=(0:Int))then some o else some false else some false).bind fun L=>some (L,b,a)else bif decide (d=(11:Int))then(bif j then some (decide (c=(0:Int)))else some false).bind fun M=>some (M,b,a)else bif decide (d=(12:Int))then(bif j then some (decide (c=(0:Int)))else some false).bind fun N=>some (N,b,a)else some (false,b,a)
theorem Dp{n:Nat}:Hn (lI n):=by
 intro b9 c0 c1 c2 c3 c4 c5 c6 b3 b4 r h
 unfold lI at h
 refine bF Try.func244 rfl rfl<|gco 7 rfl<|oJn h [(7,7),(10,17)] [] (fun t=>(.n,[(7,Bo t)],[])) (fun _ h=> ?_) (fun t h=> ?_)
 refine goo 4 rfl<|oIf 13 h rfl (fun q2 h=> ?_) (fun q2 h=> ?_)
 exact geo
 exact geo
 refine gco 8 rfl<|xLn rfl<|xSub rfl<|xC0 h (aZ ·) rfl (fun b1 h=> ?_)
 refine goc 14 rfl<|cIf h rfl (fun q4 h=> ?_) (fun q4 h=> ?_)
 refine cRs<|oJn h [(6,6),(31,36)] [] (fun p=>(.n,[(6,Bo p)],[])) (fun _ h=> ?_) (fun p h=> ?_)
 refine goo 2 rfl<|oIf 32 h rfl (fun q6 h=> ?_) (fun q6 h=> ?_)
 refine goo 2 rfl<|xC0 h (aZ ·) rfl (fun b2 h=> ?_)
 exact geo
 exact geo
 exact gec
 refine gcc 5 rfl<|cIf h rfl (fun q8 h=> ?_) (fun q8 h=> ?_)
 refine cRs<|oJn h [(6,6),(39,51)] [] (fun s=>(.n,[(6,Bo s)],[])) (fun _ h=> ?_) (fun s h=> ?_)
 refine goo 4 rfl<|oIf 42 h rfl (fun H h=> ?_) (fun H h=> ?_)
 refine goo 2 rfl<|xC0 h (lB ·) rfl (fun A h=> ?_)
 refine goo 2 rfl<|oIf 47 h rfl (fun I h=> ?_) (fun I h=> ?_)
 exact geo
 exact geo
 exact geo
 exact gec
 refine gcc 5 rfl<|cIf h rfl (fun J h=> ?_) (fun J h=> ?_)
 refine cRs<|oJn h [(6,6),(54,64)] [] (fun a=>(.n,[(6,Bo a)],[])) (fun _ h=> ?_) (fun a h=> ?_)
 refine goo 2 rfl<|oIf 55 h rfl (fun K h=> ?_) (fun K h=> ?_)
 refine goo 7 rfl<|xC0 h (aZ ·) rfl (fun B h=> ?_)
 exact geo
 exact geo
 exact gec
 refine gcc 6 rfl<|cIf h rfl (fun L h=> ?_) (fun L h=> ?_)
 refine gco 4 rfl<|oJn h [(6,6),(68,73)] [] (fun b=>(.n,[(6,Bo b)],[])) (fun _ h=> ?_) (fun b h=> ?_)
 refine goo 2 rfl<|oIf 69 h rfl (fun M h=> ?_) (fun M h=> ?_)
 refine goo 2 rfl<|xC0 h (aZ ·) rfl (fun C h=> ?_)
 exact geo
 exact geo
 exact gec
 refine gcc 4 rfl<|cIf h rfl (fun N h=> ?_) (fun N h=> ?_)
 refine cRs<|oJn h [(6,6),(68,73)] [] (fun c=>(.n,[(6,Bo c)],[])) (fun _ h=> ?_) (fun c h=> ?_)
 refine goo 2 rfl<|oIf 69 h rfl (fun Q h=> ?_) (fun Q h=> ?_)
 refine goo 2 rfl<|xC0 h (aZ ·) rfl (fun D h=> ?_)
 exact geo
 exact geo
 exact gec
 refine gcc 5 rfl<|cIf h rfl (fun R h=> ?_) (fun R h=> ?_)
 refine cRs<|oJn h [(6,6),(76,81)] [] (fun d=>(.n,[(6,Bo d)],[])) (fun _ h=> ?_) (fun d h=> ?_)
 refine goo 2 rfl<|oIf 77 h rfl (fun T h=> ?_) (fun T h=> ?_)
 refine goo 2 rfl<|xC0 h (aZ ·) rfl (fun E h=> ?_)
 exact geo
 exact geo
 exact gec
 refine gcc 5 rfl<|cIf h rfl (fun U h=> ?_) (fun U h=> ?_)
 refine cRs<|oJn h [(6,6),(84,96)] [] (fun f=>(.n,[(6,Bo f)],[])) (fun _ h=> ?_) (fun f h=> ?_)
 refine goo 4 rfl<|oIf 87 h rfl (fun V h=> ?_) (fun V h=> ?_)
 refine goo 2 rfl<|xC0 h (xV ·) rfl (fun G h=> ?_)
 refine goo 2 rfl<|oIf 92 h rfl (fun W h=> ?_) (fun W h=> ?_)
 exact geo
 exact geo
 exact geo
 exact gec
 refine gcc 5 rfl<|cIf h rfl (fun X h=> ?_) (fun X h=> ?_)
 refine gco 5 rfl<|xC1 h (xW ·) rfl (fun u h=> ?_)
 refine goo 4 rfl<|oJn h [(6,6),(103,122)] [] (fun g=>(.n,[(6,Bo g)],[])) (fun _ h=> ?_) (fun g h=> ?_)
 refine goo 3 rfl<|oIf 105 h rfl (fun Y h=> ?_) (fun Y h=> ?_)
 refine goo 5 rfl<|xIx h dX rfl (fun y h=> ?_)
 refine goo 7 rfl<|oIf 118 h rfl (fun Z h=> ?_) (fun Z h=> ?_)
 exact geo
 exact geo
 exact geo
 exact gec
 refine gcc 5 rfl<|cIf h rfl (fun a0 h=> ?_) (fun a0 h=> ?_)
 refine cRs<|oJn h [(6,6),(125,156)] [] (fun j=>(.n,[(6,Bo j)],[])) (fun _ h=> ?_) (fun j h=> ?_)
 refine goo 4 rfl<|oIf 128 h rfl (fun a1 h=> ?_) (fun a1 h=> ?_)
 refine goo 3 rfl<|oIf 131 h rfl (fun a2 h=> ?_) (fun a2 h=> ?_)
 refine goo 6 rfl<|xLn rfl<|xSub rfl<|xC0 h (aZ ·) rfl (fun v h=> ?_)
 refine goo 2 rfl<|oIf 142 h rfl (fun a3 h=> ?_) (fun a3 h=> ?_)
 refine goo 6 rfl<|xIx h aP rfl (fun z h=> ?_)
 refine goo 5 rfl<|xC0 h (sO ·) rfl (fun w h=> ?_)
 exact geo
 exact geo
 exact geo
 exact geo
 exact gec
 refine gcc 5 rfl<|cIf h rfl (fun a4 h=> ?_) (fun a4 h=> ?_)
 refine cRs<|oJn h [(6,6),(159,169)] [] (fun l=>(.n,[(6,Bo l)],[])) (fun _ h=> ?_) (fun l h=> ?_)
 refine goo 4 rfl<|oIf 162 h rfl (fun a5 h=> ?_) (fun a5 h=> ?_)
 refine goo 5 rfl<|oIf 167 h rfl (fun a6 h=> ?_) (fun a6 h=> ?_)
 exact geo
 exact geo
 exact geo
 exact gec
 refine gcc 6 rfl<|cIf h rfl (fun a7 h=> ?_) (fun a7 h=> ?_)
 refine gco 4 rfl<|oJn h [(6,6),(173,178)] [] (fun m=>(.n,[(6,Bo m)],[])) (fun _ h=> ?_) (fun m h=> ?_)
 refine goo 2 rfl<|oIf 174 h rfl (fun a8 h=> ?_) (fun a8 h=> ?_)
 exact geo
 exact geo
 exact gec
 refine gcc 4 rfl<|cIf h rfl (fun a9 h=> ?_) (fun a9 h=> ?_)
 refine cRs<|oJn h [(6,6),(173,178)] [] (fun o=>(.n,[(6,Bo o)],[])) (fun _ h=> ?_) (fun o h=> ?_)
 refine goo 2 rfl<|oIf 174 h rfl (fun b0 h=> ?_) (fun b0 h=> ?_)
 exact geo
 exact geo
 exact gec
 exact gec
abbrev vH(p:Int→Int→(List Int)→Bool→Option ((List Int)×Bool)):Prop:= ∀ {d f:Int} {a:List Int} {b:Bool} {r:(List Int)×Bool},p d f a b=some r→Big Try.prog τ An (.fn 269 [.one (.ptr 1000000 0), .one (.c (.int .i64 d)), .one (.c (.int .i64 f))] [[.sl (a.map aW), .bool b]] (.tup []) none [[.sl (r.1.map aW), .bool r.2]] none)
def bD(n:Nat)(b:Int)(d:Int)(a:List Int)(f:Bool):Option ((List Int)×Bool):=
  (bif decide ((a.length:Int)≤b)then some true else some (decide ((300:Int)<d))).bind fun l=>bif l then some (a,true)else(ix a b).bind fun g=>bif decide (g<(0:Int))then(ix a b).bind fun m=>(some (a.set (Int.toNat b) d)).bind fun c=>some (c,f)else(ix a b).bind fun j=>bif !decide (j=d)then some (a,true)else some (a,f)
theorem dS{n:Nat}:vH (bD n):=by
 intro u c l m r h
 unfold bD at h
 refine bF Try.func269 rfl rfl<|gco 3 rfl<|oJn h [(6,17)] [] (fun a=>(.n,[(6,Bo a)],[])) (fun _ h=> ?_) (fun a h=> ?_)
 refine goo 5 rfl<|xLn rfl<|goo 2 rfl<|oIf 14 h rfl (fun o h=> ?_) (fun o h=> ?_)
 exact geo
 exact geo
 refine cIf h rfl (fun p h=> ?_) (fun p h=> ?_)
 exact gec
 refine gco 7 rfl<|xIx h nB rfl (fun d h=> ?_)
 refine goc 4 rfl<|cIf h rfl (fun s h=> ?_) (fun s h=> ?_)
 refine gco 4 rfl<|wLa rfl rfl rfl rfl rfl rfl rfl<|goo 2 rfl<|wIp (f:=aW) h rfl rfl rfl rfl rfl rfl (fun _=>rfl) rfl (fun g ke36_6 h=> ?_)
 refine LJ (f:=aW) (v':=c) h ke36_6 rfl rfl rfl rfl rfl rfl rfl rfl rfl (fun b h=> ?_)
 exact geo
 refine gco 7 rfl<|xIx h nB rfl (fun j h=> ?_)
 refine goc 5 rfl<|cIf h rfl (fun t h=> ?_) (fun t h=> ?_)
 exact gec
 exact gec
abbrev Dz(p:Int→Int→(List UInt8)→Int→Option (Int)):Prop:= ∀ {a b:Int} {d:List UInt8} {f:Int} {r:Int},p a b d f=some r→Big Try.prog τ An (.fn 279 [.one (.ag [.int .i64 a, .int .i64 b, .str d, .int .i64 f])] [] (.one (.c (.int .i64 r))) none [] none)
def iO(n:Nat)(a:Int)(b:Int)(c:List UInt8)(d:Int):Option (Int):=
  bif decide (a=(4:Int))then some b else bif decide (a=(5:Int))then some b else bif decide (a=(6:Int))then some b else bif decide (a=(8:Int))then some b else bif decide (a=(7:Int))then some (2:Int)else bif decide (a=(9:Int))then some (1:Int)else bif decide (a=(12:Int))then some (1:Int)else some (0:Int)
theorem sK{n:Nat}:Dz (iO n):=by
 intro l m o p r h
 unfold iO at h
 refine bF Try.func279 rfl rfl<|gcc 18 rfl<|cIf h rfl (fun a h=> ?_) (fun a h=> ?_)
 exact gec
 refine gcc 5 rfl<|cIf h rfl (fun b h=> ?_) (fun b h=> ?_)
 exact gec
 refine gcc 5 rfl<|cIf h rfl (fun c h=> ?_) (fun c h=> ?_)
 exact gec
 refine gcc 4 rfl<|cIf h rfl (fun d h=> ?_) (fun d h=> ?_)
 exact gec
 refine gcc 5 rfl<|cIf h rfl (fun f h=> ?_) (fun f h=> ?_)
 exact gec
 refine gcc 6 rfl<|cIf h rfl (fun g h=> ?_) (fun g h=> ?_)
 exact gec
 refine gcc 4 rfl<|cIf h rfl (fun j h=> ?_) (fun j h=> ?_)
 exact gec
 exact gec
abbrev uP(p:Int→Int→Int→(List UInt8)→Int→(List Int)→Bool→Option ((List Int)×Bool)):Prop:= ∀ {d f g:Int} {j:List UInt8} {l:Int} {a:List Int} {b:Bool} {r:(List Int)×Bool},p d f g j l a b=some r→Big Try.prog τ An (.fn 270 [.one (.ptr 1000000 0), .one (.c (.int .i64 d)), .one (.ag [.int .i64 f, .int .i64 g, .str j, .int .i64 l])] [[.sl (a.map aW), .bool b]] (.tup []) none [[.sl (r.1.map aW), .bool r.2]] none)
def eD(n:Nat)(g:Int)(b:Int)(u:Int)(v:List UInt8)(d:Int)(a:List Int)(f:Bool):Option ((List Int)×Bool):=
  (ix a g).bind fun c=>((iO n b u v d).bind fun w=>bif decide (c<w)then some true else bif decide (b=(9:Int))then some (decide (d≤g))else bif decide (b=(10:Int))then some (decide (d≤g))else some false).bind fun y=>bif y then some (a,true)else bif decide (b=(9:Int))then(bD n (IntKind.wrap .i64 (g+(1:Int))) (IntKind.wrap .i64 (c - (1:Int))) a f).bind fun s=>(bD n d c s.1 s.2).bind fun o=>some (o.1,o.2)else bif decide (b=(10:Int))then(bD n d c a f).bind fun p=>some (p.1,p.2)else bif decide (b=(11:Int))then some (a,f)else bif decide (b=(12:Int))then(bif f then some (a,true)else some (a,(!decide (c=(1:Int))))).bind fun(j,l)=>some (j,l)else(iO n b u v d).bind fun t=>(bD n (IntKind.wrap .i64 (g+(1:Int))) (IntKind.wrap .i64 ((IntKind.wrap .i64 (c - t))+(1:Int))) a f).bind fun m=>some (m.1,m.2)
theorem rX{n:Nat}:uP (eD n):=by
 intro D E G H I v w r h
 unfold eD at h
 refine bF Try.func270 rfl rfl<|gco 11 rfl<|xIx h nB rfl (fun u h=> ?_)
 refine goo 6 rfl<|oJn h [(14,33)] [] (fun c=>(.n,[(33,Bo c)],[])) (fun _ h=> ?_) (fun c h=> ?_)
 refine goo 2 rfl<|xC0 h (sK ·) rfl (fun s h=> ?_)
 refine goo 2 rfl<|oIf 18 h rfl (fun y h=> ?_) (fun y h=> ?_)
 exact geo
 refine goo 4 rfl<|oIf 22 h rfl (fun z h=> ?_) (fun z h=> ?_)
 exact geo
 refine goo 5 rfl<|oIf 27 h rfl (fun A h=> ?_) (fun A h=> ?_)
 exact geo
 exact geo
 refine cIf h rfl (fun B h=> ?_) (fun B h=> ?_)
 exact gec
 refine gcc 12 rfl<|cIf h rfl (fun C h=> ?_) (fun C h=> ?_)
 refine gco 7 rfl<|xC1 h (dS ·) rfl (fun t h=> ?_)
 refine goo 6 rfl<|xC1 h (dS ·) rfl (fun g h=> ?_)
 exact geo
 refine gcc 5 rfl<|cIf h rfl (fun l h=> ?_) (fun l h=> ?_)
 refine gco 5 rfl<|xC1 h (dS ·) rfl (fun j h=> ?_)
 exact geo
 refine gcc 5 rfl<|cIf h rfl (fun m h=> ?_) (fun m h=> ?_)
 exact gec
 refine gcc 5 rfl<|cIf h rfl (fun o h=> ?_) (fun o h=> ?_)
 refine cRg<|oJn h [(72,82)] [(1000000,1000000)] (fun(a,b)=>(.n,[],[(1000000,[.sl (a.map aW), .bool b])])) (fun _ h=> ?_) (fun q h=> ?_)
 refine goo 6 rfl<|oIf 77 h rfl (fun p h=> ?_) (fun p h=> ?_)
 exact geo
 exact geo
 obtain⟨a,b⟩:=q
 exact en
 refine gco 6 rfl<|xC0 h (sK ·) rfl (fun d h=> ?_)
 refine goo 2 rfl<|xC1 h (dS ·) rfl (fun f h=> ?_)
 exact geo
abbrev BF(p:(List UInt8)→Int→Int→(List aF)→Option ((List Int)×Bool)):Prop:= ∀ {a:List UInt8} {b d:Int} {f:List aF} {r:(List Int)×Bool},p a b d f=some r→Big Try.prog τ An (.fn 245 [.one (.cp [.str a, .int .i64 b, .int .i64 d, .sl (f.map aL)])] [] (.tup [.c (.sl (r.1.map aW)), .c (.bool r.2)]) none [] none)
def dW(n:Nat)(f:List aF):(Int×(List Int)×Bool)→Option ((Int×(List Int)×Bool)⊕((Int×Bool×(List Int)×Bool)))
  | (a,b,c)=>bif decide (a<((List.replicate (Int.toNat (f.length:Int)) (0:Int)).length:Int))then(ix b a).bind fun g=>(some (b.set (Int.toNat a) ((-1):Int))).bind fun d=>some (.inl ((IntKind.wrap .i64 (a+(1:Int))),d,c))else some (.inr (a,false,b,c))
def dV(n:Nat)(j:List aF):(Int×(List Int)×Bool)→Option ((Int×(List Int)×Bool)⊕(((List Int)×Bool)⊕(Int×Bool×(List Int)×Bool)))
  | (a,c,d)=>bif decide (a<(j.length:Int))then(ix j a).bind fun b=>(bif d then some true else(ix c a).bind fun g=>some (decide (g<(0:Int)))).bind fun l=>bif l then some (.inr (.inl (([]:List Int),false)))else(eD n a b.f0 b.f1 b.f2 b.f3 c d).bind fun f=>some (.inl ((IntKind.wrap .i64 (a+(1:Int))),f.1,f.2))else some (.inr (.inr (a,false,c,d)))
def iM(n:Nat)(t:List UInt8)(u:Int)(v:Int)(a:List aF):Option ((List Int)×Bool):=
  (ck (decide (0≤(a.length:Int)∧(a.length:Int)≤maxLen∧8*(a.length:Int)≤281474976710656))).bind fun _=>(loopN (dW n a) n ((0:Int),(List.replicate (Int.toNat (a.length:Int)) (0:Int)),false)).bind fun(p,s,j,l)=>(bD n (0:Int) (0:Int) j l).bind fun b=>(loopN (dV n a) n ((0:Int),b.1,b.2)).bind fun q=>(match q with | .inl (c,d)=>some (c,d) | .inr (m,o,f,g)=>some (f,(!g)))
theorem yQ{n:Nat}:BF (iM n):=by
 intro Q R T C r h
 unfold iM at h
 refine bF Try.func245 rfl rfl<|cRs<|wAe (Li aW []) rfl rfl rfl rfl<|goo 8 rfl<|xLn rfl<|oCk h (fun B h=> ?_)
 refine wMk (z:=(0:Int)) (f:=aW) B rfl rfl rfl rfl rfl rfl rfl<|wBd [.sl ((List.replicate (Int.toNat (C.length:Int)) (0:Int)).map aW), .bool false] rfl rfl rfl rfl rfl rfl<|xAz [.sl ([].map aW), .bool false] rfl<|goo 7 rfl<|xLn rfl<|goc 2 rfl<|cLp h [(5,5),(18,25)] [(4,4)] (fun(g,v,w)=>([(18,I64 g)],[(4,[.sl (v.map aW), .bool w])])) (fun(j,l,y,A)=>(.e 0,[(18,I64 j),(19,Bo l)],[(4,[.sl (y.map aW), .bool A])])) rfl (fun st _ h=> ?_) (fun q h=> ?_)
 obtain⟨g,v,w⟩:=st
 unfold dW at h
 refine gcc 5 rfl<|cIf h rfl (fun N h=> ?_) (fun N h=> ?_)
 refine gco 10 rfl<|wLa rfl rfl rfl rfl rfl rfl rfl<|xMv rfl<|wIp (f:=aW) h rfl rfl rfl rfl rfl rfl (fun _=>rfl) rfl (fun G ke24_10 h=> ?_)
 refine LJ (f:=aW) (v':=((-1):Int)) h ke24_10 rfl rfl rfl rfl rfl rfl rfl rfl rfl (fun M h=> ?_)
 exact geo
 exact gec
 obtain⟨j,l,y,A⟩:=q
 refine cRs<|xC1 h (dS ·) rfl (fun D h=> ?_)
 refine goo 8 rfl<|xLn rfl<|goc 2 rfl<|cLp h [(2,3),(6,7),(32,50)] [(4,4),(7,7)] (fun(a,p,s)=>([(32,I64 a)],[(4,[.sl (p.map aW), .bool s])])) (fun q=>match q with | .inl (m,o)=>(.r,[(2,Li aW m),(3,Bo o)],[]) | .inr (b,c,t,u)=>(.e 2,[(32,I64 b),(33,Bo c)],[(4,[.sl (t.map aW), .bool u])])) rfl (fun st _ h=> ?_) (fun q h=> ?_)
 obtain⟨a,p,s⟩:=st
 unfold dV at h
 refine gcc 5 rfl<|cIf h rfl (fun J h=> ?_) (fun J h=> ?_)
 refine gco 6 rfl<|xIx h gD rfl (fun H h=> ?_)
 refine xLd rfl<|xAc rfl<|goo 6 rfl<|oJn h [(37,46)] [] (fun d=>(.n,[(46,Bo d)],[])) (fun _ h=> ?_) (fun d h=> ?_)
 refine goo 3 rfl<|oIf 39 h rfl (fun K h=> ?_) (fun K h=> ?_)
 exact geo
 refine goo 3 rfl<|xIx h nB rfl (fun I h=> ?_)
 exact geo
 refine cIf h rfl (fun L h=> ?_) (fun L h=> ?_)
 exact cRs<|wAe (Li aW []) rfl rfl rfl rfl<|geo
 refine gco 4 rfl<|xC1 h (rX ·) rfl (fun E h=> ?_)
 exact geo
 exact gec
 rcases q with⟨m,o⟩ | ⟨b,c,t,u⟩
 exact en
 exact gec
abbrev JM(p:(List UInt8)→Int→Int→(List aF)→(List aG)→(List aB)→Option (Bool×(List aG)×(List aB))):Prop:= ∀ {d:List UInt8} {f g:Int} {j:List aF} {a:List aG} {b:List aB} {r:Bool×(List aG)×(List aB)},p d f g j a b=some r→Big Try.prog τ An (.fn 207 [.one (.ptr 1000000 0), .one (.cp [.str d, .int .i64 f, .int .i64 g, .sl (j.map aL)])] [[.sl (a.map aK), .sl (b.map aH)]] (.one (.c (.bool r.1))) none [[.sl (r.2.1.map aK), .sl (r.2.2.map aH)]] none)
def iR(n:Nat)(j:List UInt8)(l:Int)(m:Int)(g:List aF):(Int×(List aG)×(List aB))→Option ((Int×(List aG)×(List aB))⊕((Bool×(List aG)×(List aB))⊕(Int×Bool×(List aG)×(List aB))))
  | (f,b,c)=>bif decide (f<(g.length:Int))then(ix g f).bind fun d=>(lI n j l m g d.f0 d.f1 d.f2 d.f3 b c).bind fun a=>bif !a.1 then some (.inr (.inl (false,a.2.1,a.2.2)))else some (.inl ((IntKind.wrap .i64 (f+(1:Int))),a.2.1,a.2.2))else some (.inr (.inr (f,false,b,c)))
def oZ(n:Nat)(g:List UInt8)(f:Int)(j:Int)(l:List aF)(o:List aG)(p:List aB):Option (Bool×(List aG)×(List aB)):=
  ((dZ n g).bind fun s=>bif !s then some true else(aR n f (0:Int) (4:Int)).bind fun t=>bif !t then some true else(aR n j f (400:Int)).bind fun u=>bif !u then some true else(aR n (l.length:Int) (1:Int) (1500:Int)).bind fun v=>some (!v)).bind fun w=>bif w then some (false,o,p)else(loopN (iR n g f j l) n ((0:Int),o,p)).bind fun q=>(match q with | .inl (y,a,b)=>some (y,a,b) | .inr (z,A,c,d)=>(iM n g f j l).bind fun m=>some (m.2,c,d))
theorem Fj{n:Nat}:JM (oZ n):=by
 intro J K L M C D r h
 unfold oZ at h
 refine bF Try.func207 rfl rfl<|gco 7 rfl<|oJn h [(9,43)] [] (fun o=>(.n,[(43,Bo o)],[])) (fun _ h=> ?_) (fun o h=> ?_)
 refine goo 4 rfl<|xC0 h (lB ·) rfl (fun y h=> ?_)
 refine goo 2 rfl<|oIf 15 h rfl (fun E h=> ?_) (fun E h=> ?_)
 exact geo
 refine goo 4 rfl<|xC0 h (aZ ·) rfl (fun z h=> ?_)
 refine goo 3 rfl<|oIf 23 h rfl (fun G h=> ?_) (fun G h=> ?_)
 exact geo
 refine goo 8 rfl<|xC0 h (aZ ·) rfl (fun A h=> ?_)
 refine goo 3 rfl<|oIf 35 h rfl (fun H h=> ?_) (fun H h=> ?_)
 exact geo
 refine goo 4 rfl<|xLn rfl<|xC0 h (aZ ·) rfl (fun B h=> ?_)
 exact geo
 refine cIf h rfl (fun I h=> ?_) (fun I h=> ?_)
 exact gec
 refine gco 8 rfl<|xLn rfl<|goc 2 rfl<|cLp h [(4,4),(6,6),(49,58)] [(6,6),(1000000,1000000)] (fun(j,a,b)=>([(49,I64 j)],[(1000000,[.sl (a.map aK), .sl (b.map aH)])])) (fun q=>match q with | .inl (p,c,d)=>(.r,[(4,Bo p)],[(1000000,[.sl (c.map aK), .sl (d.map aH)])]) | .inr (l,m,f,g)=>(.e 0,[(49,I64 l),(50,Bo m)],[(1000000,[.sl (f.map aK), .sl (g.map aH)])])) rfl (fun st _ h=> ?_) (fun q h=> ?_)
 obtain⟨j,a,b⟩:=st
 unfold iR at h
 refine gcc 5 rfl<|cIf h rfl (fun v h=> ?_) (fun v h=> ?_)
 refine gco 5 rfl<|xIx h gD rfl (fun u h=> ?_)
 refine xLd rfl<|xAc rfl<|goo 7 rfl<|xC1 h (Dp ·) rfl (fun s h=> ?_)
 refine goc 2 rfl<|cIf h rfl (fun w h=> ?_) (fun w h=> ?_)
 exact gec
 exact gec
 exact gec
 rcases q with⟨p,c,d⟩ | ⟨l,m,f,g⟩
 exact en
 refine gco 3 rfl<|xC0 h (yQ ·) rfl (fun t h=> ?_)
 exact geo
abbrev Fy(p:(List aG)→(List aB)→Option (Bool)):Prop:= ∀ {a:List aG} {b:List aB} {r:Bool},p a b=some r→Big Try.prog τ An (.fn 144 [.one (.ag [.sl (a.map aK), .sl (b.map aH)])] [] (.one (.c (.bool r))) none [] none)
def fU(n:Nat)(p:List aG):(Int×(List aG)×(List aB))→Option ((Int×(List aG)×(List aB))⊕((Bool)⊕(Int×Bool×(List aG)×(List aB))))
  | (b,f,l)=>bif decide (b<(p.length:Int))then((ix f b).bind fun g=>(mX n g.f0 f l).bind fun a=>bif !decide (a.1=b)then some (true,a.2.1,a.2.2)else(ix a.2.1 b).bind fun c=>(oZ n c.f0 c.f1 c.f2 c.f3 a.2.1 a.2.2).bind fun d=>some ((!d.1),d.2.1,d.2.2)).bind fun(j,m,o)=>bif j then some (.inr (.inl false))else some (.inl ((IntKind.wrap .i64 (b+(1:Int))),m,o))else some (.inr (.inr (b,false,f,l)))
def mA(n:Nat)(a:List aG)(b:List aB):Option (Bool):=
  (bif decide ((12:Int)<(a.length:Int))then some true else some (decide ((2000:Int)<(b.length:Int)))).bind fun c=>bif c then some false else(loopN (fU n a) n ((0:Int),a,b)).bind fun q=>(match q with | .inl d=>some d | .inr (f,g,j,l)=>some true)
theorem Cy{n:Nat}:Fy (mA n):=by
 intro D E r h
 unfold mA at h
 refine bF Try.func144 rfl rfl<|gco 8 rfl<|oJn h [(4,13)] [] (fun b=>(.n,[(13,Bo b)],[])) (fun _ h=> ?_) (fun b h=> ?_)
 refine goo 2 rfl<|xLn rfl<|goo 2 rfl<|oIf 8 h rfl (fun B h=> ?_) (fun B h=> ?_)
 exact geo
 exact goo 2 rfl<|xLn rfl<|geo
 refine cIf h rfl (fun C h=> ?_) (fun C h=> ?_)
 exact gec
 refine gco 6 rfl<|xLn rfl<|goc 2 rfl<|cLp h [(2,3),(17,37)] [(1,1)] (fun(c,p,s)=>([(17,I64 c)],[(1,[.sl (p.map aK), .sl (s.map aH)])])) (fun q=>match q with | .inl o=>(.r,[(2,Bo o)],[]) | .inr (d,f,g,j)=>(.e 0,[(17,I64 d),(18,Bo f)],[(1,[.sl (g.map aK), .sl (j.map aH)])])) rfl (fun st _ h=> ?_) (fun q h=> ?_)
 obtain⟨c,p,s⟩:=st
 unfold fU at h
 refine gcc 5 rfl<|cIf h rfl (fun y h=> ?_) (fun y h=> ?_)
 refine gco 10 rfl<|oJn h [(20,36)] [(1,1)] (fun(a,l,m)=>(.n,[(36,Bo a)],[(1,[.sl (l.map aK), .sl (m.map aH)])])) (fun _ h=> ?_) (fun q h=> ?_)
 refine goo 3 rfl<|xIx h dX rfl (fun v h=> ?_)
 refine goo 2 rfl<|xC1 h (xW ·) rfl (fun t h=> ?_)
 refine goo 3 rfl<|oIf 29 h rfl (fun z h=> ?_) (fun z h=> ?_)
 exact geo
 refine goo 3 rfl<|xIx h dX rfl (fun w h=> ?_)
 refine xC1 h (Fj ·) rfl (fun u h=> ?_)
 exact geo
 obtain⟨a,l,m⟩:=q
 refine cIf h rfl (fun A h=> ?_) (fun A h=> ?_)
 exact gec
 exact gec
 exact gec
 rcases q with o | ⟨d,f,g,j⟩
 exact en
 exact gec
abbrev EC(p:(List aG)→(List aB)→Option (Bool)):Prop:= ∀ {a:List aG} {b:List aB} {r:Bool},p a b=some r→Big Try.prog τ An (.fn 145 [.one (.ag [.sl (a.map aK), .sl (b.map aH)])] [] (.one (.c (.bool r))) none [] none)
def jW(n:Nat)(c:List aB):(Int)→Option ((Int)⊕((Bool)⊕(Int×Bool)))
  | b=>bif decide (b<(c.length:Int))then(ix c b).bind fun a=>(gG n a.f0 a.f1 a.f2 a.f3 (400:Int)).bind fun d=>bif !d then some (.inr (.inl false))else some (.inl (IntKind.wrap .i64 (b+(1:Int))))else some (.inr (.inr (b,false)))
def kM(n:Nat)(c:List aG)(a:List aB):Option (Bool):=
  (loopN (jW n a) n (0:Int)).bind fun q=>(match q with | .inl b=>some b | .inr (d,f)=>some true)
theorem BB{n:Nat}:EC (kM n):=by
 intro m o r h
 unfold kM at h
 refine bF Try.func145 rfl rfl<|gco 10 rfl<|xLn rfl<|goc 2 rfl<|cLp h [(2,2),(4,4),(8,15)] [(4,4)] (fun b=>([(8,I64 b)],[])) (fun q=>match q with | .inl a=>(.r,[(2,Bo a)],[]) | .inr (c,d)=>(.e 0,[(8,I64 c),(9,Bo d)],[])) rfl (fun b _ h=> ?_) (fun q h=> ?_)
 unfold jW at h
 refine gcc 5 rfl<|cIf h rfl (fun j h=> ?_) (fun j h=> ?_)
 refine gco 5 rfl<|xIx h aP rfl (fun g h=> ?_)
 refine xLd rfl<|xAz [.int .i64 0, .int .i64 0, .str [], .sl ([].map aH)] rfl<|goo 5 rfl<|xC0 h (sO ·) rfl (fun f h=> ?_)
 refine goc 2 rfl<|cIf h rfl (fun l h=> ?_) (fun l h=> ?_)
 exact gec
 exact gec
 exact gec
 rcases q with a | ⟨c,d⟩
 exact en
 exact gec
abbrev Fw(p:(List Int)→Int→Option ((List Int))):Prop:= ∀ {a:List Int} {b:Int} {r:(List Int)},p a b=some r→Big Try.prog τ An (.fn 146 [.one (.c (.sl (a.map rI_u8))), .one (.c (.int .i64 b))] [] (.one (.c (.sl (r.map rI_u8)))) none [] none)
def cL(n:Nat):((List Int)×Int)→Option (((List Int)×Int)⊕(((List Int)×Int×Bool)))
  | (b,a)=>bif decide ((127:Int)<a)then(fQ 1 b ([(IntKind.wrap .u8 (bits .or .i64 (128:Int) (bits .and .i64 a (127:Int))))]:List Int)).bind fun c=>some (.inl (c,(Int.fdiv a (2 ^ 7))))else some (.inr (b,a,false))
def nY(n:Nat):((List Int)×Int)→Option (((List Int)×Int)⊕(((List Int)×Int×Bool)))
  | (b,a)=>bif decide ((127:Int)<a)then(fQ 1 b ([(IntKind.wrap .u8 (bits .or .i64 (128:Int) (bits .and .i64 a (127:Int))))]:List Int)).bind fun c=>some (.inl (c,(Int.fdiv a (2 ^ 7))))else some (.inr (b,a,false))
def bL(n:Nat)(b:List Int)(a:Int):Option ((List Int)):=
  bif decide ((if(if(1000000000000:Int)<a then(1000000000000:Int)else a) > ((-1000000000000):Int)then(if(1000000000000:Int)<a then(1000000000000:Int)else a)else((-1000000000000):Int))<(0:Int))then(loopN (cL n) n (b,(IntKind.wrap .i64 ((IntKind.wrap .i64 (((-2):Int)*(if(if(1000000000000:Int)<a then(1000000000000:Int)else a) > ((-1000000000000):Int)then(if(1000000000000:Int)<a then(1000000000000:Int)else a)else((-1000000000000):Int)))) - (1:Int))))).bind fun(j,l,o)=>(fQ 1 j ([(IntKind.wrap .u8 l)]:List Int)).bind fun f=>some f else(loopN (nY n) n (b,(IntKind.wrap .i64 ((2:Int)*(if(if(1000000000000:Int)<a then(1000000000000:Int)else a) > ((-1000000000000):Int)then(if(1000000000000:Int)<a then(1000000000000:Int)else a)else((-1000000000000):Int)))))).bind fun(d,g,m)=>(fQ 1 d ([(IntKind.wrap .u8 g)]:List Int)).bind fun c=>some c
theorem bW{n:Nat}:Fw (bL n):=by
 intro A B r h
 unfold bL at h
 refine bF Try.func146 rfl rfl<|cRs<|wAe (Li rI_u8 []) rfl rfl rfl rfl<|goo 4 rfl<|wMn rfl rfl rfl rfl<|wMx rfl rfl rfl rfl<|goc 14 rfl<|cIf h rfl (fun y h=> ?_) (fun y h=> ?_)
 refine gcc 7 rfl<|cLp h [(0,0),(5,5),(16,26)] [] (fun(o,b)=>([(0,Li rI_u8 o),(5,I64 b)],[])) (fun(p,g,m)=>(.e 0,[(0,Li rI_u8 p),(5,I64 g),(17,Bo m)],[])) rfl (fun st _ h=> ?_) (fun q h=> ?_)
 obtain⟨o,b⟩:=st
 unfold cL at h
 refine gcc 6 rfl<|cIf h rfl (fun z h=> ?_) (fun z h=> ?_)
 refine gco 6 rfl<|wBi (.int .i64 (bits .and .i64 b (127:Int))) rfl rfl rfl rfl rfl<|wBi (.int .i64 (bits .or .i64 (128:Int) (bits .and .i64 b (127:Int)))) rfl rfl rfl rfl rfl<|wCv rfl rfl rfl rfl rfl<|dM (L:=([(IntKind.wrap .u8 (bits .or .i64 (128:Int) (bits .and .i64 b (127:Int))))]:List Int)) (f:=rI_u8) rfl rfl rfl rfl rfl rfl rfl<|wAp (f:=rI_u8) h rfl rfl rfl rfl rfl rfl rfl rfl rfl (fun _=>rfl) rfl (fun v h=> ?_)
 exact goo 4 rfl<|wBi (.int .i64 (Int.fdiv b (2 ^ 7))) rfl rfl rfl rfl rfl<|geo
 exact gec
 obtain⟨p,g,m⟩:=q
 refine gco 5 rfl<|dM (L:=([(IntKind.wrap .u8 g)]:List Int)) (f:=rI_u8) rfl rfl rfl rfl rfl rfl rfl<|wAp (f:=rI_u8) h rfl rfl rfl rfl rfl rfl rfl rfl rfl (fun _=>rfl) rfl (fun w h=> ?_)
 exact geo
 refine gcc 2 rfl<|cLp h [(0,0),(5,5),(16,26)] [] (fun(j,a)=>([(0,Li rI_u8 j),(5,I64 a)],[])) (fun(l,c,d)=>(.e 0,[(0,Li rI_u8 l),(5,I64 c),(17,Bo d)],[])) rfl (fun st _ h=> ?_) (fun q h=> ?_)
 obtain⟨j,a⟩:=st
 unfold nY at h
 refine gcc 6 rfl<|cIf h rfl (fun s h=> ?_) (fun s h=> ?_)
 refine gco 6 rfl<|wBi (.int .i64 (bits .and .i64 a (127:Int))) rfl rfl rfl rfl rfl<|wBi (.int .i64 (bits .or .i64 (128:Int) (bits .and .i64 a (127:Int)))) rfl rfl rfl rfl rfl<|wCv rfl rfl rfl rfl rfl<|dM (L:=([(IntKind.wrap .u8 (bits .or .i64 (128:Int) (bits .and .i64 a (127:Int))))]:List Int)) (f:=rI_u8) rfl rfl rfl rfl rfl rfl rfl<|wAp (f:=rI_u8) h rfl rfl rfl rfl rfl rfl rfl rfl rfl (fun _=>rfl) rfl (fun t h=> ?_)
 exact goo 4 rfl<|wBi (.int .i64 (Int.fdiv a (2 ^ 7))) rfl rfl rfl rfl rfl<|geo
 exact gec
 obtain⟨l,c,d⟩:=q
 refine gco 5 rfl<|dM (L:=([(IntKind.wrap .u8 c)]:List Int)) (f:=rI_u8) rfl rfl rfl rfl rfl rfl rfl<|wAp (f:=rI_u8) h rfl rfl rfl rfl rfl rfl rfl rfl rfl (fun _=>rfl) rfl (fun u h=> ?_)
 exact geo
abbrev EB(p:(List Int)→(List UInt8)→Option ((List Int))):Prop:= ∀ {a:List Int} {b:List UInt8} {r:(List Int)},p a b=some r→Big Try.prog τ An (.fn 147 [.one (.c (.sl (a.map rI_u8))), .one (.c (.str b))] [] (.one (.c (.sl (r.map rI_u8)))) none [] none)
def gE(n:Nat)(f:List Int)(a:List UInt8):Option ((List Int)):=
  (bL n f (a.length:Int)).bind fun d=>(fQ 1 d (a.map fun c=>((c.toNat:Nat):Int))).bind fun b=>some b
theorem nZ{n:Nat}:EB (gE n):=by
 intro c d r h
 unfold gE at h
 refine bF Try.func147 rfl rfl<|cRs<|wAe (Li rI_u8 []) rfl rfl rfl rfl<|goo 5 rfl<|xLs rfl<|xC0 h (bW ·) rfl (fun b h=> ?_)
 refine xMv rfl<|wAps (f:=rI_u8) h rfl rfl rfl rfl rfl (fun _=>rfl) rfl (fun _=>rfl) rfl (fun a h=> ?_)
 exact geo
abbrev jQ:Type:=(List Int)→Int→Int→(List UInt8)→(List aB)→Option ((List Int))
abbrev oM(p:jQ):Prop:= ∀ {a:List Int} {b d:Int} {f:List UInt8} {g:List aB} {r:(List Int)},p a b d f g=some r→Big Try.prog τ An (.fn 148 [.one (.c (.sl (a.map rI_u8))), .one (.ag [.int .i64 b, .int .i64 d, .str f, .sl (g.map aH)])] [] (.one (.c (.sl (r.map rI_u8)))) none [] none)
def kZ(n:Nat)(b:jQ)(f:List aB):((List Int)×Int)→Option (((List Int)×Int)⊕(((List Int)×Int×Bool)))
  | (g,c)=>bif decide (c<(f.length:Int))then(ix f c).bind fun a=>(b g a.f0 a.f1 a.f2 a.f3).bind fun d=>some (.inl (d,(IntKind.wrap .i64 (c+(1:Int)))))else some (.inr (g,c,false))
def lU(n:Nat)(a:jQ)(j:List Int)(l:Int)(m:Int)(o:List UInt8)(b:List aB):Option ((List Int)):=
  (bL n j l).bind fun c=>(bL n c m).bind fun d=>(gE n d o).bind fun f=>(bL n f (b.length:Int)).bind fun g=>(loopN (kZ n a b) n (g,(0:Int))).bind fun(p,s,t)=>some p
theorem Ap{n:Nat}{a:jQ}(b:oM a):oM (lU n a):=by
 intro v w y z A r h
 unfold lU at h
 refine bF Try.func148 rfl rfl<|gco 3 rfl<|wAe (Li rI_u8 []) rfl rfl rfl rfl<|goo 6 rfl<|xC0 h (bW ·) rfl (fun p h=> ?_)
 refine goo 2 rfl<|xC0 h (bW ·) rfl (fun s h=> ?_)
 refine goo 2 rfl<|xC0 h (nZ ·) rfl (fun t h=> ?_)
 refine goo 2 rfl<|xLn rfl<|xC0 h (bW ·) rfl (fun u h=> ?_)
 refine goo 7 rfl<|xLn rfl<|goc 2 rfl<|cLp h [(0,0),(6,6),(24,31)] [(6,6)] (fun(g,c)=>([(0,Li rI_u8 g),(24,I64 c)],[])) (fun(j,d,f)=>(.e 0,[(0,Li rI_u8 j),(24,I64 d),(25,Bo f)],[])) rfl (fun st _ h=> ?_) (fun q h=> ?_)
 obtain⟨g,c⟩:=st
 unfold kZ at h
 refine gcc 5 rfl<|cIf h rfl (fun o h=> ?_) (fun o h=> ?_)
 refine gco 5 rfl<|xIx h aP rfl (fun m h=> ?_)
 refine xLd rfl<|xAz [.int .i64 0, .int .i64 0, .str [], .sl ([].map aH)] rfl<|goo 5 rfl<|xC0 h (b ·) rfl (fun l h=> ?_)
 exact geo
 exact gec
 obtain⟨j,d,f⟩:=q
 exact gec
def xU:Nat→(jQ)
  | 0=>(fun _ _ _ _ _=>none)
  | n+1=>lU n (xU n)
def jO(n:Nat):jQ:=xU n
theorem Au(n:Nat):oM (jO n):=by
  induction n with
  | zero=>exact(fun h=>nomatch h)
  | succ n ih=>exact Ap (n:=n) ih
theorem Cw{n:Nat}:oM (jO n):=(Au n)
theorem yL(n:Nat):jO (n+1)=lU n (jO n):=rfl
abbrev EG(p:(List aG)→(List aB)→Option ((List Int))):Prop:= ∀ {a:List aG} {b:List aB} {r:(List Int)},p a b=some r→Big Try.prog τ An (.fn 66 [.one (.ag [.sl (a.map aK), .sl (b.map aH)])] [] (.one (.c (.sl (r.map rI_u8)))) none [] none)
def gP(n:Nat)(c:aG):((List Int)×Int)→Option (((List Int)×Int)⊕(((List Int)×Int×Bool)))
  | (d,b)=>bif decide (b<(c.f3.length:Int))then(ix c.f3 b).bind fun a=>(bL n d a.f0).bind fun f=>(bL n f a.f1).bind fun g=>(gE n g a.f2).bind fun j=>(bL n j a.f3).bind fun l=>some (.inl (l,(IntKind.wrap .i64 (b+(1:Int)))))else some (.inr (d,b,false))
def jY(n:Nat)(j:List aG):((List Int)×Int)→Option (((List Int)×Int)⊕(((List Int)×Int×Bool)))
  | (l,b)=>bif decide (b<(j.length:Int))then(ix j b).bind fun a=>(gE n l a.f0).bind fun c=>(bL n c a.f1).bind fun d=>(bL n d a.f2).bind fun f=>(bL n f (a.f3.length:Int)).bind fun g=>(loopN (gP n a) n (g,(0:Int))).bind fun(m,o,p)=>some (.inl (m,(IntKind.wrap .i64 (b+(1:Int)))))else some (.inr (l,b,false))
def jX(n:Nat)(f:List aB):((List Int)×Int)→Option (((List Int)×Int)⊕(((List Int)×Int×Bool)))
  | (c,b)=>bif decide (b<(f.length:Int))then(ix f b).bind fun a=>(jO n c a.f0 a.f1 a.f2 a.f3).bind fun d=>some (.inl (d,(IntKind.wrap .i64 (b+(1:Int)))))else some (.inr (c,b,false))
def iS(n:Nat)(a:List aG)(b:List aB):Option ((List Int)):=
  ((mA n a b).bind fun d=>bif !d then some true else(kM n a b).bind fun f=>some (!f)).bind fun j=>bif j then some ([]:List Int)else(bL n ([]:List Int) (a.length:Int)).bind fun g=>(loopN (jY n a) n (g,(0:Int))).bind fun(m,o,p)=>(bL n m (b.length:Int)).bind fun c=>(loopN (jX n b) n (c,(0:Int))).bind fun(l,s,t)=>some l
theorem sN{n:Nat}:EG (iS n):=by
 intro X Y r h
 unfold iS at h
 refine bF Try.func66 rfl rfl<|gco 3 rfl<|wAe (Li rI_u8 []) rfl rfl rfl rfl<|goo 4 rfl<|oJn h [(10,17)] [] (fun m=>(.n,[(17,Bo m)],[])) (fun _ h=> ?_) (fun m h=> ?_)
 refine xLd rfl<|xC0 h (Cy ·) rfl (fun R h=> ?_)
 refine goo 2 rfl<|oIf 13 h rfl (fun V h=> ?_) (fun V h=> ?_)
 exact geo
 refine xLd rfl<|xC0 h (BB ·) rfl (fun T h=> ?_)
 exact geo
 refine cIf h rfl (fun W h=> ?_) (fun W h=> ?_)
 exact cRs<|wAe (Li rI_u8 []) rfl rfl rfl rfl<|geo
 refine gco 5 rfl<|xLn rfl<|xC0 h (bW ·) rfl (fun U h=> ?_)
 refine goo 7 rfl<|xLn rfl<|goc 2 rfl<|cLp h [(3,3),(5,5),(7,7),(25,64)] [(5,5),(7,7)] (fun(v,o)=>([(3,Li rI_u8 v),(25,I64 o)],[])) (fun(w,a,b)=>(.e 0,[(3,Li rI_u8 w),(25,I64 a),(26,Bo b)],[])) rfl (fun st _ h=> ?_) (fun q h=> ?_)
 obtain⟨v,o⟩:=st
 unfold jY at h
 refine gcc 5 rfl<|cIf h rfl (fun M h=> ?_) (fun M h=> ?_)
 refine gco 5 rfl<|xIx h dX rfl (fun J h=> ?_)
 refine xLd rfl<|xAz [.str [], .int .i64 0, .int .i64 0, .sl ([].map aL)] rfl<|goo 7 rfl<|xC0 h (nZ ·) rfl (fun y h=> ?_)
 refine goo 2 rfl<|xC0 h (bW ·) rfl (fun z h=> ?_)
 refine goo 2 rfl<|xC0 h (bW ·) rfl (fun A h=> ?_)
 refine goo 2 rfl<|xLn rfl<|xC0 h (bW ·) rfl (fun B h=> ?_)
 refine goo 6 rfl<|xLn rfl<|goc 2 rfl<|cLp h [(3,3),(7,7),(46,63)] [(7,7)] (fun(p,c)=>([(3,Li rI_u8 p),(46,I64 c)],[])) (fun(s,d,f)=>(.e 2,[(3,Li rI_u8 s),(46,I64 d),(47,Bo f)],[])) rfl (fun st _ h=> ?_) (fun q h=> ?_)
 obtain⟨p,c⟩:=st
 unfold gP at h
 refine gcc 5 rfl<|cIf h rfl (fun N h=> ?_) (fun N h=> ?_)
 refine gco 5 rfl<|xIx h gD rfl (fun K h=> ?_)
 refine xLd rfl<|xAc rfl<|goo 6 rfl<|xC0 h (bW ·) rfl (fun C h=> ?_)
 refine goo 2 rfl<|xC0 h (bW ·) rfl (fun D h=> ?_)
 refine goo 2 rfl<|xC0 h (nZ ·) rfl (fun E h=> ?_)
 refine goo 2 rfl<|xC0 h (bW ·) rfl (fun G h=> ?_)
 exact geo
 exact gec
 obtain⟨s,d,f⟩:=q
 exact gec
 exact gec
 obtain⟨w,a,b⟩:=q
 refine gco 5 rfl<|xLn rfl<|xC0 h (bW ·) rfl (fun H h=> ?_)
 refine goo 7 rfl<|xLn rfl<|goc 2 rfl<|cLp h [(3,3),(9,9),(73,80)] [(9,9)] (fun(t,g)=>([(3,Li rI_u8 t),(73,I64 g)],[])) (fun(u,j,l)=>(.e 4,[(3,Li rI_u8 u),(73,I64 j),(74,Bo l)],[])) rfl (fun st _ h=> ?_) (fun q h=> ?_)
 obtain⟨t,g⟩:=st
 unfold jX at h
 refine gcc 5 rfl<|cIf h rfl (fun Q h=> ?_) (fun Q h=> ?_)
 refine gco 5 rfl<|xIx h aP rfl (fun L h=> ?_)
 refine xLd rfl<|xAz [.int .i64 0, .int .i64 0, .str [], .sl ([].map aH)] rfl<|goo 5 rfl<|xC0 h (Cw ·) rfl (fun I h=> ?_)
 exact geo
 exact gec
 obtain⟨u,j,l⟩:=q
 exact gec
abbrev BE(p:(List Int)→(List Int)→Option (Bool)):Prop:= ∀ {a b:List Int} {r:Bool},p a b=some r→Big Try.prog τ An (.fn 67 [.one (.c (.sl (a.map rI_u8))), .one (.c (.sl (b.map rI_u8)))] [] (.one (.c (.bool r))) none [] none)
def hG(n:Nat)(b:List Int)(f:List Int):(Int)→Option ((Int)⊕((Bool)⊕(Int×Bool)))
  | a=>bif decide (a<(b.length:Int))then(ix b a).bind fun c=>(ix f a).bind fun d=>bif !decide (c=d)then some (.inr (.inl false))else some (.inl (IntKind.wrap .i64 (a+(1:Int))))else some (.inr (.inr (a,false)))
def iL(n:Nat)(a:List Int)(b:List Int):Option (Bool):=
  bif !decide ((a.length:Int)=(b.length:Int))then some false else(loopN (hG n a b) n (0:Int)).bind fun q=>(match q with | .inl c=>some c | .inr (f,d)=>some true)
theorem yP{n:Nat}:BE (iL n):=by
 intro o p r h
 unfold iL at h
 refine bF Try.func67 rfl rfl<|gco 8 rfl<|xLn rfl<|xMv rfl<|xLn rfl<|goc 2 rfl<|cIf h rfl (fun j h=> ?_) (fun j h=> ?_)
 exact gec
 refine gcc 6 rfl<|cLp h [(4,5),(11,25)] [] (fun c=>([(5,I64 c)],[])) (fun q=>match q with | .inl b=>(.r,[(4,Bo b)],[]) | .inr (d,a)=>(.e 0,[(5,I64 d),(14,Bo a)],[])) rfl (fun c _ h=> ?_) (fun q h=> ?_)
 unfold hG at h
 refine gco 5 rfl<|xLn rfl<|goc 2 rfl<|cIf h rfl (fun l h=> ?_) (fun l h=> ?_)
 refine gco 7 rfl<|xIx h AZ rfl (fun f h=> ?_)
 refine goo 3 rfl<|xIx h AZ rfl (fun g h=> ?_)
 refine goc 3 rfl<|cIf h rfl (fun m h=> ?_) (fun m h=> ?_)
 exact gec
 exact gec
 exact gec
 rcases q with b | ⟨d,a⟩
 exact en
 exact gec
abbrev zW(p:(List Int)→Option (Bool)):Prop:= ∀ {a:List Int} {r:Bool},p a=some r→Big Try.prog τ An (.fn 11 [.one (.c (.sl (a.map rI_u8)))] [] (.one (.c (.bool r))) none [] none)
def jV(n:Nat)(g:List Int):Option (Bool):=
  (uB n g).bind fun p=>bif p then some true else(fF n g).bind fun a=>(gL n a.1 a.2.1 a.2.2.1 a.2.2.2).bind fun d=>((jI n a.1 a.2.1 a.2.2.1 a.2.2.2).bind fun j=>bif !(d == j)then some true else(gL n a.1 a.2.1 a.1 a.2.1).bind fun l=>some (!l)).bind fun m=>bif m then some false else(iS n a.1 a.2.1).bind fun b=>(iS n a.2.2.1 a.2.2.2).bind fun c=>(bif decide ((b.length:Int)=(0:Int))then some true else bif decide ((c.length:Int)=(0:Int))then some true else(iL n b c).bind fun f=>some (f == d)).bind fun o=>some o
theorem wN{n:Nat}:zW (jV n):=by
 intro w r h
 unfold jV at h
 refine bF Try.func11 rfl rfl<|gco 8 rfl<|xC0 h (He ·) rfl (fun s h=> ?_)
 refine oNl<|cIf h rfl (fun t h=> ?_) (fun t h=> ?_)
 exact gec
 refine gco 4 rfl<|xC0 h (uM ·) rfl (fun o h=> ?_)
 refine goo 3 rfl<|xAz [.sl ([].map aK), .sl ([].map aH)] rfl<|xAz [.sl ([].map aK), .sl ([].map aH)] rfl<|goo 7 rfl<|xC0 h (rM ·) rfl (fun a h=> ?_)
 refine goo 5 rfl<|oJn h [(18,28)] [] (fun b=>(.n,[(28,Bo b)],[])) (fun _ h=> ?_) (fun b h=> ?_)
 refine goo 3 rfl<|xC0 h (zU ·) rfl (fun f h=> ?_)
 refine wBi (.bool (!(a == f))) rfl rfl rfl rfl rfl<|xMv rfl<|oIf 23 h rfl (fun u h=> ?_) (fun u h=> ?_)
 exact geo
 refine goo 2 rfl<|xC0 h (rM ·) rfl (fun p h=> ?_)
 exact geo
 refine cIf h rfl (fun v h=> ?_) (fun v h=> ?_)
 exact gec
 refine gco 4 rfl<|xC0 h (sN ·) rfl (fun g h=> ?_)
 refine goo 5 rfl<|xC0 h (sN ·) rfl (fun j h=> ?_)
 refine goo 4 rfl<|oJn h [(2,2),(33,47)] [] (fun c=>(.n,[(2,Bo c)],[])) (fun _ h=> ?_) (fun c h=> ?_)
 refine xMv rfl<|xLn rfl<|goo 2 rfl<|oIf 36 h rfl (fun l h=> ?_) (fun l h=> ?_)
 exact geo
 refine xMv rfl<|xLn rfl<|goo 3 rfl<|oIf 41 h rfl (fun m h=> ?_) (fun m h=> ?_)
 exact geo
 refine goo 2 rfl<|xC0 h (yP ·) rfl (fun d h=> ?_)
 exact xMv rfl<|wBi (.bool ((d == a))) rfl rfl rfl rfl rfl<|geo
 exact gec
end Go.Own
