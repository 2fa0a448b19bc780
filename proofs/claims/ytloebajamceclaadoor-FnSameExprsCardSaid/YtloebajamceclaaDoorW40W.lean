/- Each function on plain data, and its walk. No conditions. -/
import Derived.Test.YtloebajamceclaaDoorW40V
set_option linter.unusedVariables false
set_option linter.unusedSimpArgs false
set_option linter.unnecessarySimpa false
namespace Go.Own
open Go Go.Proofs
def aO:Nat→(bP)×(aP)×(aQ)×(bB)
  | 0=>((fun _ _ _ _ _ _ _ _ _ _=>none),(fun _ _=>none),(fun _ _=>none),(fun _ _ _ _ _ _ _ _ _ _ _ _ _ _ _ _ _ _ _ _=>none))
  | n+1=>(gX n ((aO n).1) ((aO n).2.1) ((aO n).2.2.1) ((aO n).2.2.2),cP n ((aO n).1) ((aO n).2.1) ((aO n).2.2.1) ((aO n).2.2.2),cQ n ((aO n).1) ((aO n).2.1) ((aO n).2.2.1) ((aO n).2.2.2),fC n ((aO n).1) ((aO n).2.1) ((aO n).2.2.1) ((aO n).2.2.2))
def aT(n:Nat):bP:=(aO n).1
def bE(n:Nat):aP:=(aO n).2.1
def bG(n:Nat):aQ:=(aO n).2.2.1
def cH(n:Nat):bB:=(aO n).2.2.2
theorem gO(n:Nat):dV (aT n)∧bN (bE n)∧bO (bG n)∧dF (cH n):=by
  induction n with
  | zero=>exact⟨(fun h=>nomatch h),(fun h=>nomatch h),(fun h=>nomatch h),(fun h=>nomatch h)⟩
  | succ n ih=>exact⟨uG (n:=n) (ih.1) (ih.2.1) (ih.2.2.1) (ih.2.2.2),nE (n:=n) (ih.1) (ih.2.1) (ih.2.2.1) (ih.2.2.2),nF (n:=n) (ih.1) (ih.2.1) (ih.2.2.1) (ih.2.2.2),rB (n:=n) (ih.1) (ih.2.1) (ih.2.2.1) (ih.2.2.2)⟩
theorem kK{n:Nat}:dV (aT n):=(gO n).1
theorem BL{n:Nat}:bN (bE n):=(gO n).2.1
theorem BM{n:Nat}:bO (bG n):=(gO n).2.2.1
theorem GF{n:Nat}:dF (cH n):=(gO n).2.2.2
theorem rD(n:Nat):aT (n+1)=gX n (aT n) (bE n) (bG n) (cH n):=rfl
theorem lV(n:Nat):bE (n+1)=cP n (aT n) (bE n) (bG n) (cH n):=rfl
theorem lW(n:Nat):bG (n+1)=cQ n (aT n) (bE n) (bG n) (cH n):=rfl
theorem pC(n:Nat):cH (n+1)=fC n (aT n) (bE n) (bG n) (cH n):=rfl
abbrev dU:Type:=Int→Int→(List UInt8)→(List aA)→(List aB)→Int→Int→(List UInt8)→(List aA)→(List aB)→Option (Bool)
abbrev kC(p:dU):Prop:= ∀ {a b:Int} {d:List UInt8} {f:List aA} {g:List aB} {j l:Int} {m:List UInt8} {o:List aA} {s:List aB} {r:Bool},p a b d f g j l m o s=some r→Big Tryd.prog τ An (.fn 14 [.one (.ag [.int .i64 a, .int .i64 b, .str d, .sl (f.map aD), .sl (g.map aC)]), .one (.ag [.int .i64 j, .int .i64 l, .str m, .sl (o.map aD), .sl (s.map aC)])] [] (.one (.c (.bool r))) none [] none)
def gM(n:Nat)(c:dU)(g:List aA)(j:List aA):(Int)→Option ((Int)⊕((Bool)⊕(Int×Bool)))
  | d=>bif decide (d<(g.length:Int))then(ix g d).bind fun a=>(ix j d).bind fun b=>(c a.f0 a.f1 a.f2 a.f3 a.f4 b.f0 b.f1 b.f2 b.f3 b.f4).bind fun f=>bif !f then some (.inr (.inl false))else some (.inl (IntKind.wrap .i64 (d+(1:Int))))else some (.inr (.inr (d,false)))
def gL(n:Nat)(a:dU)(j:List aB)(o:List aB):(Int)→Option ((Int)⊕((Bool)⊕(Int×Bool)))
  | b=>bif decide (b<(j.length:Int))then((ix j b).bind fun c=>(ix o b).bind fun d=>(a c.f0 c.f1 c.f2 c.f3 c.f4 d.f0 d.f1 d.f2 d.f3 d.f4).bind fun l=>bif !l then some true else(ix j b).bind fun f=>(ix o b).bind fun g=>(a f.f5 f.f6 f.f7 f.f8 f.f9 g.f5 g.f6 g.f7 g.f8 g.f9).bind fun m=>some (!m)).bind fun p=>bif p then some (.inr (.inl false))else some (.inl (IntKind.wrap .i64 (b+(1:Int))))else some (.inr (.inr (b,false)))
def gW(n:Nat)(a:dU)(l:Int)(m:Int)(o:List UInt8)(b:List aA)(c:List aB)(p:Int)(s:Int)(t:List UInt8)(d:List aA)(f:List aB):Option (Bool):=
  (bif !decide (l=p)then some true else bif !decide (m=s)then some true else bif !decide (o=t)then some true else bif !decide ((b.length:Int)=(d.length:Int))then some true else some (!decide ((c.length:Int)=(f.length:Int)))).bind fun g=>bif g then some false else(loopN (gM n a b d) n (0:Int)).bind fun q=>(match q with | .inl u=>some u | .inr (z,v)=>(loopN (gL n a c f) n (0:Int)).bind fun q=>(match q with | .inl j=>some j | .inr (y,w)=>some true))
theorem uF{n:Nat}{b:dU}(a:kC b):kC (gW n b):=by
 intro Q R T U V W X Y Z a0 r h; unfold gW at h; refine bF Tryd.func14 rfl rfl<|gco 9 rfl<|oJn h [(7,43)] [] (fun g=>(.n,[(43,Bo g)],[])) (fun _ h=> ?_) (fun g h=> ?_)
 refine goo 6 rfl<|oIf 12 h rfl (fun J h=> ?_) (fun J h=> ?_)
 exact geo; refine goo 7 rfl<|oIf 19 h rfl (fun K h=> ?_) (fun K h=> ?_)
 exact geo; refine goo 7 rfl<|oIf 26 h rfl (fun L h=> ?_) (fun L h=> ?_)
 exact geo; refine goo 2 rfl<|xLn rfl<|goo 2 rfl<|xLn rfl<|goo 3 rfl<|oIf 35 h rfl (fun M h=> ?_) (fun M h=> ?_)
 exact geo; exact goo 2 rfl<|xLn rfl<|goo 2 rfl<|xLn rfl<|geo
 refine cIf h rfl (fun N h=> ?_) (fun N h=> ?_)
 exact gec; refine gcc 6 rfl<|cLp h [(4,5),(44,62)] [] (fun p=>([(5,I64 p)],[])) (fun q=>match q with | .inl o=>(.r,[(4,Bo o)],[]) | .inr (s,c)=>(.e 0,[(5,I64 s),(48,Bo c)],[])) rfl (fun p _ h=> ?_) (fun q h=> ?_)
 unfold gM at h; refine gco 6 rfl<|xLn rfl<|goc 2 rfl<|cIf h rfl (fun D h=> ?_) (fun D h=> ?_)
 refine gco 8 rfl<|xIx h aH rfl (fun w h=> ?_)
 refine goo 4 rfl<|xIx h aH rfl (fun y h=> ?_)
 refine xLd rfl<|xC0 h (a ·) rfl (fun t h=> ?_)
 refine goc 2 rfl<|cIf h rfl (fun E h=> ?_) (fun E h=> ?_)
 exact gec; exact gec; exact gec; rcases q with o | ⟨s,c⟩; exact en; refine gcc 5 rfl<|cLp h [(4,4),(6,6),(63,99)] [] (fun l=>([(6,I64 l)],[])) (fun q=>match q with | .inl j=>(.r,[(4,Bo j)],[]) | .inr (m,d)=>(.e 2,[(6,I64 m),(67,Bo d)],[])) rfl (fun l _ h=> ?_) (fun q h=> ?_)
 unfold gL at h; refine gco 6 rfl<|xLn rfl<|goc 2 rfl<|cIf h rfl (fun G h=> ?_) (fun G h=> ?_)
 refine gco 5 rfl<|oJn h [(70,99)] [] (fun f=>(.n,[(99,Bo f)],[])) (fun _ h=> ?_) (fun f h=> ?_)
 refine goo 3 rfl<|xIx h aJ rfl (fun z h=> ?_)
 refine goo 5 rfl<|xIx h aJ rfl (fun A h=> ?_)
 refine goo 2 rfl<|xC0 h (a ·) rfl (fun u h=> ?_)
 refine goo 2 rfl<|oIf 84 h rfl (fun H h=> ?_) (fun H h=> ?_)
 exact geo; refine goo 3 rfl<|xIx h aJ rfl (fun B h=> ?_)
 refine goo 5 rfl<|xIx h aJ rfl (fun C h=> ?_)
 refine goo 2 rfl<|xC0 h (a ·) rfl (fun v h=> ?_)
 exact geo; refine cIf h rfl (fun I h=> ?_) (fun I h=> ?_)
 exact gec; exact gec; exact gec; rcases q with j | ⟨m,d⟩; exact en; exact gec
def pV:Nat→(dU)
  | 0=>(fun _ _ _ _ _ _ _ _ _ _=>none)
  | n+1=>gW n (pV n)
def cO(n:Nat):dU:=pV n
theorem uL(n:Nat):kC (cO n):=by
  induction n with
  | zero=>exact(fun h=>nomatch h)
  | succ n ih=>exact uF (n:=n) ih
theorem vU{n:Nat}:kC (cO n):=(uL n)
theorem rC(n:Nat):cO (n+1)=gW n (cO n):=rfl
abbrev uO(p:(List Int)→Option (Bool)):Prop:= ∀ {a:List Int} {r:Bool},p a=some r→Big Tryd.prog τ An (.fn 4 [.one (.c (.sl (a.map rI_u8)))] [] (.one (.c (.bool r))) none [] none)
def gN(n:Nat)(l:List Int):Option (Bool):=
  (qC n l).bind fun t=>bif t then some true else(dW n l).bind fun a=>(aT n a.1 a.2.1 a.2.2.1 a.2.2.2.1 a.2.2.2.2.1 a.2.2.2.2.2.1 a.2.2.2.2.2.2.1 a.2.2.2.2.2.2.2.1 a.2.2.2.2.2.2.2.2.1 a.2.2.2.2.2.2.2.2.2).bind fun b=>((cO n a.1 a.2.1 a.2.2.1 a.2.2.2.1 a.2.2.2.2.1 a.2.2.2.2.2.1 a.2.2.2.2.2.2.1 a.2.2.2.2.2.2.2.1 a.2.2.2.2.2.2.2.2.1 a.2.2.2.2.2.2.2.2.2).bind fun m=>bif !(b == m)then some true else(aT n a.1 a.2.1 a.2.2.1 a.2.2.2.1 a.2.2.2.2.1 a.1 a.2.1 a.2.2.1 a.2.2.2.1 a.2.2.2.2.1).bind fun o=>bif !o then some true else(aT n a.2.2.2.2.2.1 a.2.2.2.2.2.2.1 a.2.2.2.2.2.2.2.1 a.2.2.2.2.2.2.2.2.1 a.2.2.2.2.2.2.2.2.2 a.1 a.2.1 a.2.2.1 a.2.2.2.1 a.2.2.2.2.1).bind fun c=>some (!(b == c))).bind fun s=>bif s then some false else((dG n a.1 a.2.1 a.2.2.1 a.2.2.2.1 a.2.2.2.2.1).bind fun d=>bif !d then some true else(dG n a.2.2.2.2.2.1 a.2.2.2.2.2.2.1 a.2.2.2.2.2.2.2.1 a.2.2.2.2.2.2.2.2.1 a.2.2.2.2.2.2.2.2.2).bind fun f=>bif !f then some true else(dJ n a.1 a.2.1 a.2.2.1 a.2.2.2.1 a.2.2.2.2.1).bind fun g=>(dJ n a.2.2.2.2.2.1 a.2.2.2.2.2.2.1 a.2.2.2.2.2.2.2.1 a.2.2.2.2.2.2.2.2.1 a.2.2.2.2.2.2.2.2.2).bind fun j=>some ((decide (g=j)) == b)).bind fun p=>some p
theorem rF{n:Nat}:uO (gN n):=by
 intro A r h; unfold gN at h; refine bF Tryd.func4 rfl rfl<|gco 8 rfl<|xC0 h (EX ·) rfl (fun v h=> ?_)
 refine oNl<|cIf h rfl (fun w h=> ?_) (fun w h=> ?_)
 exact gec; refine gco 4 rfl<|xC0 h (qL ·) rfl (fun t h=> ?_)
 refine goo 3 rfl<|xAz [.int .i64 0, .int .i64 0, .str [], .sl ([].map aD), .sl ([].map aC)] rfl<|xAz [.int .i64 0, .int .i64 0, .str [], .sl ([].map aD), .sl ([].map aC)] rfl<|goo 7 rfl<|xC0 h (kK ·) rfl (fun a h=> ?_)
 refine goo 5 rfl<|oJn h [(16,33)] [] (fun c=>(.n,[(33,Bo c)],[])) (fun _ h=> ?_) (fun c h=> ?_)
 refine goo 3 rfl<|xC0 h (vU ·) rfl (fun j h=> ?_)
 refine wBi (.bool (!(a == j))) rfl rfl rfl rfl rfl<|xMv rfl<|oIf 21 h rfl (fun y h=> ?_) (fun y h=> ?_)
 exact geo; refine goo 2 rfl<|xC0 h (kK ·) rfl (fun u h=> ?_)
 refine goo 3 rfl<|oIf 27 h rfl (fun z h=> ?_) (fun z h=> ?_)
 exact geo; refine goo 3 rfl<|xC0 h (kK ·) rfl (fun d h=> ?_)
 exact wBi (.bool (!(a == d))) rfl rfl rfl rfl rfl<|geo
 refine cIf h rfl (fun o h=> ?_) (fun o h=> ?_)
 exact gec; refine gco 3 rfl<|oJn h [(2,2),(34,50)] [] (fun b=>(.n,[(2,Bo b)],[])) (fun _ h=> ?_) (fun b h=> ?_)
 refine xLd rfl<|xC0 h (mF ·) rfl (fun l h=> ?_)
 refine goo 2 rfl<|oIf 37 h rfl (fun p h=> ?_) (fun p h=> ?_)
 exact geo; refine xLd rfl<|xC0 h (mF ·) rfl (fun m h=> ?_)
 refine goo 3 rfl<|oIf 42 h rfl (fun s h=> ?_) (fun s h=> ?_)
 exact geo; refine xLd rfl<|xC0 h (oG ·) rfl (fun f h=> ?_)
 refine xLd rfl<|xC0 h (oG ·) rfl (fun g h=> ?_)
 exact goo 2 rfl<|wBi (.bool (((decide (f=g)) == a))) rfl rfl rfl rfl rfl<|geo
 exact gec
end Go.Own
