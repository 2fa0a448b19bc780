/- A part of the proof. No conditions. -/
import Derived.Test.YtjfgchodolnmcaaW27A
set_option linter.unusedVariables false
set_option linter.unusedSimpArgs false
set_option linter.unnecessarySimpa false
namespace Go.Own
open Go Go.Proofs
def rI_i64(a:Int):List T:=[.int .i64 a]
theorem rI_i64_eq(a:Int):rI_i64 a=[.int .i64 a]:=rfl
def rI_u8(a:Int):List T:=[.int .u8 a]
theorem rI_u8_eq(a:Int):rI_u8 a=[.int .u8 a]:=rfl
structure S_impl_Ins where
  f0:Int
  f1:Int
  f2:List UInt8
  f3:Int
  deriving DecidableEq
def rS_impl_Ins(a:S_impl_Ins):List T:=[.int .i64 a.f0, .int .i64 a.f1, .str a.f2, .int .i64 a.f3]
theorem rS_impl_Ins_eq(a:S_impl_Ins):rS_impl_Ins a=[.int .i64 a.f0, .int .i64 a.f1, .str a.f2, .int .i64 a.f3]:=rfl
structure S_laws_Fn where
  f0:List UInt8
  f1:Int
  f2:Int
  f3:List S_impl_Ins
  deriving DecidableEq
def rS_laws_Fn(a:S_laws_Fn):List T:=[.str a.f0, .int .i64 a.f1, .int .i64 a.f2, .sl (a.f3.map rS_impl_Ins)]
theorem rS_laws_Fn_eq(a:S_laws_Fn):rS_laws_Fn a=[.str a.f0, .int .i64 a.f1, .int .i64 a.f2, .sl (a.f3.map rS_impl_Ins)]:=rfl
inductive S_laws_Pat where
  | mk (f0:Int) (f1:Int) (f2:List UInt8) (f3:List S_laws_Pat)
def S_laws_Pat.f0:S_laws_Pat→Int
  | .mk a _ _ _=>a
def S_laws_Pat.f1:S_laws_Pat→Int
  | .mk _ a _ _=>a
def S_laws_Pat.f2:S_laws_Pat→List UInt8
  | .mk _ _ a _=>a
def S_laws_Pat.f3:S_laws_Pat→List S_laws_Pat
  | .mk _ _ _ a=>a
mutual
def rS_laws_Pat:S_laws_Pat→List T
  | .mk a0 a1 a2 a3=> [.int .i64 a0, .int .i64 a1, .str a2, .sl (rS_laws_Pats a3)]
def rS_laws_Pats:List S_laws_Pat→List (List T)
  | []=> []
  | x::r=>rS_laws_Pat x::rS_laws_Pats r
end
theorem rS_laws_Pats_map: ∀l:List S_laws_Pat,rS_laws_Pats l=l.map rS_laws_Pat
  | []=>by simp [rS_laws_Pats]
  | x::r=>by simp [rS_laws_Pats,rS_laws_Pats_map r]
theorem rS_laws_Pat_eq(a:S_laws_Pat):rS_laws_Pat a=[.int .i64 a.f0, .int .i64 a.f1, .str a.f2, .sl (a.f3.map rS_laws_Pat)]:=by
  cases a
  simp [rS_laws_Pat,rS_laws_Pats_map,S_laws_Pat.f0,S_laws_Pat.f1,S_laws_Pat.f2,S_laws_Pat.f3]
theorem rS_laws_Pat_mk(a0:Int)(a1:Int)(a2:List UInt8)(a3:List S_laws_Pat):rS_laws_Pat (.mk a0 a1 a2 a3)=[.int .i64 a0, .int .i64 a1, .str a2, .sl (a3.map rS_laws_Pat)]:=by simp [rS_laws_Pat,rS_laws_Pats_map]
structure S_impl_Fn where
  f0:List UInt8
  f1:Int
  f2:Int
  f3:List S_impl_Ins
  deriving DecidableEq
def rS_impl_Fn(a:S_impl_Fn):List T:=[.str a.f0, .int .i64 a.f1, .int .i64 a.f2, .sl (a.f3.map rS_impl_Ins)]
theorem rS_impl_Fn_eq(a:S_impl_Fn):rS_impl_Fn a=[.str a.f0, .int .i64 a.f1, .int .i64 a.f2, .sl (a.f3.map rS_impl_Ins)]:=rfl
inductive S_impl_Pat where
  | mk (f0:Int) (f1:Int) (f2:List UInt8) (f3:List S_impl_Pat)
def S_impl_Pat.f0:S_impl_Pat→Int
  | .mk a _ _ _=>a
def S_impl_Pat.f1:S_impl_Pat→Int
  | .mk _ a _ _=>a
def S_impl_Pat.f2:S_impl_Pat→List UInt8
  | .mk _ _ a _=>a
def S_impl_Pat.f3:S_impl_Pat→List S_impl_Pat
  | .mk _ _ _ a=>a
mutual
def rS_impl_Pat:S_impl_Pat→List T
  | .mk a0 a1 a2 a3=> [.int .i64 a0, .int .i64 a1, .str a2, .sl (rS_impl_Pats a3)]
def rS_impl_Pats:List S_impl_Pat→List (List T)
  | []=> []
  | x::r=>rS_impl_Pat x::rS_impl_Pats r
end
theorem rS_impl_Pats_map: ∀l:List S_impl_Pat,rS_impl_Pats l=l.map rS_impl_Pat
  | []=>by simp [rS_impl_Pats]
  | x::r=>by simp [rS_impl_Pats,rS_impl_Pats_map r]
theorem rS_impl_Pat_eq(a:S_impl_Pat):rS_impl_Pat a=[.int .i64 a.f0, .int .i64 a.f1, .str a.f2, .sl (a.f3.map rS_impl_Pat)]:=by
  cases a
  simp [rS_impl_Pat,rS_impl_Pats_map,S_impl_Pat.f0,S_impl_Pat.f1,S_impl_Pat.f2,S_impl_Pat.f3]
theorem rS_impl_Pat_mk(a0:Int)(a1:Int)(a2:List UInt8)(a3:List S_impl_Pat):rS_impl_Pat (.mk a0 a1 a2 a3)=[.int .i64 a0, .int .i64 a1, .str a2, .sl (a3.map rS_impl_Pat)]:=by simp [rS_impl_Pat,rS_impl_Pats_map]
theorem marks_37:Marks Try.prog 37 true 2 [(0,115),(1,116)]:=by
  refine Marks.of (S:=67) Try.func37 rfl rfl (by decide) (by decide) (fun cs k w Bx R a hl hsz hdf h0 h1 hbs hq=> ?_)
  refine mk_start rfl hsz hdf h0 h1 hbs hq (fun a w b Bx hst hq=> ?_)
  refine mk_step tables [(1,116)] rfl rfl rfl (fun _=>rfl) (Marks.slice _ 115) (by rw[hl]; decide) rfl rfl rfl hst hq (fun k a w hst hq=> ?_)
  refine mk_step tables [] rfl rfl rfl (fun _=>rfl) (Marks.slice _ 116) (by rw[hl]; decide) rfl rfl rfl hst hq (fun k a w hst hq=> ?_)
  exact mk_tail rfl rfl hst hq
abbrev B_laws_szIns(p:Int→Int→(List UInt8)→Int→Int→Option (Int)):Prop:= ∀ {t0_0 t0_1:Int} {t0_2:List UInt8} {t0_3 t1_0:Int} {r:Int},p t0_0 t0_1 t0_2 t0_3 t1_0=some r→Big Try.prog τ An (.fn 288 [.one (.ag [.int .i64 t0_0, .int .i64 t0_1, .str t0_2, .int .i64 t0_3]), .one (.c (.int .i64 t1_0))] [] (.one (.c (.int .i64 r))) none [] none)
def p_laws_szIns(n:Nat)(t0_0:Int)(t0_1:Int)(t0_2:List UInt8)(t0_3:Int)(t1_0:Int):Option (Int):=
  bif decide ((IntKind.wrap .i64 (t1_0 - (t0_2.length:Int)))<(0:Int))then some ((-1):Int)else some (IntKind.wrap .i64 (t1_0 - (t0_2.length:Int)))
theorem big_laws_szIns{n:Nat}:B_laws_szIns (p_laws_szIns n):=by
 intro t0_0 t0_1 t0_2 t0_3 t1_0 r h
 unfold p_laws_szIns at h
 refine bF Try.func288 rfl rfl<|cRs<|xBx rfl<|xAs rfl<|oRs<|xMv rfl<|xFd rfl<|xLd rfl<|xLs rfl<|xSub rfl<|xAs rfl<|oNl<|cSq<|cRs ?_
 refine xMv rfl<|xLt rfl<|oNl<|cIf h rfl (fun q1 h=> ?_) (fun q1 h=> ?_)
 refine cRs<|xAs rfl<|oNl<|cRt ?_
 cases h
 exact eR rfl rfl rfl rfl
 refine cSk<|cRs<|xMv rfl<|xAs rfl<|oNl<|cRt ?_
 cases h
 exact eR rfl rfl rfl rfl
abbrev B_laws_szInsS(p:(List S_impl_Ins)→Int→Option (Int)):Prop:= ∀ {t0_0:List S_impl_Ins} {t1_0:Int} {r:Int},p t0_0 t1_0=some r→Big Try.prog τ An (.fn 256 [.one (.c (.sl (t0_0.map rS_impl_Ins))), .one (.c (.int .i64 t1_0))] [] (.one (.c (.int .i64 r))) none [] none)
def p_laws_szInsS_b1(n:Nat)(t0_0:List S_impl_Ins):(Int×Int)→Option ((Int×Int)⊕((Int)⊕(Int×Int×Bool)))
  | (v1_2,v5_3)=>bif decide (v5_3<(t0_0.length:Int))then(ix t0_0 v5_3).bind fun e20_9=>(p_laws_szIns n e20_9.f0 e20_9.f1 e20_9.f2 e20_9.f3 v1_2).bind fun c23_10=>bif decide (c23_10<(0:Int))then some (.inr (.inl ((-1):Int)))else some (.inl (c23_10,(IntKind.wrap .i64 (v5_3+(1:Int)))))else some (.inr (.inr (v1_2,v5_3,false)))
def p_laws_szInsS(n:Nat)(t0_0:List S_impl_Ins)(t1_0:Int):Option (Int):=
  bif decide ((IntKind.wrap .i64 (t1_0 - (t0_0.length:Int)))<(0:Int))then some ((-1):Int)else(loopN (p_laws_szInsS_b1 n t0_0) n ((IntKind.wrap .i64 (t1_0 - (t0_0.length:Int))),(0:Int))).bind fun q=>(match q with | .inl v4_4=>some v4_4 | .inr (v1_5,v5_6,v15_7)=>some v1_5)
theorem big_laws_szInsS{n:Nat}:B_laws_szInsS (p_laws_szInsS n):=by
 intro t0_0 t1_0 r h
 unfold p_laws_szInsS at h
 refine bF Try.func256 rfl rfl<|cRs<|xAs rfl<|oRs<|xMv rfl<|xMv rfl<|xLn rfl<|xSub rfl<|xAs rfl<|oNl<|cSq<|cRs<|xMv rfl<|xLt rfl ?_
 refine oNl<|cIf h rfl (fun q1 h=> ?_) (fun q1 h=> ?_)
 refine cRs<|xAs rfl<|oNl<|cRt ?_
 cases h
 exact eR rfl rfl rfl rfl
 refine cSk<|cSq<|cRs<|xAs rfl<|oNl<|cLp h [(1,1),(4,5),(12,25)] [] (fun(v1_2,v5_3)=>([(1,I64 v1_2),(5,I64 v5_3)],[])) (fun q=>match q with | .inl v4_4=>(.r,[(4,I64 v4_4)],[]) | .inr (v1_5,v5_6,v15_7)=>(.e 0,[(1,I64 v1_5),(5,I64 v5_6),(15,Bo v15_7)],[])) rfl (fun st _ h=> ?_) (fun q h=> ?_)
 obtain⟨v1_2,v5_3⟩:=st
 unfold p_laws_szInsS_b1 at h
 refine cSq<|cRs<|xMv rfl<|xMv rfl<|xLn rfl<|xLt rfl<|oNl<|cIf h rfl (fun q8 h=> ?_) (fun q8 h=> ?_)
 refine cSk<|cSq<|cBk<|cRs<|xMv rfl<|xMv rfl<|xIx h rS_impl_Ins_eq rfl (fun e20_9 h=> ?_)
 refine xLd rfl<|xMv rfl<|xC0 h (big_laws_szIns ·) rfl (fun c23_10 h=> ?_)
 refine xAs rfl<|oRs<|xMv rfl<|xLt rfl<|oNl<|cIf h rfl (fun q11 h=> ?_) (fun q11 h=> ?_)
 exact cRs<|xAs rfl<|oNl<|cRt<|eXr h rfl
 exact cSk<|cRg<|xMv rfl<|xAdd rfl<|xAs rfl<|oNl<|eL h rfl
 exact cEx<|eX h rfl
 rcases q with v4_4 | ⟨v1_5,v5_6,v15_7⟩
 cases h
 exact eR rfl rfl rfl rfl
 refine cRs<|xMv rfl<|xAs rfl<|oNl<|cRt ?_
 cases h
 exact eR rfl rfl rfl rfl
abbrev B_laws_szFn(p:(List UInt8)→Int→Int→(List S_impl_Ins)→Int→Option (Int)):Prop:= ∀ {t0_0:List UInt8} {t0_1 t0_2:Int} {t0_3:List S_impl_Ins} {t1_0:Int} {r:Int},p t0_0 t0_1 t0_2 t0_3 t1_0=some r→Big Try.prog τ An (.fn 191 [.one (.ag [.str t0_0, .int .i64 t0_1, .int .i64 t0_2, .sl (t0_3.map rS_impl_Ins)]), .one (.c (.int .i64 t1_0))] [] (.one (.c (.int .i64 r))) none [] none)
def p_laws_szFn(n:Nat)(t0_0:List UInt8)(t0_1:Int)(t0_2:Int)(t0_3:List S_impl_Ins)(t1_0:Int):Option (Int):=
  bif decide ((IntKind.wrap .i64 (t1_0 - (t0_0.length:Int)))<(0:Int))then some ((-1):Int)else(p_laws_szInsS n t0_3 (IntKind.wrap .i64 (t1_0 - (t0_0.length:Int)))).bind fun c15_2=>bif decide (c15_2<(0:Int))then some ((-1):Int)else some c15_2
theorem big_laws_szFn{n:Nat}:B_laws_szFn (p_laws_szFn n):=by
 intro t0_0 t0_1 t0_2 t0_3 t1_0 r h
 unfold p_laws_szFn at h
 refine bF Try.func191 rfl rfl<|cRs<|xBx rfl<|xAs rfl<|oRs<|xMv rfl<|xFd rfl<|xLd rfl<|xLs rfl<|xSub rfl<|xAs rfl<|oNl<|cSq<|cRs ?_
 refine xMv rfl<|xLt rfl<|oNl<|cIf h rfl (fun q1 h=> ?_) (fun q1 h=> ?_)
 refine cRs<|xAs rfl<|oNl<|cRt ?_
 cases h
 exact eR rfl rfl rfl rfl
 refine cSk<|cRs<|xFd rfl<|xLd rfl<|xMv rfl<|xC0 h (big_laws_szInsS ·) rfl (fun c15_2 h=> ?_)
 refine xAs rfl<|oNl<|cSq<|cRs<|xMv rfl<|xLt rfl<|oNl<|cIf h rfl (fun q3 h=> ?_) (fun q3 h=> ?_)
 refine cRs<|xAs rfl<|oNl<|cRt ?_
 cases h
 exact eR rfl rfl rfl rfl
 refine cSk<|cRs<|xMv rfl<|xAs rfl<|oNl<|cRt ?_
 cases h
 exact eR rfl rfl rfl rfl
abbrev B_laws_szFnS(p:(List S_laws_Fn)→Int→Option (Int)):Prop:= ∀ {t0_0:List S_laws_Fn} {t1_0:Int} {r:Int},p t0_0 t1_0=some r→Big Try.prog τ An (.fn 100 [.one (.c (.sl (t0_0.map rS_laws_Fn))), .one (.c (.int .i64 t1_0))] [] (.one (.c (.int .i64 r))) none [] none)
def p_laws_szFnS_b1(n:Nat)(t0_0:List S_laws_Fn):(Int×Int)→Option ((Int×Int)⊕((Int)⊕(Int×Int×Bool)))
  | (v1_2,v5_3)=>bif decide (v5_3<(t0_0.length:Int))then(ix t0_0 v5_3).bind fun e20_9=>(p_laws_szFn n e20_9.f0 e20_9.f1 e20_9.f2 e20_9.f3 v1_2).bind fun c23_10=>bif decide (c23_10<(0:Int))then some (.inr (.inl ((-1):Int)))else some (.inl (c23_10,(IntKind.wrap .i64 (v5_3+(1:Int)))))else some (.inr (.inr (v1_2,v5_3,false)))
def p_laws_szFnS(n:Nat)(t0_0:List S_laws_Fn)(t1_0:Int):Option (Int):=
  bif decide ((IntKind.wrap .i64 (t1_0 - (t0_0.length:Int)))<(0:Int))then some ((-1):Int)else(loopN (p_laws_szFnS_b1 n t0_0) n ((IntKind.wrap .i64 (t1_0 - (t0_0.length:Int))),(0:Int))).bind fun q=>(match q with | .inl v4_4=>some v4_4 | .inr (v1_5,v5_6,v15_7)=>some v1_5)
theorem big_laws_szFnS{n:Nat}:B_laws_szFnS (p_laws_szFnS n):=by
 intro t0_0 t1_0 r h
 unfold p_laws_szFnS at h
 refine bF Try.func100 rfl rfl<|cRs<|xAs rfl<|oRs<|xMv rfl<|xMv rfl<|xLn rfl<|xSub rfl<|xAs rfl<|oNl<|cSq<|cRs<|xMv rfl<|xLt rfl ?_
 refine oNl<|cIf h rfl (fun q1 h=> ?_) (fun q1 h=> ?_)
 refine cRs<|xAs rfl<|oNl<|cRt ?_
 cases h
 exact eR rfl rfl rfl rfl
 refine cSk<|cSq<|cRs<|xAs rfl<|oNl<|cLp h [(1,1),(4,5),(12,25)] [] (fun(v1_2,v5_3)=>([(1,I64 v1_2),(5,I64 v5_3)],[])) (fun q=>match q with | .inl v4_4=>(.r,[(4,I64 v4_4)],[]) | .inr (v1_5,v5_6,v15_7)=>(.e 0,[(1,I64 v1_5),(5,I64 v5_6),(15,Bo v15_7)],[])) rfl (fun st _ h=> ?_) (fun q h=> ?_)
 obtain⟨v1_2,v5_3⟩:=st
 unfold p_laws_szFnS_b1 at h
 refine cSq<|cRs<|xMv rfl<|xMv rfl<|xLn rfl<|xLt rfl<|oNl<|cIf h rfl (fun q8 h=> ?_) (fun q8 h=> ?_)
 refine cSk<|cSq<|cBk<|cRs<|xMv rfl<|xMv rfl<|xIx h rS_laws_Fn_eq rfl (fun e20_9 h=> ?_)
 refine xLd rfl<|xMv rfl<|xC0 h (big_laws_szFn ·) rfl (fun c23_10 h=> ?_)
 refine xAs rfl<|oRs<|xMv rfl<|xLt rfl<|oNl<|cIf h rfl (fun q11 h=> ?_) (fun q11 h=> ?_)
 exact cRs<|xAs rfl<|oNl<|cRt<|eXr h rfl
 exact cSk<|cRg<|xMv rfl<|xAdd rfl<|xAs rfl<|oNl<|eL h rfl
 exact cEx<|eX h rfl
 rcases q with v4_4 | ⟨v1_5,v5_6,v15_7⟩
 cases h
 exact eR rfl rfl rfl rfl
 refine cRs<|xMv rfl<|xAs rfl<|oNl<|cRt ?_
 cases h
 exact eR rfl rfl rfl rfl
abbrev Y_laws_szPat:Type:=Int→Int→(List UInt8)→(List S_laws_Pat)→Int→Option (Int)
abbrev B_laws_szPat(p:Y_laws_szPat):Prop:= ∀ {t0_0 t0_1:Int} {t0_2:List UInt8} {t0_3:List S_laws_Pat} {t1_0:Int} {r:Int},p t0_0 t0_1 t0_2 t0_3 t1_0=some r→Big Try.prog τ An (.fn 192 [.one (.ag [.int .i64 t0_0, .int .i64 t0_1, .str t0_2, .sl (t0_3.map rS_laws_Pat)]), .one (.c (.int .i64 t1_0))] [] (.one (.c (.int .i64 r))) none [] none)
abbrev Y_laws_szPatS:Type:=(List S_laws_Pat)→Int→Option (Int)
abbrev B_laws_szPatS(p:Y_laws_szPatS):Prop:= ∀ {t0_0:List S_laws_Pat} {t1_0:Int} {r:Int},p t0_0 t1_0=some r→Big Try.prog τ An (.fn 101 [.one (.c (.sl (t0_0.map rS_laws_Pat))), .one (.c (.int .i64 t1_0))] [] (.one (.c (.int .i64 r))) none [] none)
def s_laws_szPat(n:Nat)(r_laws_szPatS:Y_laws_szPatS)(r_laws_szPat:Y_laws_szPat)(t0_0:Int)(t0_1:Int)(t0_2:List UInt8)(t0_3:List S_laws_Pat)(t1_0:Int):Option (Int):=
  bif decide ((IntKind.wrap .i64 (t1_0 - (t0_2.length:Int)))<(0:Int))then some ((-1):Int)else(r_laws_szPatS t0_3 (IntKind.wrap .i64 (t1_0 - (t0_2.length:Int)))).bind fun c15_2=>bif decide (c15_2<(0:Int))then some ((-1):Int)else some c15_2
theorem step_laws_szPat{n:Nat}{r_laws_szPatS:Y_laws_szPatS}(ih_laws_szPatS:B_laws_szPatS r_laws_szPatS){r_laws_szPat:Y_laws_szPat}(ih_laws_szPat:B_laws_szPat r_laws_szPat):B_laws_szPat (s_laws_szPat n r_laws_szPatS r_laws_szPat):=by
 intro t0_0 t0_1 t0_2 t0_3 t1_0 r h
 unfold s_laws_szPat at h
 refine bF Try.func192 rfl rfl<|cRs<|xBx rfl<|xAs rfl<|oRs<|xMv rfl<|xFd rfl<|xLd rfl<|xLs rfl<|xSub rfl<|xAs rfl<|oNl<|cSq<|cRs ?_
 refine xMv rfl<|xLt rfl<|oNl<|cIf h rfl (fun q1 h=> ?_) (fun q1 h=> ?_)
 refine cRs<|xAs rfl<|oNl<|cRt ?_
 cases h
 exact eR rfl rfl rfl rfl
 refine cSk<|cRs<|xFd rfl<|xLd rfl<|xMv rfl<|xC0 h (ih_laws_szPatS ·) rfl (fun c15_2 h=> ?_)
 refine xAs rfl<|oNl<|cSq<|cRs<|xMv rfl<|xLt rfl<|oNl<|cIf h rfl (fun q3 h=> ?_) (fun q3 h=> ?_)
 refine cRs<|xAs rfl<|oNl<|cRt ?_
 cases h
 exact eR rfl rfl rfl rfl
 refine cSk<|cRs<|xMv rfl<|xAs rfl<|oNl<|cRt ?_
 cases h
 exact eR rfl rfl rfl rfl
def p_laws_szPatS_b1(n:Nat)(r_laws_szPat:Y_laws_szPat)(t0_0:List S_laws_Pat):(Int×Int)→Option ((Int×Int)⊕((Int)⊕(Int×Int×Bool)))
  | (v1_2,v5_3)=>bif decide (v5_3<(t0_0.length:Int))then(ix t0_0 v5_3).bind fun e20_9=>(r_laws_szPat e20_9.f0 e20_9.f1 e20_9.f2 e20_9.f3 v1_2).bind fun c23_10=>bif decide (c23_10<(0:Int))then some (.inr (.inl ((-1):Int)))else some (.inl (c23_10,(IntKind.wrap .i64 (v5_3+(1:Int)))))else some (.inr (.inr (v1_2,v5_3,false)))
def s_laws_szPatS(n:Nat)(r_laws_szPatS:Y_laws_szPatS)(r_laws_szPat:Y_laws_szPat)(t0_0:List S_laws_Pat)(t1_0:Int):Option (Int):=
  bif decide ((IntKind.wrap .i64 (t1_0 - (t0_0.length:Int)))<(0:Int))then some ((-1):Int)else(loopN (p_laws_szPatS_b1 n r_laws_szPat t0_0) n ((IntKind.wrap .i64 (t1_0 - (t0_0.length:Int))),(0:Int))).bind fun q=>(match q with | .inl v4_4=>some v4_4 | .inr (v1_5,v5_6,v15_7)=>some v1_5)
theorem step_laws_szPatS{n:Nat}{r_laws_szPatS:Y_laws_szPatS}(ih_laws_szPatS:B_laws_szPatS r_laws_szPatS){r_laws_szPat:Y_laws_szPat}(ih_laws_szPat:B_laws_szPat r_laws_szPat):B_laws_szPatS (s_laws_szPatS n r_laws_szPatS r_laws_szPat):=by
 intro t0_0 t1_0 r h
 unfold s_laws_szPatS at h
 refine bF Try.func101 rfl rfl<|cRs<|xAs rfl<|oRs<|xMv rfl<|xMv rfl<|xLn rfl<|xSub rfl<|xAs rfl<|oNl<|cSq<|cRs<|xMv rfl<|xLt rfl ?_
 refine oNl<|cIf h rfl (fun q1 h=> ?_) (fun q1 h=> ?_)
 refine cRs<|xAs rfl<|oNl<|cRt ?_
 cases h
 exact eR rfl rfl rfl rfl
 refine cSk<|cSq<|cRs<|xAs rfl<|oNl<|cLp h [(1,1),(4,5),(12,25)] [] (fun(v1_2,v5_3)=>([(1,I64 v1_2),(5,I64 v5_3)],[])) (fun q=>match q with | .inl v4_4=>(.r,[(4,I64 v4_4)],[]) | .inr (v1_5,v5_6,v15_7)=>(.e 0,[(1,I64 v1_5),(5,I64 v5_6),(15,Bo v15_7)],[])) rfl (fun st _ h=> ?_) (fun q h=> ?_)
 obtain⟨v1_2,v5_3⟩:=st
 unfold p_laws_szPatS_b1 at h
 refine cSq<|cRs<|xMv rfl<|xMv rfl<|xLn rfl<|xLt rfl<|oNl<|cIf h rfl (fun q8 h=> ?_) (fun q8 h=> ?_)
 refine cSk<|cSq<|cBk<|cRs<|xMv rfl<|xMv rfl<|xIx h rS_laws_Pat_eq rfl (fun e20_9 h=> ?_)
 refine xLd rfl<|xMv rfl<|xC0 h (ih_laws_szPat ·) rfl (fun c23_10 h=> ?_)
 refine xAs rfl<|oRs<|xMv rfl<|xLt rfl<|oNl<|cIf h rfl (fun q11 h=> ?_) (fun q11 h=> ?_)
 exact cRs<|xAs rfl<|oNl<|cRt<|eXr h rfl
 exact cSk<|cRg<|xMv rfl<|xAdd rfl<|xAs rfl<|oNl<|eL h rfl
 exact cEx<|eX h rfl
 rcases q with v4_4 | ⟨v1_5,v5_6,v15_7⟩
 cases h
 exact eR rfl rfl rfl rfl
 refine cRs<|xMv rfl<|xAs rfl<|oNl<|cRt ?_
 cases h
 exact eR rfl rfl rfl rfl
def q_laws_szPatS:Nat→(Y_laws_szPatS)×(Y_laws_szPat)
  | 0=>((fun _ _=>none),(fun _ _ _ _ _=>none))
  | n+1=>(s_laws_szPatS n ((q_laws_szPatS n).1) ((q_laws_szPatS n).2),s_laws_szPat n ((q_laws_szPatS n).1) ((q_laws_szPatS n).2))
def p_laws_szPatS(n:Nat):Y_laws_szPatS:=(q_laws_szPatS n).1
def p_laws_szPat(n:Nat):Y_laws_szPat:=(q_laws_szPatS n).2
theorem bigs_laws_szPatS(n:Nat):B_laws_szPatS (p_laws_szPatS n)∧B_laws_szPat (p_laws_szPat n):=by
  induction n with
  | zero=>exact⟨(fun h=>nomatch h),(fun h=>nomatch h)⟩
  | succ n ih=>exact⟨step_laws_szPatS (n:=n) (ih.1) (ih.2),step_laws_szPat (n:=n) (ih.1) (ih.2)⟩
theorem big_laws_szPatS{n:Nat}:B_laws_szPatS (p_laws_szPatS n):=(bigs_laws_szPatS n).1
theorem big_laws_szPat{n:Nat}:B_laws_szPat (p_laws_szPat n):=(bigs_laws_szPatS n).2
theorem p_laws_szPatS_succ(n:Nat):p_laws_szPatS (n+1)=s_laws_szPatS n (p_laws_szPatS n) (p_laws_szPat n):=rfl
theorem p_laws_szPat_succ(n:Nat):p_laws_szPat (n+1)=s_laws_szPat n (p_laws_szPatS n) (p_laws_szPat n):=rfl
abbrev B_laws_szCode(p:(List S_laws_Fn)→(List S_laws_Pat)→Int→Option (Int)):Prop:= ∀ {t0_0:List S_laws_Fn} {t0_1:List S_laws_Pat} {t1_0:Int} {r:Int},p t0_0 t0_1 t1_0=some r→Big Try.prog τ An (.fn 31 [.one (.ag [.sl (t0_0.map rS_laws_Fn), .sl (t0_1.map rS_laws_Pat)]), .one (.c (.int .i64 t1_0))] [] (.one (.c (.int .i64 r))) none [] none)
def p_laws_szCode(n:Nat)(t0_0:List S_laws_Fn)(t0_1:List S_laws_Pat)(t1_0:Int):Option (Int):=
  (p_laws_szFnS n t0_0 t1_0).bind fun c8_1=>bif decide (c8_1<(0:Int))then some ((-1):Int)else(p_laws_szPatS n t0_1 c8_1).bind fun c14_3=>bif decide (c14_3<(0:Int))then some ((-1):Int)else some c14_3
theorem big_laws_szCode{n:Nat}:B_laws_szCode (p_laws_szCode n):=by
 intro t0_0 t0_1 t1_0 r h
 unfold p_laws_szCode at h
 refine bF Try.func31 rfl rfl<|cRs<|xBx rfl<|xAs rfl<|oRs<|xFd rfl<|xLd rfl<|xMv rfl<|xC0 h (big_laws_szFnS ·) rfl (fun c8_1 h=> ?_)
 refine xAs rfl<|oNl<|cSq<|cRs<|xMv rfl<|xLt rfl<|oNl<|cIf h rfl (fun q2 h=> ?_) (fun q2 h=> ?_)
 refine cRs<|xAs rfl<|oNl<|cRt ?_
 cases h
 exact eR rfl rfl rfl rfl
 refine cSk<|cRs<|xFd rfl<|xLd rfl<|xMv rfl<|xC0 h (big_laws_szPatS ·) rfl (fun c14_3 h=> ?_)
 refine xAs rfl<|oNl<|cSq<|cRs<|xMv rfl<|xLt rfl<|oNl<|cIf h rfl (fun q4 h=> ?_) (fun q4 h=> ?_)
 refine cRs<|xAs rfl<|oNl<|cRt ?_
 cases h
 exact eR rfl rfl rfl rfl
 refine cSk<|cRs<|xMv rfl<|xAs rfl<|oNl<|cRt ?_
 cases h
 exact eR rfl rfl rfl rfl
abbrev B_spec_l1In(p:Int→Int→Int→Option (Bool)):Prop:= ∀ {t0_0 t1_0 t2_0:Int} {r:Bool},p t0_0 t1_0 t2_0=some r→Big Try.prog τ An (.fn 230 [.one (.c (.int .i64 t0_0)), .one (.c (.int .i64 t1_0)), .one (.c (.int .i64 t2_0))] [] (.one (.c (.bool r))) none [] none)
def p_spec_l1In(n:Nat)(t0_0:Int)(t1_0:Int)(t2_0:Int):Option (Bool):=
  (bif decide (t1_0≤t0_0)then some (decide (t0_0≤t2_0))else some false).bind fun v6_1=>some v6_1
theorem big_spec_l1In{n:Nat}:B_spec_l1In (p_spec_l1In n):=by
 intro t0_0 t1_0 t2_0 r h
 unfold p_spec_l1In at h
 refine bF Try.func230 rfl rfl<|cRs<|xAs rfl<|oRs<|oJn h [(6,14)] [] (fun v6_1=>(.n,[(6,Bo v6_1)],[])) (fun _ h=> ?_) (fun v6_1 h=> ?_)
 refine xMv rfl<|xMv rfl<|xGe rfl<|xMv rfl<|oIf 10 h rfl (fun q2 h=> ?_) (fun q2 h=> ?_)
 exact xMv rfl<|xMv rfl<|xLe rfl<|xPk rfl<|xAs rfl<|oNl<|eJ h rfl
 exact wSk rfl<|wSk rfl<|wSk rfl<|xPk rfl<|xAs rfl<|oNl<|eJ h rfl
 refine cRt ?_
 cases h
 exact eR rfl rfl rfl rfl
abbrev B_spec_AtomOk(p:(List UInt8)→Option (Bool)):Prop:= ∀ {t0_0:List UInt8} {r:Bool},p t0_0=some r→Big Try.prog τ An (.fn 155 [.one (.c (.str t0_0))] [] (.one (.c (.bool r))) none [] none)
def p_spec_AtomOk_b1(n:Nat)(t0_0:List UInt8):(Int)→Option ((Int)⊕((Bool)⊕(Int×Bool)))
  | v3_1=>bif decide (v3_1<(t0_0.length:Int))then(ixs t0_0 v3_1).bind fun e14_6=>(p_spec_l1In n (IntKind.wrap .i64 e14_6) (97:Int) (122:Int)).bind fun c17_7=>(bif !c17_7 then bif decide (v3_1=(0:Int))then some true else(p_spec_l1In n (IntKind.wrap .i64 e14_6) (48:Int) (57:Int)).bind fun c25_11=>bif !c25_11 then some (!decide ((IntKind.wrap .i64 e14_6)=(95:Int)))else some false else some false).bind fun v32_8=>bif v32_8 then some (.inr (.inl false))else some (.inl (IntKind.wrap .i64 (v3_1+(1:Int))))else some (.inr (.inr (v3_1,false)))
def p_spec_AtomOk(n:Nat)(t0_0:List UInt8):Option (Bool):=
  (loopN (p_spec_AtomOk_b1 n t0_0) n (0:Int)).bind fun q=>(match q with | .inl v2_2=>some v2_2 | .inr (v3_3,v9_4)=>(p_spec_l1In n (t0_0.length:Int) (1:Int) (20:Int)).bind fun c35_14=>some c35_14)
theorem big_spec_AtomOk{n:Nat}:B_spec_AtomOk (p_spec_AtomOk n):=by
 intro t0_0 r h
 unfold p_spec_AtomOk at h
 refine bF Try.func155 rfl rfl<|cRs<|xAs rfl<|oNl<|cSq<|cRs<|xAs rfl<|oNl<|cLp h [(2,32)] [] (fun v3_1=>([(3,I64 v3_1)],[])) (fun q=>match q with | .inl v2_2=>(.r,[(2,Bo v2_2)],[]) | .inr (v3_3,v9_4)=>(.e 0,[(3,I64 v3_3),(9,Bo v9_4)],[])) rfl (fun v3_1 _ h=> ?_) (fun q h=> ?_)
 unfold p_spec_AtomOk_b1 at h
 refine cSq<|cRs<|xMv rfl<|xMv rfl<|xLs rfl<|xLt rfl<|oNl<|cIf h rfl (fun q5 h=> ?_) (fun q5 h=> ?_)
 refine cSk<|cSq<|cBk<|cRs<|xMv rfl<|xMv rfl<|wIxs h rfl rfl rfl rfl rfl (fun e14_6 h=> ?_)
 refine wCv rfl rfl rfl rfl rfl<|xAs rfl<|oRs<|xMv rfl<|xC0 h (big_spec_l1In ·) rfl (fun c17_7 h=> ?_)
 refine xAs rfl<|oRs<|oJn h [(18,32)] [] (fun v32_8=>(.n,[(32,Bo v32_8)],[])) (fun _ h=> ?_) (fun v32_8 h=> ?_)
 refine xMv rfl<|xNot rfl<|xMv rfl<|oIf 20 h rfl (fun q9 h=> ?_) (fun q9 h=> ?_)
 refine xMv rfl<|xEq rfl<|xMv rfl<|oIf 23 h rfl (fun q10 h=> ?_) (fun q10 h=> ?_)
 exact wSk rfl<|wSk rfl<|wSk rfl<|wSk rfl<|wSk rfl<|wSk rfl<|wSk rfl<|xPk rfl<|xPk rfl<|oNl<|eJ h rfl
 refine xMv rfl<|xC0 h (big_spec_l1In ·) rfl (fun c25_11 h=> ?_)
 refine xNot rfl<|xMv rfl<|oIf 27 h rfl (fun q12 h=> ?_) (fun q12 h=> ?_)
 exact xMv rfl<|xNe rfl<|xPk rfl<|xPk rfl<|xPk rfl<|oNl<|eJ h rfl
 exact wSk rfl<|wSk rfl<|xPk rfl<|xPk rfl<|xPk rfl<|oNl<|eJ h rfl
 exact wSk rfl<|wSk rfl<|wSk rfl<|wSk rfl<|wSk rfl<|wSk rfl<|wSk rfl<|wSk rfl<|wSk rfl<|wSk rfl<|wSk rfl<|xPk rfl<|oNl<|eJ h rfl
 refine cIf h rfl (fun q13 h=> ?_) (fun q13 h=> ?_)
 exact cRs<|xAs rfl<|oNl<|cRt<|eXr h rfl
 exact cSk<|cRg<|xMv rfl<|xAdd rfl<|xAs rfl<|oNl<|eL h rfl
 exact cEx<|eX h rfl
 rcases q with v2_2 | ⟨v3_3,v9_4⟩
 cases h
 exact eR rfl rfl rfl rfl
 refine cRs<|xMv rfl<|xLs rfl<|xC0 h (big_spec_l1In ·) rfl (fun c35_14 h=> ?_)
 refine xAs rfl<|oNl<|cRt ?_
 cases h
 exact eR rfl rfl rfl rfl
abbrev B_spec_l4Reserved(p:(List UInt8)→Option (Bool)):Prop:= ∀ {t0_0:List UInt8} {r:Bool},p t0_0=some r→Big Try.prog τ An (.fn 220 [.one (.c (.str t0_0))] [] (.one (.c (.bool r))) none [] none)
def p_spec_l4Reserved(n:Nat)(t0_0:List UInt8):Option (Bool):=
  (bif decide (t0_0=([99,97,115,101]:List UInt8))then some true else bif decide (t0_0=([111,102]:List UInt8))then some true else some (decide (t0_0=([101,110,100]:List UInt8)))).bind fun v2_1=>some v2_1
theorem big_spec_l4Reserved{n:Nat}:B_spec_l4Reserved (p_spec_l4Reserved n):=by
 intro t0_0 r h
 unfold p_spec_l4Reserved at h
 refine bF Try.func220 rfl rfl<|cRs<|xAs rfl<|oRs<|oJn h [(2,12)] [] (fun v2_1=>(.n,[(2,Bo v2_1)],[])) (fun _ h=> ?_) (fun v2_1 h=> ?_)
 refine xMv rfl<|xEs rfl<|xMv rfl<|oIf 5 h rfl (fun q2 h=> ?_) (fun q2 h=> ?_)
 exact wSk rfl<|wSk rfl<|xPk rfl<|xMv rfl<|wSk rfl<|wSk rfl<|xPk rfl<|xAs rfl<|oNl<|eJ h rfl
 refine xMv rfl<|xEs rfl<|xPk rfl<|xMv rfl<|oIf 9 h rfl (fun q3 h=> ?_) (fun q3 h=> ?_)
 exact wSk rfl<|wSk rfl<|xPk rfl<|xAs rfl<|oNl<|eJ h rfl
 exact xMv rfl<|xEs rfl<|xPk rfl<|xAs rfl<|oNl<|eJ h rfl
 refine cRt ?_
 cases h
 exact eR rfl rfl rfl rfl
abbrev B_spec_l4Atom(p:(List UInt8)→Option (Bool)):Prop:= ∀ {t0_0:List UInt8} {r:Bool},p t0_0=some r→Big Try.prog τ An (.fn 134 [.one (.c (.str t0_0))] [] (.one (.c (.bool r))) none [] none)
def p_spec_l4Atom(n:Nat)(t0_0:List UInt8):Option (Bool):=
  ((p_spec_AtomOk n t0_0).bind fun c4_2=>bif c4_2 then(p_spec_l4Reserved n t0_0).bind fun c7_4=>some (!c7_4)else some false).bind fun v2_1=>some v2_1
theorem big_spec_l4Atom{n:Nat}:B_spec_l4Atom (p_spec_l4Atom n):=by
 intro t0_0 r h
 unfold p_spec_l4Atom at h
 refine bF Try.func134 rfl rfl<|cRs<|xAs rfl<|oRs<|oJn h [(2,9)] [] (fun v2_1=>(.n,[(2,Bo v2_1)],[])) (fun _ h=> ?_) (fun v2_1 h=> ?_)
 refine xMv rfl<|xC0 h (big_spec_AtomOk ·) rfl (fun c4_2 h=> ?_)
 refine xMv rfl<|oIf 5 h rfl (fun q3 h=> ?_) (fun q3 h=> ?_)
 refine xMv rfl<|xC0 h (big_spec_l4Reserved ·) rfl (fun c7_4 h=> ?_)
 exact xNot rfl<|xPk rfl<|xAs rfl<|oNl<|eJ h rfl
 exact wSk rfl<|wSk rfl<|wSk rfl<|xPk rfl<|xAs rfl<|oNl<|eJ h rfl
 refine cRt ?_
 cases h
 exact eR rfl rfl rfl rfl
abbrev B_spec_l9FnAt(p:(List S_impl_Fn)→(List S_impl_Pat)→(List UInt8)→Option (Int)):Prop:= ∀ {t0_0:List S_impl_Fn} {t0_1:List S_impl_Pat} {t1_0:List UInt8} {r:Int},p t0_0 t0_1 t1_0=some r→Big Try.prog τ An (.fn 257 [.one (.ag [.sl (t0_0.map rS_impl_Fn), .sl (t0_1.map rS_impl_Pat)]), .one (.c (.str t1_0))] [] (.one (.c (.int .i64 r))) none [] none)
def p_spec_l9FnAt_b1(n:Nat)(t0_0:List S_impl_Fn)(t1_0:List UInt8):(Int)→Option ((Int)⊕((Int)⊕(Int×Bool)))
  | v5_1=>bif decide (v5_1<(t0_0.length:Int))then(ix t0_0 v5_1).bind fun e16_6=>bif decide (e16_6.f0=t1_0)then some (.inr (.inl v5_1))else some (.inl (IntKind.wrap .i64 (v5_1+(1:Int))))else some (.inr (.inr (v5_1,false)))
def p_spec_l9FnAt(n:Nat)(t0_0:List S_impl_Fn)(t0_1:List S_impl_Pat)(t1_0:List UInt8):Option (Int):=
  (loopN (p_spec_l9FnAt_b1 n t0_0 t1_0) n (0:Int)).bind fun q=>(match q with | .inl v4_2=>some v4_2 | .inr (v5_3,v10_4)=>some ((-1):Int))
theorem big_spec_l9FnAt{n:Nat}:B_spec_l9FnAt (p_spec_l9FnAt n):=by
 intro t0_0 t0_1 t1_0 r h
 unfold p_spec_l9FnAt at h
 refine bF Try.func257 rfl rfl<|cRs<|xBx rfl<|xAs rfl<|oNl<|cSq<|cRs<|xAs rfl<|oNl<|cLp h [(4,21)] [] (fun v5_1=>([(5,I64 v5_1)],[])) (fun q=>match q with | .inl v4_2=>(.r,[(4,I64 v4_2)],[]) | .inr (v5_3,v10_4)=>(.e 0,[(5,I64 v5_3),(10,Bo v10_4)],[])) rfl (fun v5_1 _ h=> ?_) (fun q h=> ?_)
 unfold p_spec_l9FnAt_b1 at h
 refine cSq<|cRs<|xMv rfl<|xFd rfl<|xLd rfl<|xLn rfl<|xLt rfl<|oNl<|cIf h rfl (fun q5 h=> ?_) (fun q5 h=> ?_)
 refine cSk<|cSq<|cBk<|cRs<|xFd rfl<|xLd rfl<|xMv rfl<|xIx h rS_impl_Fn_eq rfl (fun e16_6 h=> ?_)
 refine xFd rfl<|xLd rfl<|xMv rfl<|xEs rfl<|oNl<|cIf h rfl (fun q7 h=> ?_) (fun q7 h=> ?_)
 exact cRs<|xMv rfl<|xAs rfl<|oNl<|cRt<|eXr h rfl
 exact cSk<|cRg<|xMv rfl<|xAdd rfl<|xAs rfl<|oNl<|eL h rfl
 exact cEx<|eX h rfl
 rcases q with v4_2 | ⟨v5_3,v10_4⟩
 cases h
 exact eR rfl rfl rfl rfl
 refine cRs<|xAs rfl<|oNl<|cRt ?_
 cases h
 exact eR rfl rfl rfl rfl
abbrev B_spec_l9Shape(p:Int→Int→(List UInt8)→(List S_impl_Pat)→Int→Option (Bool)):Prop:= ∀ {t0_0 t0_1:Int} {t0_2:List UInt8} {t0_3:List S_impl_Pat} {t1_0:Int} {r:Bool},p t0_0 t0_1 t0_2 t0_3 t1_0=some r→Big Try.prog τ An (.fn 291 [.one (.ag [.int .i64 t0_0, .int .i64 t0_1, .str t0_2, .sl (t0_3.map rS_impl_Pat)]), .one (.c (.int .i64 t1_0))] [] (.one (.c (.bool r))) none [] none)
def p_spec_l9Shape(n:Nat)(t0_0:Int)(t0_1:Int)(t0_2:List UInt8)(t0_3:List S_impl_Pat)(t1_0:Int):Option (Bool):=
  bif decide (t0_0=(1:Int))then((p_spec_l1In n t0_1 (0:Int) (1000000000000:Int)).bind fun c15_3=>bif c15_3 then bif decide (t0_2=([]:List UInt8))then some (decide ((t0_3.length:Int)=(0:Int)))else some false else some false).bind fun v4_2=>some v4_2 else bif decide (t0_0=(2:Int))then((p_spec_l4Atom n t0_2).bind fun c29_8=>bif c29_8 then bif decide (t0_1=(0:Int))then some (decide ((t0_3.length:Int)=(0:Int)))else some false else some false).bind fun v4_7=>some v4_7 else bif decide (t0_0=(3:Int))then(bif decide (t0_2=([]:List UInt8))then bif decide ((t0_3.length:Int)=(0:Int))then(p_spec_l1In n t0_1 ((-1):Int) (IntKind.wrap .i64 (t1_0 - (1:Int)))).bind fun c53_15=>some c53_15 else some false else some false).bind fun v4_12=>some v4_12 else bif decide (t0_0=(4:Int))then(bif decide (t0_2=([]:List UInt8))then bif decide (t0_1=(0:Int))then some (decide ((t0_3.length:Int)≤(20:Int)))else some false else some false).bind fun v4_17=>some v4_17 else bif decide (t0_0=(5:Int))then(bif decide (t0_2=([]:List UInt8))then bif decide (t0_1=(0:Int))then some (decide ((t0_3.length:Int)≤(20:Int)))else some false else some false).bind fun v4_21=>some v4_21 else bif decide (t0_0=(6:Int))then(bif decide (t0_2=([]:List UInt8))then bif decide (t0_1=(0:Int))then(p_spec_l1In n (t0_3.length:Int) (2:Int) (6:Int)).bind fun c82_28=>some c82_28 else some false else some false).bind fun v4_25=>some v4_25 else some false
theorem big_spec_l9Shape{n:Nat}:B_spec_l9Shape (p_spec_l9Shape n):=by
 intro t0_0 t0_1 t0_2 t0_3 t1_0 r h
 unfold p_spec_l9Shape at h
 refine bF Try.func291 rfl rfl<|cRs<|xBx rfl<|xAs rfl<|oRs<|xFd rfl<|xLd rfl<|xLn rfl<|xAs rfl<|oNl<|cSq<|cRs<|xFd rfl<|xLd rfl ?_
 refine oNl<|cBk<|cRs<|xEq rfl<|xAs rfl<|oNl<|cIf h rfl (fun q1 h=> ?_) (fun q1 h=> ?_)
 refine cRs<|oJn h [(4,4),(13,24)] [] (fun v4_2=>(.n,[(4,Bo v4_2)],[])) (fun _ h=> ?_) (fun v4_2 h=> ?_)
 refine xFd rfl<|xLd rfl<|xC0 h (big_spec_l1In ·) rfl (fun c15_3 h=> ?_)
 refine xMv rfl<|oIf 16 h rfl (fun q4 h=> ?_) (fun q4 h=> ?_)
 refine xFd rfl<|xLd rfl<|xEs rfl<|xPk rfl<|xMv rfl<|oIf 21 h rfl (fun q5 h=> ?_) (fun q5 h=> ?_)
 exact xMv rfl<|xEq rfl<|xPk rfl<|xAs rfl<|oNl<|eJ h rfl
 exact wSk rfl<|wSk rfl<|xPk rfl<|xAs rfl<|oNl<|eJ h rfl
 exact wSk rfl<|wSk rfl<|wSk rfl<|xPk rfl<|xMv rfl<|wSk rfl<|wSk rfl<|xPk rfl<|xAs rfl<|oNl<|eJ h rfl
 refine cRt ?_
 cases h
 exact eR rfl rfl rfl rfl
 refine cRs<|xEq rfl<|xAs rfl<|oNl<|cIf h rfl (fun q6 h=> ?_) (fun q6 h=> ?_)
 refine cRs<|oJn h [(4,4),(27,38)] [] (fun v4_7=>(.n,[(4,Bo v4_7)],[])) (fun _ h=> ?_) (fun v4_7 h=> ?_)
 refine xFd rfl<|xLd rfl<|xC0 h (big_spec_l4Atom ·) rfl (fun c29_8 h=> ?_)
 refine xMv rfl<|oIf 30 h rfl (fun q9 h=> ?_) (fun q9 h=> ?_)
 refine xFd rfl<|xLd rfl<|xEq rfl<|xPk rfl<|xMv rfl<|oIf 35 h rfl (fun q10 h=> ?_) (fun q10 h=> ?_)
 exact xMv rfl<|xEq rfl<|xPk rfl<|xAs rfl<|oNl<|eJ h rfl
 exact wSk rfl<|wSk rfl<|xPk rfl<|xAs rfl<|oNl<|eJ h rfl
 exact wSk rfl<|wSk rfl<|wSk rfl<|xPk rfl<|xMv rfl<|wSk rfl<|wSk rfl<|xPk rfl<|xAs rfl<|oNl<|eJ h rfl
 refine cRt ?_
 cases h
 exact eR rfl rfl rfl rfl
 refine cRs<|xEq rfl<|xAs rfl<|oNl<|cIf h rfl (fun q11 h=> ?_) (fun q11 h=> ?_)
 refine cRs<|oJn h [(4,4),(41,54)] [] (fun v4_12=>(.n,[(4,Bo v4_12)],[])) (fun _ h=> ?_) (fun v4_12 h=> ?_)
 refine xFd rfl<|xLd rfl<|xEs rfl<|xMv rfl<|oIf 44 h rfl (fun q13 h=> ?_) (fun q13 h=> ?_)
 refine xMv rfl<|xEq rfl<|xPk rfl<|xMv rfl<|oIf 48 h rfl (fun q14 h=> ?_) (fun q14 h=> ?_)
 refine xFd rfl<|xLd rfl<|xMv rfl<|xSub rfl<|xC0 h (big_spec_l1In ·) rfl (fun c53_15 h=> ?_)
 exact xPk rfl<|xAs rfl<|oNl<|eJ h rfl
 exact wSk rfl<|wSk rfl<|wSk rfl<|wSk rfl<|wSk rfl<|xPk rfl<|xAs rfl<|oNl<|eJ h rfl
 exact wSk rfl<|wSk rfl<|xPk rfl<|xMv rfl<|wSk rfl<|wSk rfl<|wSk rfl<|wSk rfl<|wSk rfl<|xPk rfl<|xAs rfl<|oNl<|eJ h rfl
 refine cRt ?_
 cases h
 exact eR rfl rfl rfl rfl
 refine cSq<|cRs<|xEq rfl<|xAs rfl<|oNl<|cIf h rfl (fun q16 h=> ?_) (fun q16 h=> ?_)
 refine cSk<|cT rfl<|cRs<|oJn h [(4,4),(58,69)] [] (fun v4_17=>(.n,[(4,Bo v4_17)],[])) (fun _ h=> ?_) (fun v4_17 h=> ?_)
 refine xFd rfl<|xLd rfl<|xEs rfl<|xMv rfl<|oIf 61 h rfl (fun q18 h=> ?_) (fun q18 h=> ?_)
 refine xFd rfl<|xLd rfl<|xEq rfl<|xPk rfl<|xMv rfl<|oIf 66 h rfl (fun q19 h=> ?_) (fun q19 h=> ?_)
 exact xMv rfl<|xLe rfl<|xPk rfl<|xAs rfl<|oNl<|eJ h rfl
 exact wSk rfl<|wSk rfl<|xPk rfl<|xAs rfl<|oNl<|eJ h rfl
 exact wSk rfl<|wSk rfl<|wSk rfl<|xPk rfl<|xMv rfl<|wSk rfl<|wSk rfl<|xPk rfl<|xAs rfl<|oNl<|eJ h rfl
 refine cRt ?_
 cases h
 exact eR rfl rfl rfl rfl
 refine cRg<|xEq rfl<|xAs rfl<|oNl<|cIf h rfl (fun q20 h=> ?_) (fun q20 h=> ?_)
 refine cRs<|oJn h [(4,4),(58,69)] [] (fun v4_21=>(.n,[(4,Bo v4_21)],[])) (fun _ h=> ?_) (fun v4_21 h=> ?_)
 refine xFd rfl<|xLd rfl<|xEs rfl<|xMv rfl<|oIf 61 h rfl (fun q22 h=> ?_) (fun q22 h=> ?_)
 refine xFd rfl<|xLd rfl<|xEq rfl<|xPk rfl<|xMv rfl<|oIf 66 h rfl (fun q23 h=> ?_) (fun q23 h=> ?_)
 exact xMv rfl<|xLe rfl<|xPk rfl<|xAs rfl<|oNl<|eJ h rfl
 exact wSk rfl<|wSk rfl<|xPk rfl<|xAs rfl<|oNl<|eJ h rfl
 exact wSk rfl<|wSk rfl<|wSk rfl<|xPk rfl<|xMv rfl<|wSk rfl<|wSk rfl<|xPk rfl<|xAs rfl<|oNl<|eJ h rfl
 refine cRt ?_
 cases h
 exact eR rfl rfl rfl rfl
 refine cRs<|xEq rfl<|xAs rfl<|oNl<|cIf h rfl (fun q24 h=> ?_) (fun q24 h=> ?_)
 refine cRs<|oJn h [(4,4),(72,83)] [] (fun v4_25=>(.n,[(4,Bo v4_25)],[])) (fun _ h=> ?_) (fun v4_25 h=> ?_)
 refine xFd rfl<|xLd rfl<|xEs rfl<|xMv rfl<|oIf 75 h rfl (fun q26 h=> ?_) (fun q26 h=> ?_)
 refine xFd rfl<|xLd rfl<|xEq rfl<|xPk rfl<|xMv rfl<|oIf 80 h rfl (fun q27 h=> ?_) (fun q27 h=> ?_)
 refine xMv rfl<|xC0 h (big_spec_l1In ·) rfl (fun c82_28 h=> ?_)
 exact xPk rfl<|xAs rfl<|oNl<|eJ h rfl
 exact wSk rfl<|wSk rfl<|xPk rfl<|xAs rfl<|oNl<|eJ h rfl
 exact wSk rfl<|wSk rfl<|wSk rfl<|xPk rfl<|xMv rfl<|wSk rfl<|wSk rfl<|xPk rfl<|xAs rfl<|oNl<|eJ h rfl
 refine cRt ?_
 cases h
 exact eR rfl rfl rfl rfl
 refine cSk<|cRs<|xAs rfl<|oNl<|cRt ?_
 cases h
 exact eR rfl rfl rfl rfl
abbrev Y_spec_l9Look:Type:=Int→Int→(List UInt8)→(List S_impl_Pat)→Int→Int→Int→Option (Int)
abbrev B_spec_l9Look(p:Y_spec_l9Look):Prop:= ∀ {t0_0 t0_1:Int} {t0_2:List UInt8} {t0_3:List S_impl_Pat} {t1_0 t2_0 t3_0:Int} {r:Int},p t0_0 t0_1 t0_2 t0_3 t1_0 t2_0 t3_0=some r→Big Try.prog τ An (.fn 260 [.one (.ag [.int .i64 t0_0, .int .i64 t0_1, .str t0_2, .sl (t0_3.map rS_impl_Pat)]), .one (.c (.int .i64 t1_0)), .one (.c (.int .i64 t2_0)), .one (.c (.int .i64 t3_0))] [] (.one (.c (.int .i64 r))) none [] none)
def p_spec_l9Look_b1(n:Nat)(r_spec_l9Look:Y_spec_l9Look)(t1_0:Int)(t2_0:Int)(t0_3:List S_impl_Pat):(Int×Int)→Option ((Int×Int)⊕((Int×Int×Bool)))
  | (v3_6,v9_7)=>(bif decide (v9_7<(t0_3.length:Int))then some (decide ((0:Int)≤v3_6))else some false).bind fun v32_11=>bif v32_11 then(ix t0_3 v9_7).bind fun e38_14=>(r_spec_l9Look e38_14.f0 e38_14.f1 e38_14.f2 e38_14.f3 t1_0 (IntKind.wrap .i64 (t2_0 - (1:Int))) v3_6).bind fun c44_15=>some (.inl (c44_15,(IntKind.wrap .i64 (v9_7+(1:Int)))))else some (.inr (v3_6,v9_7,false))
def s_spec_l9Look(n:Nat)(r_spec_l9Look:Y_spec_l9Look)(t0_0:Int)(t0_1:Int)(t0_2:List UInt8)(t0_3:List S_impl_Pat)(t1_0:Int)(t2_0:Int)(t3_0:Int):Option (Int):=
  (bif decide (t2_0<(1:Int))then some true else bif decide (t3_0<(1:Int))then some true else(p_spec_l9Shape n t0_0 t0_1 t0_2 t0_3 t1_0).bind fun c19_4=>some (!c19_4)).bind fun v21_1=>bif v21_1 then some ((-1):Int)else(loopN (p_spec_l9Look_b1 n r_spec_l9Look t1_0 t2_0 t0_3) n ((IntKind.wrap .i64 (t3_0 - (1:Int))),(0:Int))).bind fun(v3_8,v9_9,v32_10)=>some v3_8
theorem step_spec_l9Look{n:Nat}{r_spec_l9Look:Y_spec_l9Look}(ih_spec_l9Look:B_spec_l9Look r_spec_l9Look):B_spec_l9Look (s_spec_l9Look n r_spec_l9Look):=by
 intro t0_0 t0_1 t0_2 t0_3 t1_0 t2_0 t3_0 r h
 unfold s_spec_l9Look at h
 refine bF Try.func260 rfl rfl<|cRs<|xBx rfl<|xAs rfl<|oNl<|cSq<|cRs<|oJn h [(10,21)] [] (fun v21_1=>(.n,[(21,Bo v21_1)],[])) (fun _ h=> ?_) (fun v21_1 h=> ?_)
 refine xMv rfl<|xLt rfl<|xMv rfl<|oIf 12 h rfl (fun q2 h=> ?_) (fun q2 h=> ?_)
 exact wSk rfl<|wSk rfl<|xPk rfl<|xMv rfl<|wSk rfl<|wSk rfl<|wSk rfl<|wSk rfl<|xPk rfl<|oNl<|eJ h rfl
 refine xMv rfl<|xLt rfl<|xPk rfl<|xMv rfl<|oIf 16 h rfl (fun q3 h=> ?_) (fun q3 h=> ?_)
 exact wSk rfl<|wSk rfl<|wSk rfl<|wSk rfl<|xPk rfl<|oNl<|eJ h rfl
 refine xLd rfl<|xMv rfl<|xC0 h (big_spec_l9Shape ·) rfl (fun c19_4 h=> ?_)
 exact xNot rfl<|xPk rfl<|oNl<|eJ h rfl
 refine cIf h rfl (fun q5 h=> ?_) (fun q5 h=> ?_)
 refine cRs<|xAs rfl<|oNl<|cRt ?_
 cases h
 exact eR rfl rfl rfl rfl
 refine cSk<|cRs<|xMv rfl<|xSub rfl<|xAs rfl<|oNl<|cSq<|cRs<|xAs rfl<|oNl<|cLp h [(3,3),(9,9),(24,44)] [] (fun(v3_6,v9_7)=>([(3,I64 v3_6),(9,I64 v9_7)],[])) (fun(v3_8,v9_9,v32_10)=>(.e 0,[(3,I64 v3_8),(9,I64 v9_9),(32,Bo v32_10)],[])) rfl (fun st _ h=> ?_) (fun q h=> ?_)
 obtain⟨v3_6,v9_7⟩:=st
 unfold p_spec_l9Look_b1 at h
 refine cSq<|cRs<|oJn h [(24,32)] [] (fun v32_11=>(.n,[(32,Bo v32_11)],[])) (fun _ h=> ?_) (fun v32_11 h=> ?_)
 refine xMv rfl<|xFd rfl<|xLd rfl<|xLn rfl<|xLt rfl<|xMv rfl<|oIf 29 h rfl (fun q12 h=> ?_) (fun q12 h=> ?_)
 exact xMv rfl<|xGe rfl<|xPk rfl<|oNl<|eJ h rfl
 exact wSk rfl<|wSk rfl<|xPk rfl<|oNl<|eJ h rfl
 refine cIf h rfl (fun q13 h=> ?_) (fun q13 h=> ?_)
 refine cSk<|cSq<|cBk<|cRg<|xFd rfl<|xLd rfl<|xMv rfl<|xIx h rS_impl_Pat_eq rfl (fun e38_14 h=> ?_)
 refine xLd rfl<|xMv rfl<|xMv rfl<|xSub rfl<|xMv rfl<|xC0 h (ih_spec_l9Look ·) rfl (fun c44_15 h=> ?_)
 exact xAs rfl<|oNl<|cRg<|xMv rfl<|xAdd rfl<|xAs rfl<|oNl<|eL h rfl
 exact cEx<|eX h rfl
 obtain⟨v3_8,v9_9,v32_10⟩:=q
 refine cRs<|xMv rfl<|xAs rfl<|oNl<|cRt ?_
 cases h
 exact eR rfl rfl rfl rfl
def q_spec_l9Look:Nat→(Y_spec_l9Look)
  | 0=>(fun _ _ _ _ _ _ _=>none)
  | n+1=>s_spec_l9Look n (q_spec_l9Look n)
def p_spec_l9Look(n:Nat):Y_spec_l9Look:=q_spec_l9Look n
theorem bigs_spec_l9Look(n:Nat):B_spec_l9Look (p_spec_l9Look n):=by
  induction n with
  | zero=>exact(fun h=>nomatch h)
  | succ n ih=>exact step_spec_l9Look (n:=n) ih
theorem big_spec_l9Look{n:Nat}:B_spec_l9Look (p_spec_l9Look n):=(bigs_spec_l9Look n)
theorem p_spec_l9Look_succ(n:Nat):p_spec_l9Look (n+1)=s_spec_l9Look n (p_spec_l9Look n):=rfl
abbrev Y_spec_l9Slots:Type:=Int→Int→(List UInt8)→(List S_impl_Pat)→Option ((List Int))
abbrev B_spec_l9Slots(p:Y_spec_l9Slots):Prop:= ∀ {t0_0 t0_1:Int} {t0_2:List UInt8} {t0_3:List S_impl_Pat} {r:(List Int)},p t0_0 t0_1 t0_2 t0_3=some r→Big Try.prog τ An (.fn 261 [.one (.ag [.int .i64 t0_0, .int .i64 t0_1, .str t0_2, .sl (t0_3.map rS_impl_Pat)])] [] (.one (.c (.sl (r.map rI_i64)))) none [] none)
def p_spec_l9Slots_b1(n:Nat)(r_spec_l9Slots:Y_spec_l9Slots)(t0_3:List S_impl_Pat):((List Int)×Int)→Option (((List Int)×Int)⊕(((List Int)×Int×Bool)))
  | (v3_5,v4_6)=>bif decide (v4_6<(t0_3.length:Int))then(ix t0_3 v4_6).bind fun e30_11=>(r_spec_l9Slots e30_11.f0 e30_11.f1 e30_11.f2 e30_11.f3).bind fun c32_12=>(app2 8 v3_5 c32_12).bind fun v33_13=>some (.inl (v33_13,(IntKind.wrap .i64 (v4_6+(1:Int)))))else some (.inr (v3_5,v4_6,false))
def p_spec_l9Slots_b2(n:Nat)(r_spec_l9Slots:Y_spec_l9Slots)(t0_3:List S_impl_Pat):((List Int)×Int)→Option (((List Int)×Int)⊕(((List Int)×Int×Bool)))
  | (v3_14,v4_15)=>bif decide (v4_15<(t0_3.length:Int))then(ix t0_3 v4_15).bind fun e30_20=>(r_spec_l9Slots e30_20.f0 e30_20.f1 e30_20.f2 e30_20.f3).bind fun c32_21=>(app2 8 v3_14 c32_21).bind fun v33_22=>some (.inl (v33_22,(IntKind.wrap .i64 (v4_15+(1:Int)))))else some (.inr (v3_14,v4_15,false))
def s_spec_l9Slots(n:Nat)(r_spec_l9Slots:Y_spec_l9Slots)(t0_0:Int)(t0_1:Int)(t0_2:List UInt8)(t0_3:List S_impl_Pat):Option ((List Int)):=
  (bif decide (t0_0=(3:Int))then some (!decide (t0_1=((-1):Int)))else some false).bind fun v13_1=>bif v13_1 then(app2 8 ([]:List Int) ([t0_1]:List Int)).bind fun v18_4=>(loopN (p_spec_l9Slots_b1 n r_spec_l9Slots t0_3) n (v18_4,(0:Int))).bind fun(v3_7,v4_8,v23_9)=>some v3_7 else(loopN (p_spec_l9Slots_b2 n r_spec_l9Slots t0_3) n (([]:List Int),(0:Int))).bind fun(v3_16,v4_17,v23_18)=>some v3_16
theorem step_spec_l9Slots{n:Nat}{r_spec_l9Slots:Y_spec_l9Slots}(ih_spec_l9Slots:B_spec_l9Slots r_spec_l9Slots):B_spec_l9Slots (s_spec_l9Slots n r_spec_l9Slots):=by
 intro t0_0 t0_1 t0_2 t0_3 r h
 unfold s_spec_l9Slots at h
 refine bF Try.func261 rfl rfl<|cRs<|xBx rfl<|wAe (Li rI_i64 []) rfl rfl rfl rfl<|oRs<|wLt' (L:=([]:List Int)) (f:=rI_i64) rfl rfl rfl rfl rfl rfl rfl<|xAs rfl<|oNl<|cSq<|cRs<|oJn h [(6,13)] [] (fun v13_1=>(.n,[(13,Bo v13_1)],[])) (fun _ h=> ?_) (fun v13_1 h=> ?_)
 refine xFd rfl<|xLd rfl<|xEq rfl<|xMv rfl<|oIf 9 h rfl (fun q2 h=> ?_) (fun q2 h=> ?_)
 exact xFd rfl<|xLd rfl<|xNe rfl<|xPk rfl<|oNl<|eJ h rfl
 exact wSk rfl<|wSk rfl<|wSk rfl<|xPk rfl<|oNl<|eJ h rfl
 refine cIf h rfl (fun q3 h=> ?_) (fun q3 h=> ?_)
 refine cRg<|xMv rfl<|xFd rfl<|xLd rfl<|wLt' (L:=([t0_1]:List Int)) (f:=rI_i64) rfl rfl rfl rfl rfl rfl rfl<|wAp (f:=rI_i64) h rfl rfl rfl rfl rfl rfl rfl rfl rfl (fun _=>rfl) rfl (fun v18_4 h=> ?_)
 refine xAs rfl<|oNl<|cSq<|cRs<|xAs rfl<|oNl<|cLp h [(3,4),(19,33)] [] (fun(v3_5,v4_6)=>([(3,Li rI_i64 v3_5),(4,I64 v4_6)],[])) (fun(v3_7,v4_8,v23_9)=>(.e 0,[(3,Li rI_i64 v3_7),(4,I64 v4_8),(23,Bo v23_9)],[])) rfl (fun st _ h=> ?_) (fun q h=> ?_)
 obtain⟨v3_5,v4_6⟩:=st
 unfold p_spec_l9Slots_b1 at h
 refine cSq<|cRs<|xMv rfl<|xFd rfl<|xLd rfl<|xLn rfl<|xLt rfl<|oNl<|cIf h rfl (fun q10 h=> ?_) (fun q10 h=> ?_)
 refine cSk<|cSq<|cBk<|cRg<|xMv rfl<|xFd rfl<|xLd rfl<|xMv rfl<|xIx h rS_impl_Pat_eq rfl (fun e30_11 h=> ?_)
 refine xLd rfl<|xC0 h (ih_spec_l9Slots ·) rfl (fun c32_12 h=> ?_)
 refine wAp (f:=rI_i64) h rfl rfl rfl rfl rfl rfl rfl rfl rfl (fun _=>rfl) rfl (fun v33_13 h=> ?_)
 exact xAs rfl<|oNl<|cRg<|xMv rfl<|xAdd rfl<|xAs rfl<|oNl<|eL h rfl
 exact cEx<|eX h rfl
 obtain⟨v3_7,v4_8,v23_9⟩:=q
 refine cRs<|xMv rfl<|xAs rfl<|oNl<|cRt ?_
 cases h
 exact eR rfl rfl rfl rfl
 refine cSk<|cSq<|cRs<|xAs rfl<|oNl<|cLp h [(3,4),(19,33)] [] (fun(v3_14,v4_15)=>([(3,Li rI_i64 v3_14),(4,I64 v4_15)],[])) (fun(v3_16,v4_17,v23_18)=>(.e 0,[(3,Li rI_i64 v3_16),(4,I64 v4_17),(23,Bo v23_18)],[])) rfl (fun st _ h=> ?_) (fun q h=> ?_)
 obtain⟨v3_14,v4_15⟩:=st
 unfold p_spec_l9Slots_b2 at h
 refine cSq<|cRs<|xMv rfl<|xFd rfl<|xLd rfl<|xLn rfl<|xLt rfl<|oNl<|cIf h rfl (fun q19 h=> ?_) (fun q19 h=> ?_)
 refine cSk<|cSq<|cBk<|cRg<|xMv rfl<|xFd rfl<|xLd rfl<|xMv rfl<|xIx h rS_impl_Pat_eq rfl (fun e30_20 h=> ?_)
 refine xLd rfl<|xC0 h (ih_spec_l9Slots ·) rfl (fun c32_21 h=> ?_)
 refine wAp (f:=rI_i64) h rfl rfl rfl rfl rfl rfl rfl rfl rfl (fun _=>rfl) rfl (fun v33_22 h=> ?_)
 exact xAs rfl<|oNl<|cRg<|xMv rfl<|xAdd rfl<|xAs rfl<|oNl<|eL h rfl
 exact cEx<|eX h rfl
 obtain⟨v3_16,v4_17,v23_18⟩:=q
 refine cRs<|xMv rfl<|xAs rfl<|oNl<|cRt ?_
 cases h
 exact eR rfl rfl rfl rfl
def q_spec_l9Slots:Nat→(Y_spec_l9Slots)
  | 0=>(fun _ _ _ _=>none)
  | n+1=>s_spec_l9Slots n (q_spec_l9Slots n)
def p_spec_l9Slots(n:Nat):Y_spec_l9Slots:=q_spec_l9Slots n
theorem bigs_spec_l9Slots(n:Nat):B_spec_l9Slots (p_spec_l9Slots n):=by
  induction n with
  | zero=>exact(fun h=>nomatch h)
  | succ n ih=>exact step_spec_l9Slots (n:=n) ih
theorem big_spec_l9Slots{n:Nat}:B_spec_l9Slots (p_spec_l9Slots n):=(bigs_spec_l9Slots n)
theorem p_spec_l9Slots_succ(n:Nat):p_spec_l9Slots (n+1)=s_spec_l9Slots n (p_spec_l9Slots n):=rfl
abbrev B_spec_PatFits(p:Int→Int→(List UInt8)→(List S_impl_Pat)→Int→Option (Bool)):Prop:= ∀ {t0_0 t0_1:Int} {t0_2:List UInt8} {t0_3:List S_impl_Pat} {t1_0:Int} {r:Bool},p t0_0 t0_1 t0_2 t0_3 t1_0=some r→Big Try.prog τ An (.fn 194 [.one (.ag [.int .i64 t0_0, .int .i64 t0_1, .str t0_2, .sl (t0_3.map rS_impl_Pat)]), .one (.c (.int .i64 t1_0))] [] (.one (.c (.bool r))) none [] none)
def p_spec_PatFits_b2(n:Nat)(c18_6:(List Int))(v6_7:Int):(Int)→Option ((Int)⊕((Bool)⊕(Int×Bool)))
  | v7_12=>bif decide (v7_12<v6_7)then(ix c18_6 v7_12).bind fun e32_17=>(ix c18_6 v6_7).bind fun e36_18=>bif decide (e32_17=e36_18)then some (.inr (.inl false))else some (.inl (IntKind.wrap .i64 (v7_12+(1:Int))))else some (.inr (.inr (v7_12,false)))
def p_spec_PatFits_b1(n:Nat)(c18_6:(List Int)):(Int)→Option ((Int)⊕((Bool)⊕(Int×Bool)))
  | v6_7=>bif decide (v6_7<(c18_6.length:Int))then(loopN (p_spec_PatFits_b2 n c18_6 v6_7) n (0:Int)).bind fun q=>(match q with | .inl v4_13=>some (.inr (.inl v4_13)) | .inr (v7_14,v27_15)=>some (.inl (IntKind.wrap .i64 (v6_7+(1:Int)))))else some (.inr (.inr (v6_7,false)))
def p_spec_PatFits(n:Nat)(t0_0:Int)(t0_1:Int)(t0_2:List UInt8)(t0_3:List S_impl_Pat)(t1_0:Int):Option (Bool):=
  ((p_spec_l1In n t1_0 (0:Int) (400:Int)).bind fun c9_2=>bif !c9_2 then some true else(p_spec_l9Look n t0_0 t0_1 t0_2 t0_3 t1_0 (10:Int) (300:Int)).bind fun c14_4=>some (decide (c14_4<(0:Int)))).bind fun v16_1=>bif v16_1 then some false else(p_spec_l9Slots n t0_0 t0_1 t0_2 t0_3).bind fun c18_6=>(loopN (p_spec_PatFits_b1 n c18_6) n (0:Int)).bind fun q=>(match q with | .inl v4_8=>some v4_8 | .inr (v6_9,v22_10)=>some true)
theorem big_spec_PatFits{n:Nat}:B_spec_PatFits (p_spec_PatFits n):=by
 intro t0_0 t0_1 t0_2 t0_3 t1_0 r h
 unfold p_spec_PatFits at h
 refine bF Try.func194 rfl rfl<|cRs<|xBx rfl<|xAs rfl<|oNl<|cSq<|cRs<|oJn h [(8,16)] [] (fun v16_1=>(.n,[(16,Bo v16_1)],[])) (fun _ h=> ?_) (fun v16_1 h=> ?_)
 refine xMv rfl<|xC0 h (big_spec_l1In ·) rfl (fun c9_2 h=> ?_)
 refine xNot rfl<|xMv rfl<|oIf 11 h rfl (fun q3 h=> ?_) (fun q3 h=> ?_)
 exact wSk rfl<|wSk rfl<|wSk rfl<|wSk rfl<|xPk rfl<|oNl<|eJ h rfl
 refine xLd rfl<|xMv rfl<|xC0 h (big_spec_l9Look ·) rfl (fun c14_4 h=> ?_)
 exact xLt rfl<|xPk rfl<|oNl<|eJ h rfl
 refine cIf h rfl (fun q5 h=> ?_) (fun q5 h=> ?_)
 refine cRs<|xAs rfl<|oNl<|cRt ?_
 cases h
 exact eR rfl rfl rfl rfl
 refine cSk<|cRs<|xLd rfl<|xC0 h (big_spec_l9Slots ·) rfl (fun c18_6 h=> ?_)
 refine xAs rfl<|oNl<|cSq<|cRs<|xAs rfl<|oNl<|cLp h [(4,4),(6,7),(19,38)] [] (fun v6_7=>([(6,I64 v6_7)],[])) (fun q=>match q with | .inl v4_8=>(.r,[(4,Bo v4_8)],[]) | .inr (v6_9,v22_10)=>(.e 0,[(6,I64 v6_9),(22,Bo v22_10)],[])) rfl (fun v6_7 _ h=> ?_) (fun q h=> ?_)
 unfold p_spec_PatFits_b1 at h
 refine cSq<|cRs<|xMv rfl<|xMv rfl<|xLn rfl<|xLt rfl<|oNl<|cIf h rfl (fun q11 h=> ?_) (fun q11 h=> ?_)
 refine cSk<|cSq<|cBk<|cRs<|xAs rfl<|oNl<|cLp h [(4,4),(7,7),(25,38)] [] (fun v7_12=>([(7,I64 v7_12)],[])) (fun q=>match q with | .inl v4_13=>(.r,[(4,Bo v4_13)],[]) | .inr (v7_14,v27_15)=>(.e 2,[(7,I64 v7_14),(27,Bo v27_15)],[])) rfl (fun v7_12 _ h=> ?_) (fun q h=> ?_)
 unfold p_spec_PatFits_b2 at h
 refine cSq<|cRs<|xMv rfl<|xMv rfl<|xLt rfl<|oNl<|cIf h rfl (fun q16 h=> ?_) (fun q16 h=> ?_)
 refine cSk<|cSq<|cBk<|cRs<|xMv rfl<|xMv rfl<|xIx h rI_i64_eq rfl (fun e32_17 h=> ?_)
 refine xLd rfl<|xMv rfl<|xMv rfl<|xIx h rI_i64_eq rfl (fun e36_18 h=> ?_)
 refine xLd rfl<|xEq rfl<|oNl<|cIf h rfl (fun q19 h=> ?_) (fun q19 h=> ?_)
 exact cRs<|xAs rfl<|oNl<|cRt<|eXr h rfl
 exact cSk<|cRg<|xMv rfl<|xAdd rfl<|xAs rfl<|oNl<|eL h rfl
 exact cEx<|eX h rfl
 rcases q with v4_13 | ⟨v7_14,v27_15⟩
 exact eXr h rfl
 exact cRg<|xMv rfl<|xAdd rfl<|xAs rfl<|oNl<|eL h rfl
 exact cEx<|eX h rfl
 rcases q with v4_8 | ⟨v6_9,v22_10⟩
 cases h
 exact eR rfl rfl rfl rfl
 refine cRs<|xAs rfl<|oNl<|cRt ?_
 cases h
 exact eR rfl rfl rfl rfl
abbrev B_spec_l4Op(p:(List UInt8)→Option (Bool)):Prop:= ∀ {t0_0:List UInt8} {r:Bool},p t0_0=some r→Big Try.prog τ An (.fn 286 [.one (.c (.str t0_0))] [] (.one (.c (.bool r))) none [] none)
def p_spec_l4Op(n:Nat)(t0_0:List UInt8):Option (Bool):=
  (bif decide (t0_0=([43]:List UInt8))then some true else bif decide (t0_0=([45]:List UInt8))then some true else bif decide (t0_0=([42]:List UInt8))then some true else bif decide (t0_0=([61,61]:List UInt8))then some true else some (decide (t0_0=([60]:List UInt8)))).bind fun v2_1=>some v2_1
theorem big_spec_l4Op{n:Nat}:B_spec_l4Op (p_spec_l4Op n):=by
 intro t0_0 r h
 unfold p_spec_l4Op at h
 refine bF Try.func286 rfl rfl<|cRs<|xAs rfl<|oRs<|oJn h [(2,20)] [] (fun v2_1=>(.n,[(2,Bo v2_1)],[])) (fun _ h=> ?_) (fun v2_1 h=> ?_)
 refine xMv rfl<|xEs rfl<|xMv rfl<|oIf 5 h rfl (fun q2 h=> ?_) (fun q2 h=> ?_)
 refine wSk rfl<|wSk rfl<|xPk rfl<|xMv rfl<|wSk rfl<|wSk rfl<|xPk rfl<|xMv rfl<|wSk rfl<|wSk rfl<|xPk rfl<|xMv rfl<|wSk rfl<|wSk rfl ?_
 exact xPk rfl<|xAs rfl<|oNl<|eJ h rfl
 refine xMv rfl<|xEs rfl<|xPk rfl<|xMv rfl<|oIf 9 h rfl (fun q3 h=> ?_) (fun q3 h=> ?_)
 exact wSk rfl<|wSk rfl<|xPk rfl<|xMv rfl<|wSk rfl<|wSk rfl<|xPk rfl<|xMv rfl<|wSk rfl<|wSk rfl<|xPk rfl<|xAs rfl<|oNl<|eJ h rfl
 refine xMv rfl<|xEs rfl<|xPk rfl<|xMv rfl<|oIf 13 h rfl (fun q4 h=> ?_) (fun q4 h=> ?_)
 exact wSk rfl<|wSk rfl<|xPk rfl<|xMv rfl<|wSk rfl<|wSk rfl<|xPk rfl<|xAs rfl<|oNl<|eJ h rfl
 refine xMv rfl<|xEs rfl<|xPk rfl<|xMv rfl<|oIf 17 h rfl (fun q5 h=> ?_) (fun q5 h=> ?_)
 exact wSk rfl<|wSk rfl<|xPk rfl<|xAs rfl<|oNl<|eJ h rfl
 exact xMv rfl<|xEs rfl<|xPk rfl<|xAs rfl<|oNl<|eJ h rfl
 refine cRt ?_
 cases h
 exact eR rfl rfl rfl rfl
abbrev B_spec_l9Ins(p:(List S_impl_Fn)→(List S_impl_Pat)→(List UInt8)→Int→Int→(List S_impl_Ins)→Int→Option (Bool)):Prop:= ∀ {t0_0:List S_impl_Fn} {t0_1:List S_impl_Pat} {t1_0:List UInt8} {t1_1 t1_2:Int} {t1_3:List S_impl_Ins} {t2_0:Int} {r:Bool},p t0_0 t0_1 t1_0 t1_1 t1_2 t1_3 t2_0=some r→Big Try.prog τ An (.fn 258 [.one (.ag [.sl (t0_0.map rS_impl_Fn), .sl (t0_1.map rS_impl_Pat)]), .one (.ag [.str t1_0, .int .i64 t1_1, .int .i64 t1_2, .sl (t1_3.map rS_impl_Ins)]), .one (.c (.int .i64 t2_0))] [] (.one (.c (.bool r))) none [] none)
def p_spec_l9Ins(n:Nat)(t0_0:List S_impl_Fn)(t0_1:List S_impl_Pat)(t1_0:List UInt8)(t1_1:Int)(t1_2:Int)(t1_3:List S_impl_Ins)(t2_0:Int):Option (Bool):=
  (ix t1_3 t2_0).bind fun e14_1=>(bif decide (e14_1.f2=([]:List UInt8))then some (decide (e14_1.f3=(0:Int)))else some false).bind fun v8_2=>(bif decide (e14_1.f2=([]:List UInt8))then(p_spec_l1In n e14_1.f3 (IntKind.wrap .i64 (t2_0+(1:Int))) (IntKind.wrap .i64 ((t1_3.length:Int) - (1:Int)))).bind fun c36_6=>some c36_6 else some false).bind fun v9_4=>bif decide (e14_1.f0=(1:Int))then(bif v8_2 then(p_spec_l1In n e14_1.f1 (0:Int) (1000000000000:Int)).bind fun c46_10=>some c46_10 else some false).bind fun v6_8=>some v6_8 else bif decide (e14_1.f0=(2:Int))then((p_spec_l4Atom n e14_1.f2).bind fun c52_13=>bif c52_13 then bif decide (e14_1.f1=(0:Int))then some (decide (e14_1.f3=(0:Int)))else some false else some false).bind fun v6_12=>some v6_12 else bif decide (e14_1.f0=(3:Int))then(bif v8_2 then(p_spec_l1In n e14_1.f1 (0:Int) (IntKind.wrap .i64 (t1_2 - (1:Int)))).bind fun c72_19=>some c72_19 else some false).bind fun v6_17=>some v6_17 else bif decide (e14_1.f0=(4:Int))then(bif v8_2 then(p_spec_l1In n e14_1.f1 (0:Int) (20:Int)).bind fun c81_23=>some c81_23 else some false).bind fun v6_21=>some v6_21 else bif decide (e14_1.f0=(5:Int))then(bif v8_2 then(p_spec_l1In n e14_1.f1 (0:Int) (20:Int)).bind fun c81_27=>some c81_27 else some false).bind fun v6_25=>some v6_25 else bif decide (e14_1.f0=(6:Int))then(bif v8_2 then(p_spec_l1In n e14_1.f1 (2:Int) (6:Int)).bind fun c89_31=>some c89_31 else some false).bind fun v6_29=>some v6_29 else bif decide (e14_1.f0=(7:Int))then((p_spec_l4Op n e14_1.f2).bind fun c95_34=>bif c95_34 then bif decide (e14_1.f1=(0:Int))then some (decide (e14_1.f3=(0:Int)))else some false else some false).bind fun v6_33=>some v6_33 else bif decide (e14_1.f0=(8:Int))then(p_spec_l9FnAt n t0_0 t0_1 e14_1.f2).bind fun c111_38=>(bif decide ((0:Int)≤c111_38)then(ix t0_0 c111_38).bind fun e118_41=>bif decide (e118_41.f1=e14_1.f1)then some (decide (e14_1.f3=(0:Int)))else some false else some false).bind fun v6_39=>some v6_39 else bif decide (e14_1.f0=(9:Int))then(bif v9_4 then(p_spec_l1In n e14_1.f1 (0:Int) (IntKind.wrap .i64 ((t0_1.length:Int) - (1:Int)))).bind fun c140_46=>bif c140_46 then(ix t0_1 e14_1.f1).bind fun e147_48=>(p_spec_PatFits n e147_48.f0 e147_48.f1 e147_48.f2 e147_48.f3 t1_2).bind fun c151_49=>some c151_49 else some false else some false).bind fun v6_44=>some v6_44 else bif decide (e14_1.f0=(10:Int))then(bif v9_4 then some (decide (e14_1.f1=(0:Int)))else some false).bind fun v6_51=>some v6_51 else(bif v8_2 then bif decide (e14_1.f1=(0:Int))then(p_spec_l1In n e14_1.f0 (11:Int) (12:Int)).bind fun c170_56=>some c170_56 else some false else some false).bind fun v6_53=>some v6_53
theorem big_spec_l9Ins{n:Nat}:B_spec_l9Ins (p_spec_l9Ins n):=by
 intro t0_0 t0_1 t1_0 t1_1 t1_2 t1_3 t2_0 r h
 unfold p_spec_l9Ins at h
 refine bF Try.func258 rfl rfl<|cRs<|xBx rfl<|xBx rfl<|xAs rfl<|oRs<|xFd rfl<|xLd rfl<|xMv rfl<|xIx h rS_impl_Ins_eq rfl (fun e14_1 h=> ?_)
 refine xLd rfl<|xAc rfl<|xSt rfl<|oRs<|oJn h [(8,8),(16,23)] [] (fun v8_2=>(.n,[(8,Bo v8_2)],[])) (fun _ h=> ?_) (fun v8_2 h=> ?_)
 refine xFd rfl<|xLd rfl<|xEs rfl<|xMv rfl<|oIf 19 h rfl (fun q3 h=> ?_) (fun q3 h=> ?_)
 exact xFd rfl<|xLd rfl<|xEq rfl<|xPk rfl<|xAs rfl<|oNl<|eJ h rfl
 exact wSk rfl<|wSk rfl<|wSk rfl<|xPk rfl<|xAs rfl<|oNl<|eJ h rfl
 refine cRs<|oJn h [(9,9),(24,37)] [] (fun v9_4=>(.n,[(9,Bo v9_4)],[])) (fun _ h=> ?_) (fun v9_4 h=> ?_)
 refine xFd rfl<|xLd rfl<|xEs rfl<|xMv rfl<|oIf 27 h rfl (fun q5 h=> ?_) (fun q5 h=> ?_)
 refine xFd rfl<|xLd rfl<|xMv rfl<|xAdd rfl<|xFd rfl<|xLd rfl<|xLn rfl<|xSub rfl<|xC0 h (big_spec_l1In ·) rfl (fun c36_6 h=> ?_)
 exact xPk rfl<|xAs rfl<|oNl<|eJ h rfl
 exact wSk rfl<|wSk rfl<|wSk rfl<|wSk rfl<|wSk rfl<|wSk rfl<|wSk rfl<|wSk rfl<|wSk rfl<|xPk rfl<|xAs rfl<|oNl<|eJ h rfl
 refine cSq<|cRs<|xFd rfl<|xLd rfl<|oNl<|cBk<|cRs<|xEq rfl<|xAs rfl<|oNl<|cIf h rfl (fun q7 h=> ?_) (fun q7 h=> ?_)
 refine cRs<|oJn h [(6,6),(42,47)] [] (fun v6_8=>(.n,[(6,Bo v6_8)],[])) (fun _ h=> ?_) (fun v6_8 h=> ?_)
 refine xMv rfl<|xMv rfl<|oIf 43 h rfl (fun q9 h=> ?_) (fun q9 h=> ?_)
 refine xFd rfl<|xLd rfl<|xC0 h (big_spec_l1In ·) rfl (fun c46_10 h=> ?_)
 exact xPk rfl<|xAs rfl<|oNl<|eJ h rfl
 exact wSk rfl<|wSk rfl<|wSk rfl<|xPk rfl<|xAs rfl<|oNl<|eJ h rfl
 refine cRt ?_
 cases h
 exact eR rfl rfl rfl rfl
 refine cRs<|xEq rfl<|xAs rfl<|oNl<|cIf h rfl (fun q11 h=> ?_) (fun q11 h=> ?_)
 refine cRs<|oJn h [(6,6),(50,62)] [] (fun v6_12=>(.n,[(6,Bo v6_12)],[])) (fun _ h=> ?_) (fun v6_12 h=> ?_)
 refine xFd rfl<|xLd rfl<|xC0 h (big_spec_l4Atom ·) rfl (fun c52_13 h=> ?_)
 refine xMv rfl<|oIf 53 h rfl (fun q14 h=> ?_) (fun q14 h=> ?_)
 refine xFd rfl<|xLd rfl<|xEq rfl<|xPk rfl<|xMv rfl<|oIf 58 h rfl (fun q15 h=> ?_) (fun q15 h=> ?_)
 exact xFd rfl<|xLd rfl<|xEq rfl<|xPk rfl<|xAs rfl<|oNl<|eJ h rfl
 exact wSk rfl<|wSk rfl<|wSk rfl<|xPk rfl<|xAs rfl<|oNl<|eJ h rfl
 exact wSk rfl<|wSk rfl<|wSk rfl<|xPk rfl<|xMv rfl<|wSk rfl<|wSk rfl<|wSk rfl<|xPk rfl<|xAs rfl<|oNl<|eJ h rfl
 refine cRt ?_
 cases h
 exact eR rfl rfl rfl rfl
 refine cRs<|xEq rfl<|xAs rfl<|oNl<|cIf h rfl (fun q16 h=> ?_) (fun q16 h=> ?_)
 refine cRs<|oJn h [(6,6),(65,73)] [] (fun v6_17=>(.n,[(6,Bo v6_17)],[])) (fun _ h=> ?_) (fun v6_17 h=> ?_)
 refine xMv rfl<|xMv rfl<|oIf 66 h rfl (fun q18 h=> ?_) (fun q18 h=> ?_)
 refine xFd rfl<|xLd rfl<|xFd rfl<|xLd rfl<|xSub rfl<|xC0 h (big_spec_l1In ·) rfl (fun c72_19 h=> ?_)
 exact xPk rfl<|xAs rfl<|oNl<|eJ h rfl
 exact wSk rfl<|wSk rfl<|wSk rfl<|wSk rfl<|wSk rfl<|wSk rfl<|xPk rfl<|xAs rfl<|oNl<|eJ h rfl
 refine cRt ?_
 cases h
 exact eR rfl rfl rfl rfl
 refine cSq<|cRs<|xEq rfl<|xAs rfl<|oNl<|cIf h rfl (fun q20 h=> ?_) (fun q20 h=> ?_)
 refine cSk<|cT rfl<|cRs<|oJn h [(6,6),(77,82)] [] (fun v6_21=>(.n,[(6,Bo v6_21)],[])) (fun _ h=> ?_) (fun v6_21 h=> ?_)
 refine xMv rfl<|xMv rfl<|oIf 78 h rfl (fun q22 h=> ?_) (fun q22 h=> ?_)
 refine xFd rfl<|xLd rfl<|xC0 h (big_spec_l1In ·) rfl (fun c81_23 h=> ?_)
 exact xPk rfl<|xAs rfl<|oNl<|eJ h rfl
 exact wSk rfl<|wSk rfl<|wSk rfl<|xPk rfl<|xAs rfl<|oNl<|eJ h rfl
 refine cRt ?_
 cases h
 exact eR rfl rfl rfl rfl
 refine cRg<|xEq rfl<|xAs rfl<|oNl<|cIf h rfl (fun q24 h=> ?_) (fun q24 h=> ?_)
 refine cRs<|oJn h [(6,6),(77,82)] [] (fun v6_25=>(.n,[(6,Bo v6_25)],[])) (fun _ h=> ?_) (fun v6_25 h=> ?_)
 refine xMv rfl<|xMv rfl<|oIf 78 h rfl (fun q26 h=> ?_) (fun q26 h=> ?_)
 refine xFd rfl<|xLd rfl<|xC0 h (big_spec_l1In ·) rfl (fun c81_27 h=> ?_)
 exact xPk rfl<|xAs rfl<|oNl<|eJ h rfl
 exact wSk rfl<|wSk rfl<|wSk rfl<|xPk rfl<|xAs rfl<|oNl<|eJ h rfl
 refine cRt ?_
 cases h
 exact eR rfl rfl rfl rfl
 refine cRs<|xEq rfl<|xAs rfl<|oNl<|cIf h rfl (fun q28 h=> ?_) (fun q28 h=> ?_)
 refine cRs<|oJn h [(6,6),(85,90)] [] (fun v6_29=>(.n,[(6,Bo v6_29)],[])) (fun _ h=> ?_) (fun v6_29 h=> ?_)
 refine xMv rfl<|xMv rfl<|oIf 86 h rfl (fun q30 h=> ?_) (fun q30 h=> ?_)
 refine xFd rfl<|xLd rfl<|xC0 h (big_spec_l1In ·) rfl (fun c89_31 h=> ?_)
 exact xPk rfl<|xAs rfl<|oNl<|eJ h rfl
 exact wSk rfl<|wSk rfl<|wSk rfl<|xPk rfl<|xAs rfl<|oNl<|eJ h rfl
 refine cRt ?_
 cases h
 exact eR rfl rfl rfl rfl
 refine cRs<|xEq rfl<|xAs rfl<|oNl<|cIf h rfl (fun q32 h=> ?_) (fun q32 h=> ?_)
 refine cRs<|oJn h [(6,6),(93,105)] [] (fun v6_33=>(.n,[(6,Bo v6_33)],[])) (fun _ h=> ?_) (fun v6_33 h=> ?_)
 refine xFd rfl<|xLd rfl<|xC0 h (big_spec_l4Op ·) rfl (fun c95_34 h=> ?_)
 refine xMv rfl<|oIf 96 h rfl (fun q35 h=> ?_) (fun q35 h=> ?_)
 refine xFd rfl<|xLd rfl<|xEq rfl<|xPk rfl<|xMv rfl<|oIf 101 h rfl (fun q36 h=> ?_) (fun q36 h=> ?_)
 exact xFd rfl<|xLd rfl<|xEq rfl<|xPk rfl<|xAs rfl<|oNl<|eJ h rfl
 exact wSk rfl<|wSk rfl<|wSk rfl<|xPk rfl<|xAs rfl<|oNl<|eJ h rfl
 exact wSk rfl<|wSk rfl<|wSk rfl<|xPk rfl<|xMv rfl<|wSk rfl<|wSk rfl<|wSk rfl<|xPk rfl<|xAs rfl<|oNl<|eJ h rfl
 refine cRt ?_
 cases h
 exact eR rfl rfl rfl rfl
 refine cRs<|xEq rfl<|xAs rfl<|oNl<|cIf h rfl (fun q37 h=> ?_) (fun q37 h=> ?_)
 refine cRs<|xLd rfl<|xFd rfl<|xLd rfl<|xC0 h (big_spec_l9FnAt ·) rfl (fun c111_38 h=> ?_)
 refine xAs rfl<|oRs<|oJn h [(6,6),(112,129)] [] (fun v6_39=>(.n,[(6,Bo v6_39)],[])) (fun _ h=> ?_) (fun v6_39 h=> ?_)
 refine xMv rfl<|xGe rfl<|xMv rfl<|oIf 114 h rfl (fun q40 h=> ?_) (fun q40 h=> ?_)
 refine xFd rfl<|xLd rfl<|xMv rfl<|xIx h rS_impl_Fn_eq rfl (fun e118_41 h=> ?_)
 refine xFd rfl<|xLd rfl<|xFd rfl<|xLd rfl<|xEq rfl<|xPk rfl<|xMv rfl<|oIf 125 h rfl (fun q42 h=> ?_) (fun q42 h=> ?_)
 exact xFd rfl<|xLd rfl<|xEq rfl<|xPk rfl<|xAs rfl<|oNl<|eJ h rfl
 exact wSk rfl<|wSk rfl<|wSk rfl<|xPk rfl<|xAs rfl<|oNl<|eJ h rfl
 refine wSk rfl<|wSk rfl<|wSk rfl<|wSk rfl<|wSk rfl<|wSk rfl<|wSk rfl<|wSk rfl<|wSk rfl<|xPk rfl<|xMv rfl<|wSk rfl<|wSk rfl<|wSk rfl ?_
 exact xPk rfl<|xAs rfl<|oNl<|eJ h rfl
 refine cRt ?_
 cases h
 exact eR rfl rfl rfl rfl
 refine cRs<|xEq rfl<|xAs rfl<|oNl<|cIf h rfl (fun q43 h=> ?_) (fun q43 h=> ?_)
 refine cRs<|oJn h [(6,6),(132,152)] [] (fun v6_44=>(.n,[(6,Bo v6_44)],[])) (fun _ h=> ?_) (fun v6_44 h=> ?_)
 refine xMv rfl<|xMv rfl<|oIf 133 h rfl (fun q45 h=> ?_) (fun q45 h=> ?_)
 refine xFd rfl<|xLd rfl<|xFd rfl<|xLd rfl<|xLn rfl<|xSub rfl<|xC0 h (big_spec_l1In ·) rfl (fun c140_46 h=> ?_)
 refine xPk rfl<|xMv rfl<|oIf 142 h rfl (fun q47 h=> ?_) (fun q47 h=> ?_)
 refine xFd rfl<|xLd rfl<|xFd rfl<|xLd rfl<|xIx h rS_impl_Pat_eq rfl (fun e147_48 h=> ?_)
 refine xLd rfl<|xFd rfl<|xLd rfl<|xC0 h (big_spec_PatFits ·) rfl (fun c151_49 h=> ?_)
 exact xPk rfl<|xAs rfl<|oNl<|eJ h rfl
 exact wSk rfl<|wSk rfl<|wSk rfl<|wSk rfl<|wSk rfl<|wSk rfl<|wSk rfl<|wSk rfl<|wSk rfl<|xPk rfl<|xAs rfl<|oNl<|eJ h rfl
 refine wSk rfl<|wSk rfl<|wSk rfl<|wSk rfl<|wSk rfl<|wSk rfl<|wSk rfl<|xPk rfl<|xMv rfl<|wSk rfl<|wSk rfl<|wSk rfl<|wSk rfl<|wSk rfl ?_
 exact wSk rfl<|wSk rfl<|wSk rfl<|wSk rfl<|xPk rfl<|xAs rfl<|oNl<|eJ h rfl
 refine cRt ?_
 cases h
 exact eR rfl rfl rfl rfl
 refine cRs<|xEq rfl<|xAs rfl<|oNl<|cIf h rfl (fun q50 h=> ?_) (fun q50 h=> ?_)
 refine cRs<|oJn h [(6,6),(155,160)] [] (fun v6_51=>(.n,[(6,Bo v6_51)],[])) (fun _ h=> ?_) (fun v6_51 h=> ?_)
 refine xMv rfl<|xMv rfl<|oIf 156 h rfl (fun q52 h=> ?_) (fun q52 h=> ?_)
 exact xFd rfl<|xLd rfl<|xEq rfl<|xPk rfl<|xAs rfl<|oNl<|eJ h rfl
 exact wSk rfl<|wSk rfl<|wSk rfl<|xPk rfl<|xAs rfl<|oNl<|eJ h rfl
 refine cRt ?_
 cases h
 exact eR rfl rfl rfl rfl
 refine cSk<|cRs<|oJn h [(6,6),(161,171)] [] (fun v6_53=>(.n,[(6,Bo v6_53)],[])) (fun _ h=> ?_) (fun v6_53 h=> ?_)
 refine xMv rfl<|xMv rfl<|oIf 162 h rfl (fun q54 h=> ?_) (fun q54 h=> ?_)
 refine xFd rfl<|xLd rfl<|xEq rfl<|xPk rfl<|xMv rfl<|oIf 167 h rfl (fun q55 h=> ?_) (fun q55 h=> ?_)
 refine xFd rfl<|xLd rfl<|xC0 h (big_spec_l1In ·) rfl (fun c170_56 h=> ?_)
 exact xPk rfl<|xAs rfl<|oNl<|eJ h rfl
 exact wSk rfl<|wSk rfl<|wSk rfl<|xPk rfl<|xAs rfl<|oNl<|eJ h rfl
 exact wSk rfl<|wSk rfl<|wSk rfl<|xPk rfl<|xMv rfl<|wSk rfl<|wSk rfl<|wSk rfl<|xPk rfl<|xAs rfl<|oNl<|eJ h rfl
 refine cRt ?_
 cases h
 exact eR rfl rfl rfl rfl
abbrev B_spec_l9Takes(p:Int→Int→(List UInt8)→Int→Option (Int×Int)):Prop:= ∀ {t0_0 t0_1:Int} {t0_2:List UInt8} {t0_3:Int} {r:Int×Int},p t0_0 t0_1 t0_2 t0_3=some r→Big Try.prog τ An (.fn 289 [.one (.ag [.int .i64 t0_0, .int .i64 t0_1, .str t0_2, .int .i64 t0_3])] [] (.tup [.c (.int .i64 r.1), .c (.int .i64 r.2)]) none [] none)
def p_spec_l9Takes(n:Nat)(t0_0:Int)(t0_1:Int)(t0_2:List UInt8)(t0_3:Int):Option (Int×Int):=
  bif decide (t0_0=(1:Int))then some ((0:Int),(1:Int))else bif decide (t0_0=(2:Int))then some ((0:Int),(1:Int))else bif decide (t0_0=(3:Int))then some ((0:Int),(1:Int))else bif decide (t0_0=(4:Int))then some (t0_1,(1:Int))else bif decide (t0_0=(5:Int))then some (t0_1,(1:Int))else bif decide (t0_0=(6:Int))then some (t0_1,(1:Int))else bif decide (t0_0=(8:Int))then some (t0_1,(1:Int))else bif decide (t0_0=(7:Int))then some ((2:Int),(1:Int))else bif decide (t0_0=(9:Int))then some ((1:Int),(0:Int))else bif decide (t0_0=(12:Int))then some ((1:Int),(0:Int))else some ((0:Int),(0:Int))
theorem big_spec_l9Takes{n:Nat}:B_spec_l9Takes (p_spec_l9Takes n):=by
 intro t0_0 t0_1 t0_2 t0_3 r h
 unfold p_spec_l9Takes at h
 refine bF Try.func289 rfl rfl<|cRs<|xBx rfl<|xAs rfl<|xAs rfl<|oNl<|cSq<|cRs<|xFd rfl<|xLd rfl<|oNl<|cBk<|cSq<|cRs ?_
 refine xEq rfl<|xAs rfl<|oNl<|cIf h rfl (fun q1 h=> ?_) (fun q1 h=> ?_)
 refine cSk<|cT rfl<|cRs<|xAs rfl<|xAs rfl<|oNl<|cRt ?_
 cases h
 exact eR rfl rfl rfl rfl
 refine cRs<|xEq rfl<|xAs rfl<|oNl<|cIf h rfl (fun q2 h=> ?_) (fun q2 h=> ?_)
 refine cSk<|cT rfl<|cRs<|xAs rfl<|xAs rfl<|oNl<|cRt ?_
 cases h
 exact eR rfl rfl rfl rfl
 refine cRg<|xEq rfl<|xAs rfl<|oNl<|cIf h rfl (fun q3 h=> ?_) (fun q3 h=> ?_)
 refine cRs<|xAs rfl<|xAs rfl<|oNl<|cRt ?_
 cases h
 exact eR rfl rfl rfl rfl
 refine cSq<|cRs<|xEq rfl<|xAs rfl<|oNl<|cIf h rfl (fun q4 h=> ?_) (fun q4 h=> ?_)
 refine cSk<|cT rfl<|cRs<|xFd rfl<|xLd rfl<|xAs rfl<|xAs rfl<|oNl<|cRt ?_
 cases h
 exact eR rfl rfl rfl rfl
 refine cRs<|xEq rfl<|xAs rfl<|oNl<|cIf h rfl (fun q5 h=> ?_) (fun q5 h=> ?_)
 refine cSk<|cT rfl<|cRs<|xFd rfl<|xLd rfl<|xAs rfl<|xAs rfl<|oNl<|cRt ?_
 cases h
 exact eR rfl rfl rfl rfl
 refine cRs<|xEq rfl<|xAs rfl<|oNl<|cIf h rfl (fun q6 h=> ?_) (fun q6 h=> ?_)
 refine cSk<|cT rfl<|cRs<|xFd rfl<|xLd rfl<|xAs rfl<|xAs rfl<|oNl<|cRt ?_
 cases h
 exact eR rfl rfl rfl rfl
 refine cRg<|xEq rfl<|xAs rfl<|oNl<|cIf h rfl (fun q7 h=> ?_) (fun q7 h=> ?_)
 refine cRs<|xFd rfl<|xLd rfl<|xAs rfl<|xAs rfl<|oNl<|cRt ?_
 cases h
 exact eR rfl rfl rfl rfl
 refine cRs<|xEq rfl<|xAs rfl<|oNl<|cIf h rfl (fun q8 h=> ?_) (fun q8 h=> ?_)
 refine cRs<|xAs rfl<|xAs rfl<|oNl<|cRt ?_
 cases h
 exact eR rfl rfl rfl rfl
 refine cSq<|cRs<|xEq rfl<|xAs rfl<|oNl<|cIf h rfl (fun q9 h=> ?_) (fun q9 h=> ?_)
 refine cSk<|cT rfl<|cRs<|xAs rfl<|xAs rfl<|oNl<|cRt ?_
 cases h
 exact eR rfl rfl rfl rfl
 refine cRg<|xEq rfl<|xAs rfl<|oNl<|cIf h rfl (fun q10 h=> ?_) (fun q10 h=> ?_)
 refine cRs<|xAs rfl<|xAs rfl<|oNl<|cRt ?_
 cases h
 exact eR rfl rfl rfl rfl
 refine cSk<|cRs<|xAs rfl<|xAs rfl<|oNl<|cRt ?_
 cases h
 exact eR rfl rfl rfl rfl
abbrev B_spec_l9Come(p:(List Int)→Int→Int→Option (Bool×(List Int))):Prop:= ∀ {t0_0:List Int} {t1_0 t2_0:Int} {r:Bool×(List Int)},p t0_0 t1_0 t2_0=some r→Big Try.prog τ An (.fn 290 [.one (.c (.sl (t0_0.map rI_i64))), .one (.c (.int .i64 t1_0)), .one (.c (.int .i64 t2_0))] [] (.one (.c (.bool r.1))) (some (.sl (r.2.map rI_i64))) [] none)
def p_spec_l9Come(n:Nat)(t0_0:List Int)(t1_0:Int)(t2_0:Int):Option (Bool×(List Int)):=
  (ix t0_0 t1_0).bind fun e9_1=>bif decide (e9_1=((-1):Int))then(ix t0_0 t1_0).bind fun e15_3=>(some (t0_0.set (Int.toNat t1_0) t2_0)).bind fun u0_4=>(ix u0_4 t1_0).bind fun e18_5=>some ((decide (e18_5=t2_0)),u0_4)else(ix t0_0 t1_0).bind fun e18_6=>some ((decide (e18_6=t2_0)),t0_0)
theorem big_spec_l9Come{n:Nat}:B_spec_l9Come (p_spec_l9Come n):=by
 intro t0_0 t1_0 t2_0 r h
 unfold p_spec_l9Come at h
 refine bFi Try.func290 rfl rfl<|cRs<|xAs rfl<|oNl<|cSq<|cRs<|xMv rfl<|xMv rfl<|xIx h rI_i64_eq rfl (fun e9_1 h=> ?_)
 refine xLd rfl<|xEq rfl<|oNl<|cIf h rfl (fun q2 h=> ?_) (fun q2 h=> ?_)
 refine cRg<|wAl rfl rfl rfl rfl<|xMv rfl<|xMv rfl<|wIp (f:=rI_i64) h rfl rfl rfl rfl rfl rfl (fun _=>rfl) rfl (fun e15_3 ke15_3 h=> ?_)
 refine wSpN (f:=rI_i64) (v':=t2_0) h ke15_3 rfl rfl rfl rfl rfl rfl rfl rfl rfl (fun u0_4 h=> ?_)
 refine oNl<|cRs<|xMv rfl<|xMv rfl<|xIx h rI_i64_eq rfl (fun e18_5 h=> ?_)
 refine xLd rfl<|xMv rfl<|xEq rfl<|xAs rfl<|oNl<|cRt ?_
 cases h
 exact eRi rfl rfl rfl rfl rfl
 refine cSk<|cRs<|xMv rfl<|xMv rfl<|xIx h rI_i64_eq rfl (fun e18_6 h=> ?_)
 refine xLd rfl<|xMv rfl<|xEq rfl<|xAs rfl<|oNl<|cRt ?_
 cases h
 exact eRi rfl rfl rfl rfl rfl
abbrev B_spec_l9Heights(p:(List UInt8)→Int→Int→(List S_impl_Ins)→Option ((List Int)×Bool)):Prop:= ∀ {t0_0:List UInt8} {t0_1 t0_2:Int} {t0_3:List S_impl_Ins} {r:(List Int)×Bool},p t0_0 t0_1 t0_2 t0_3=some r→Big Try.prog τ An (.fn 259 [.one (.ag [.str t0_0, .int .i64 t0_1, .int .i64 t0_2, .sl (t0_3.map rS_impl_Ins)])] [] (.tup [.c (.sl (r.1.map rI_i64)), .c (.bool r.2)]) none [] none)
def p_spec_l9Heights_b1(n:Nat):((List Int)×Int)→Option (((List Int)×Int)⊕(((List Int)×Int×Bool)))
  | (v4_2,v5_3)=>bif decide (v5_3<(v4_2.length:Int))then(ix v4_2 v5_3).bind fun e24_8=>(some (v4_2.set (Int.toNat v5_3) ((-1):Int))).bind fun u4_9=>some (.inl (u4_9,(IntKind.wrap .i64 (v5_3+(1:Int)))))else some (.inr (v4_2,v5_3,false))
def p_spec_l9Heights_b2(n:Nat)(t0_3:List S_impl_Ins):((List Int)×Int)→Option (((List Int)×Int)⊕(((List Int)×Bool)⊕((List Int)×Int×Bool)))
  | (v4_10,v6_11)=>bif decide (v6_11<(v4_10.length:Int))then(((ix t0_3 v6_11).bind fun e34_26=>(p_spec_l9Takes n e34_26.f0 e34_26.f1 e34_26.f2 e34_26.f3).bind fun c38_27=>(ix v4_10 v6_11).bind fun e43_28=>(bif decide (e43_28<c38_27.1)then some true else bif decide ((300:Int)<e43_28)then some true else bif decide (e34_26.f0=(12:Int))then some (!decide (e43_28=(1:Int)))else some false).bind fun v60_29=>bif v60_29 then some (.inl (v4_10,false))else bif decide (e34_26.f0=(11:Int))then bif !true then some (.inl (v4_10,false))else some (.inr (v4_10,false,e34_26.f0,e34_26.f1,e34_26.f2,e34_26.f3))else bif decide (e34_26.f0=(12:Int))then bif !true then some (.inl (v4_10,false))else some (.inr (v4_10,false,e34_26.f0,e34_26.f1,e34_26.f2,e34_26.f3))else bif decide (e34_26.f0=(10:Int))then(p_spec_l9Come n v4_10 e34_26.f3 e43_28).bind fun c89_39=>bif !c89_39.1 then some (.inl (c89_39.2,false))else some (.inr (c89_39.2,false,e34_26.f0,e34_26.f1,e34_26.f2,e34_26.f3))else bif decide (e34_26.f0=(9:Int))then((p_spec_l9Come n v4_10 e34_26.f3 e43_28).bind fun c96_44=>bif c96_44.1 then bif decide ((IntKind.wrap .i64 (v6_11+(1:Int)))<(c96_44.2.length:Int))then(p_spec_l9Come n c96_44.2 (IntKind.wrap .i64 (v6_11+(1:Int))) (IntKind.wrap .i64 (e43_28 - (1:Int)))).bind fun c110_47=>some (c110_47.2,c110_47.1)else some (c96_44.2,false)else some (c96_44.2,false)).bind fun(v4_42,v11_43)=>bif !v11_43 then some (.inl (v4_42,false))else some (.inr (v4_42,false,e34_26.f0,e34_26.f1,e34_26.f2,e34_26.f3))else(bif decide ((IntKind.wrap .i64 (v6_11+(1:Int)))<(v4_10.length:Int))then(p_spec_l9Come n v4_10 (IntKind.wrap .i64 (v6_11+(1:Int))) (IntKind.wrap .i64 ((IntKind.wrap .i64 (e43_28 - c38_27.1))+c38_27.2))).bind fun c78_52=>some (c78_52.2,c78_52.1)else some (v4_10,false)).bind fun(v4_49,v11_50)=>bif !v11_50 then some (.inl (v4_49,false))else some (.inr (v4_49,false,e34_26.f0,e34_26.f1,e34_26.f2,e34_26.f3)):Option (((List Int)×Bool)⊕((List Int)×Bool×Int×Int×(List UInt8)×Int)))).bind fun q=>(match q with | .inl (v2_18,v3_19)=>some (.inr (.inl (v2_18,v3_19))) | .inr (v4_20,v113_21,w7_22,w7_23,w7_24,w7_25)=>some (.inl (v4_20,(IntKind.wrap .i64 (v6_11+(1:Int))))))else some (.inr (.inr (v4_10,v6_11,false)))
def p_spec_l9Heights(n:Nat)(t0_0:List UInt8)(t0_1:Int)(t0_2:Int)(t0_3:List S_impl_Ins):Option ((List Int)×Bool):=
  (ck (decide (0≤(t0_3.length:Int)∧(t0_3.length:Int)≤maxLen∧8*(t0_3.length:Int)≤281474976710656))).bind fun _=>(loopN (p_spec_l9Heights_b1 n) n ((List.replicate (Int.toNat (t0_3.length:Int)) (0:Int)),(1:Int))).bind fun(v4_4,v5_5,v19_6)=>(loopN (p_spec_l9Heights_b2 n t0_3) n (v4_4,(0:Int))).bind fun q=>(match q with | .inl (v2_12,v3_13)=>some (v2_12,v3_13) | .inr (v4_14,v6_15,v28_16)=>some (v4_14,true))
theorem big_spec_l9Heights{n:Nat}:B_spec_l9Heights (p_spec_l9Heights n):=by
 intro t0_0 t0_1 t0_2 t0_3 r h
 unfold p_spec_l9Heights at h
 refine bF Try.func259 rfl rfl<|cRs<|xBx rfl<|wAe (Li rI_i64 []) rfl rfl rfl rfl<|xAs rfl<|oRs<|xFd rfl<|xLd rfl<|xLn rfl<|oCk h (fun k15_0 h=> ?_)
 refine wMk (z:=(0:Int)) (f:=rI_i64) k15_0 rfl rfl rfl rfl rfl rfl rfl<|xAs rfl<|oNl<|cSq<|cRs<|xAs rfl<|oNl<|cLp h [(4,5),(16,24)] [] (fun(v4_2,v5_3)=>([(4,Li rI_i64 v4_2),(5,I64 v5_3)],[])) (fun(v4_4,v5_5,v19_6)=>(.e 0,[(4,Li rI_i64 v4_4),(5,I64 v5_5),(19,Bo v19_6)],[])) rfl (fun st _ h=> ?_) (fun q h=> ?_)
 obtain⟨v4_2,v5_3⟩:=st
 unfold p_spec_l9Heights_b1 at h
 refine cSq<|cRs<|xMv rfl<|xMv rfl<|xLn rfl<|xLt rfl<|oNl<|cIf h rfl (fun q7 h=> ?_) (fun q7 h=> ?_)
 refine cSk<|cSq<|cBk<|cRg<|wAl rfl rfl rfl rfl<|xMv rfl<|wIp (f:=rI_i64) h rfl rfl rfl rfl rfl rfl (fun _=>rfl) rfl (fun e24_8 ke24_8 h=> ?_)
 refine wSpN (f:=rI_i64) (v':=((-1):Int)) h ke24_8 rfl rfl rfl rfl rfl rfl rfl rfl rfl (fun u4_9 h=> ?_)
 exact oNl<|cRg<|xMv rfl<|xAdd rfl<|xAs rfl<|oNl<|eL h rfl
 exact cEx<|eX h rfl
 obtain⟨v4_4,v5_5,v19_6⟩:=q
 refine cSq<|cRs<|xAs rfl<|oNl<|cLp h [(2,4),(6,11),(25,114)] [(7,7)] (fun(v4_10,v6_11)=>([(4,Li rI_i64 v4_10),(6,I64 v6_11)],[])) (fun q=>match q with | .inl (v2_12,v3_13)=>(.r,[(2,Li rI_i64 v2_12),(3,Bo v3_13)],[]) | .inr (v4_14,v6_15,v28_16)=>(.e 2,[(4,Li rI_i64 v4_14),(6,I64 v6_15),(28,Bo v28_16)],[])) rfl (fun st _ h=> ?_) (fun q h=> ?_)
 obtain⟨v4_10,v6_11⟩:=st
 unfold p_spec_l9Heights_b2 at h
 refine cSq<|cRs<|xMv rfl<|xMv rfl<|xLn rfl<|xLt rfl<|oNl<|cIf h rfl (fun q17 h=> ?_) (fun q17 h=> ?_)
 refine cSk<|cSq<|cJn h [(2,4),(7,11),(31,114)] [(7,7)] (fun q=>match q with | .inl (v2_18,v3_19)=>(.r,[(2,Li rI_i64 v2_18),(3,Bo v3_19)],[]) | .inr (v4_20,v113_21,w7_22,w7_23,w7_24,w7_25)=>(.n,[(4,Li rI_i64 v4_20),(113,Bo v113_21)],[(7,[.int .i64 w7_22, .int .i64 w7_23, .str w7_24, .int .i64 w7_25])])) (fun _ h=> ?_) (fun q h=> ?_)
 refine cBk<|cRs<|xFd rfl<|xLd rfl<|xMv rfl<|xIx h rS_impl_Ins_eq rfl (fun e34_26 h=> ?_)
 refine xLd rfl<|xAc rfl<|xSt rfl<|oRs<|xLd rfl<|xC0 h (big_spec_l9Takes ·) rfl (fun c38_27 h=> ?_)
 refine xMv rfl<|xEt rfl<|xEt rfl<|xAs rfl<|xAs rfl<|oRs<|xMv rfl<|xMv rfl<|xIx h rI_i64_eq rfl (fun e43_28 h=> ?_)
 refine xLd rfl<|xAs rfl<|oNl<|cSq<|cRs<|oJn h [(45,60)] [] (fun v60_29=>(.n,[(60,Bo v60_29)],[])) (fun _ h=> ?_) (fun v60_29 h=> ?_)
 refine xMv rfl<|xMv rfl<|xLt rfl<|xMv rfl<|oIf 48 h rfl (fun q30 h=> ?_) (fun q30 h=> ?_)
 exact wSk rfl<|wSk rfl<|xPk rfl<|xMv rfl<|wSk rfl<|wSk rfl<|wSk rfl<|wSk rfl<|wSk rfl<|wSk rfl<|wSk rfl<|xPk rfl<|oNl<|eJ h rfl
 refine xMv rfl<|xGt rfl<|xPk rfl<|xMv rfl<|oIf 52 h rfl (fun q31 h=> ?_) (fun q31 h=> ?_)
 exact wSk rfl<|wSk rfl<|wSk rfl<|wSk rfl<|wSk rfl<|wSk rfl<|wSk rfl<|xPk rfl<|oNl<|eJ h rfl
 refine xFd rfl<|xLd rfl<|xEq rfl<|xMv rfl<|oIf 56 h rfl (fun q32 h=> ?_) (fun q32 h=> ?_)
 exact xMv rfl<|xNe rfl<|xPk rfl<|xPk rfl<|oNl<|eJ h rfl
 exact wSk rfl<|wSk rfl<|xPk rfl<|xPk rfl<|oNl<|eJ h rfl
 refine cIf h rfl (fun q33 h=> ?_) (fun q33 h=> ?_)
 exact cRs<|xMv rfl<|xAs rfl<|xAs rfl<|oNl<|cRt<|eJ h rfl
 refine cSk<|cRs<|xAs rfl<|oNl<|cSq<|cRs<|xFd rfl<|xLd rfl<|oNl<|cBk<|cSq<|cRs<|xEq rfl<|xAs rfl ?_
 refine oNl<|cIf h rfl (fun q34 h=> ?_) (fun q34 h=> ?_)
 refine cSk<|cT rfl<|cSk<|cRs<|xMv rfl<|xNot rfl<|oNl<|cIf h rfl (fun q35 h=> ?_) (fun q35 h=> ?_)
 exact cRs<|xMv rfl<|xAs rfl<|xAs rfl<|oNl<|cRt<|eJ h rfl
 exact cSk<|eJ h rfl
 refine cRg<|xEq rfl<|xAs rfl<|oNl<|cIf h rfl (fun q36 h=> ?_) (fun q36 h=> ?_)
 refine cSk<|cRs<|xMv rfl<|xNot rfl<|oNl<|cIf h rfl (fun q37 h=> ?_) (fun q37 h=> ?_)
 exact cRs<|xMv rfl<|xAs rfl<|xAs rfl<|oNl<|cRt<|eJ h rfl
 exact cSk<|eJ h rfl
 refine cRs<|xEq rfl<|xAs rfl<|oNl<|cIf h rfl (fun q38 h=> ?_) (fun q38 h=> ?_)
 refine cRg<|wAl rfl rfl rfl rfl<|xFd rfl<|xLd rfl<|xMv rfl<|xIo (fun c89_39=> .sl (c89_39.2.map rI_i64)) h (big_spec_l9Come ·) rfl (nav0 _) (fun _=>setAt0 _ _) (fun c89_39 h=> ?_)
 refine xAs rfl<|oNl<|cRs<|xMv rfl<|xNot rfl<|oNl<|cIf h rfl (fun q40 h=> ?_) (fun q40 h=> ?_)
 exact cRs<|xMv rfl<|xAs rfl<|xAs rfl<|oNl<|cRt<|eJ h rfl
 exact cSk<|eJ h rfl
 refine cRs<|xEq rfl<|xAs rfl<|oNl<|cIf h rfl (fun q41 h=> ?_) (fun q41 h=> ?_)
 refine cRg<|oJn h [(4,4),(11,11),(92,111)] [] (fun(v4_42,v11_43)=>(.n,[(4,Li rI_i64 v4_42),(11,Bo v11_43)],[])) (fun _ h=> ?_) (fun q h=> ?_)
 refine wAl rfl rfl rfl rfl<|xFd rfl<|xLd rfl<|xMv rfl<|xIo (fun c96_44=> .sl (c96_44.2.map rI_i64)) h (big_spec_l9Come ·) rfl (nav0 _) (fun _=>setAt0 _ _) (fun c96_44 h=> ?_)
 refine xMv rfl<|oIf 97 h rfl (fun q45 h=> ?_) (fun q45 h=> ?_)
 refine xMv rfl<|xAdd rfl<|xMv rfl<|xLn rfl<|xLt rfl<|xPk rfl<|xMv rfl<|oIf 104 h rfl (fun q46 h=> ?_) (fun q46 h=> ?_)
 refine wAl rfl rfl rfl rfl<|xMv rfl<|xAdd rfl<|xMv rfl<|xSub rfl<|xIo (fun c110_47=> .sl (c110_47.2.map rI_i64)) h (big_spec_l9Come ·) rfl (nav0 _) (fun _=>setAt0 _ _) (fun c110_47 h=> ?_)
 exact xPk rfl<|xAs rfl<|oNl<|eJ h rfl
 exact wSk rfl<|wSk rfl<|wSk rfl<|wSk rfl<|wSk rfl<|wSk rfl<|xPk rfl<|xAs rfl<|oNl<|eJ h rfl
 refine wSk rfl<|wSk rfl<|wSk rfl<|wSk rfl<|wSk rfl<|xPk rfl<|xMv rfl<|wSk rfl<|wSk rfl<|wSk rfl<|wSk rfl<|wSk rfl<|wSk rfl<|xPk rfl ?_
 exact xAs rfl<|oNl<|eJ h rfl
 obtain⟨v4_42,v11_43⟩:=q
 refine cRs<|xMv rfl<|xNot rfl<|oNl<|cIf h rfl (fun q48 h=> ?_) (fun q48 h=> ?_)
 exact cRs<|xMv rfl<|xAs rfl<|xAs rfl<|oNl<|cRt<|eJ h rfl
 exact cSk<|eJ h rfl
 refine cRg<|oJn h [(4,4),(11,11),(64,79)] [] (fun(v4_49,v11_50)=>(.n,[(4,Li rI_i64 v4_49),(11,Bo v11_50)],[])) (fun _ h=> ?_) (fun q h=> ?_)
 refine xMv rfl<|xAdd rfl<|xMv rfl<|xLn rfl<|xLt rfl<|xMv rfl<|oIf 69 h rfl (fun q51 h=> ?_) (fun q51 h=> ?_)
 refine wAl rfl rfl rfl rfl<|xMv rfl<|xAdd rfl<|xMv rfl<|xMv rfl<|xSub rfl<|xMv rfl<|xAdd rfl<|xIo (fun c78_52=> .sl (c78_52.2.map rI_i64)) h (big_spec_l9Come ·) rfl (nav0 _) (fun _=>setAt0 _ _) (fun c78_52 h=> ?_)
 exact xPk rfl<|xAs rfl<|oNl<|eJ h rfl
 exact wSk rfl<|wSk rfl<|wSk rfl<|wSk rfl<|wSk rfl<|wSk rfl<|wSk rfl<|wSk rfl<|wSk rfl<|xPk rfl<|xAs rfl<|oNl<|eJ h rfl
 obtain⟨v4_49,v11_50⟩:=q
 refine cRs<|xMv rfl<|xNot rfl<|oNl<|cIf h rfl (fun q53 h=> ?_) (fun q53 h=> ?_)
 exact cRs<|xMv rfl<|xAs rfl<|xAs rfl<|oNl<|cRt<|eJ h rfl
 exact cSk<|eJ h rfl
 rcases q with⟨v2_18,v3_19⟩ | ⟨v4_20,v113_21,w7_22,w7_23,w7_24,w7_25⟩
 exact eXr h rfl
 exact cRg<|xMv rfl<|xAdd rfl<|xAs rfl<|oNl<|eL h rfl
 exact cEx<|eX h rfl
 rcases q with⟨v2_12,v3_13⟩ | ⟨v4_14,v6_15,v28_16⟩
 cases h
 exact eR rfl rfl rfl rfl
 refine cRs<|xMv rfl<|xAs rfl<|xAs rfl<|oNl<|cRt ?_
 cases h
 exact eR rfl rfl rfl rfl
abbrev B_spec_l9FnOk(p:(List S_impl_Fn)→(List S_impl_Pat)→Int→Option (Bool)):Prop:= ∀ {t0_0:List S_impl_Fn} {t0_1:List S_impl_Pat} {t1_0:Int} {r:Bool},p t0_0 t0_1 t1_0=some r→Big Try.prog τ An (.fn 193 [.one (.ag [.sl (t0_0.map rS_impl_Fn), .sl (t0_1.map rS_impl_Pat)]), .one (.c (.int .i64 t1_0))] [] (.one (.c (.bool r))) none [] none)
def p_spec_l9FnOk_b1(n:Nat)(t0_0:List S_impl_Fn)(e13_1:S_impl_Fn)(t0_1:List S_impl_Pat):(Int)→Option ((Int)⊕((Bool)⊕(Int×Bool)))
  | v6_13=>bif decide (v6_13<(e13_1.f3.length:Int))then(p_spec_l9Ins n t0_0 t0_1 e13_1.f0 e13_1.f1 e13_1.f2 e13_1.f3 v6_13).bind fun c58_18=>bif !c58_18 then some (.inr (.inl false))else some (.inl (IntKind.wrap .i64 (v6_13+(1:Int))))else some (.inr (.inr (v6_13,false)))
def p_spec_l9FnOk(n:Nat)(t0_0:List S_impl_Fn)(t0_1:List S_impl_Pat)(t1_0:Int):Option (Bool):=
  (ix t0_0 t1_0).bind fun e13_1=>((p_spec_l4Atom n e13_1.f0).bind fun c17_3=>bif !c17_3 then some true else(p_spec_l9FnAt n t0_0 t0_1 e13_1.f0).bind fun c23_5=>bif !decide (c23_5=t1_0)then some true else(p_spec_l1In n e13_1.f1 (0:Int) (4:Int)).bind fun c30_7=>bif !c30_7 then some true else(p_spec_l1In n e13_1.f2 e13_1.f1 (400:Int)).bind fun c38_9=>bif !c38_9 then some true else(p_spec_l1In n (e13_1.f3.length:Int) (1:Int) (1500:Int)).bind fun c45_11=>some (!c45_11)).bind fun v47_2=>bif v47_2 then some false else(loopN (p_spec_l9FnOk_b1 n t0_0 e13_1 t0_1) n (0:Int)).bind fun q=>(match q with | .inl v4_14=>some v4_14 | .inr (v6_15,v52_16)=>(p_spec_l9Heights n e13_1.f0 e13_1.f1 e13_1.f2 e13_1.f3).bind fun c62_20=>(ix e13_1.f3 (IntKind.wrap .i64 ((e13_1.f3.length:Int) - (1:Int)))).bind fun e71_21=>(bif c62_20.2 then bif decide (e71_21.f0=(12:Int))then some true else some (decide (e71_21.f0=(11:Int)))else some false).bind fun v4_22=>some v4_22)
theorem big_spec_l9FnOk{n:Nat}:B_spec_l9FnOk (p_spec_l9FnOk n):=by
 intro t0_0 t0_1 t1_0 r h
 unfold p_spec_l9FnOk at h
 refine bF Try.func193 rfl rfl<|cRs<|xBx rfl<|xAs rfl<|oRs<|xFd rfl<|xLd rfl<|xMv rfl<|xIx h rS_impl_Fn_eq rfl (fun e13_1 h=> ?_)
 refine xLd rfl<|xAz [.str [], .int .i64 0, .int .i64 0, .sl ([].map rS_impl_Ins)] rfl<|xSt rfl<|oNl<|cSq<|cRs<|oJn h [(15,47)] [] (fun v47_2=>(.n,[(47,Bo v47_2)],[])) (fun _ h=> ?_) (fun v47_2 h=> ?_)
 refine xFd rfl<|xLd rfl<|xC0 h (big_spec_l4Atom ·) rfl (fun c17_3 h=> ?_)
 refine xNot rfl<|xMv rfl<|oIf 19 h rfl (fun q4 h=> ?_) (fun q4 h=> ?_)
 refine wSk rfl<|wSk rfl<|wSk rfl<|wSk rfl<|wSk rfl<|wSk rfl<|xPk rfl<|xMv rfl<|wSk rfl<|wSk rfl<|wSk rfl<|wSk rfl<|xPk rfl<|xMv rfl ?_
 refine wSk rfl<|wSk rfl<|wSk rfl<|wSk rfl<|wSk rfl<|wSk rfl<|xPk rfl<|xMv rfl<|wSk rfl<|wSk rfl<|wSk rfl<|wSk rfl<|wSk rfl<|xPk rfl ?_
 exact oNl<|eJ h rfl
 refine xLd rfl<|xFd rfl<|xLd rfl<|xC0 h (big_spec_l9FnAt ·) rfl (fun c23_5 h=> ?_)
 refine xMv rfl<|xNe rfl<|xPk rfl<|xMv rfl<|oIf 27 h rfl (fun q6 h=> ?_) (fun q6 h=> ?_)
 refine wSk rfl<|wSk rfl<|wSk rfl<|wSk rfl<|xPk rfl<|xMv rfl<|wSk rfl<|wSk rfl<|wSk rfl<|wSk rfl<|wSk rfl<|wSk rfl<|xPk rfl<|xMv rfl ?_
 exact wSk rfl<|wSk rfl<|wSk rfl<|wSk rfl<|wSk rfl<|xPk rfl<|oNl<|eJ h rfl
 refine xFd rfl<|xLd rfl<|xC0 h (big_spec_l1In ·) rfl (fun c30_7 h=> ?_)
 refine xNot rfl<|xPk rfl<|xMv rfl<|oIf 33 h rfl (fun q8 h=> ?_) (fun q8 h=> ?_)
 refine wSk rfl<|wSk rfl<|wSk rfl<|wSk rfl<|wSk rfl<|wSk rfl<|xPk rfl<|xMv rfl<|wSk rfl<|wSk rfl<|wSk rfl<|wSk rfl<|wSk rfl<|xPk rfl ?_
 exact oNl<|eJ h rfl
 refine xFd rfl<|xLd rfl<|xFd rfl<|xLd rfl<|xC0 h (big_spec_l1In ·) rfl (fun c38_9 h=> ?_)
 refine xNot rfl<|xPk rfl<|xMv rfl<|oIf 41 h rfl (fun q10 h=> ?_) (fun q10 h=> ?_)
 exact wSk rfl<|wSk rfl<|wSk rfl<|wSk rfl<|wSk rfl<|xPk rfl<|oNl<|eJ h rfl
 refine xFd rfl<|xLd rfl<|xLn rfl<|xC0 h (big_spec_l1In ·) rfl (fun c45_11 h=> ?_)
 exact xNot rfl<|xPk rfl<|oNl<|eJ h rfl
 refine cIf h rfl (fun q12 h=> ?_) (fun q12 h=> ?_)
 refine cRs<|xAs rfl<|oNl<|cRt ?_
 cases h
 exact eR rfl rfl rfl rfl
 refine cSk<|cSq<|cRs<|xAs rfl<|oNl<|cLp h [(4,4),(6,6),(48,59)] [] (fun v6_13=>([(6,I64 v6_13)],[])) (fun q=>match q with | .inl v4_14=>(.r,[(4,Bo v4_14)],[]) | .inr (v6_15,v52_16)=>(.e 0,[(6,I64 v6_15),(52,Bo v52_16)],[])) rfl (fun v6_13 _ h=> ?_) (fun q h=> ?_)
 unfold p_spec_l9FnOk_b1 at h
 refine cSq<|cRs<|xMv rfl<|xFd rfl<|xLd rfl<|xLn rfl<|xLt rfl<|oNl<|cIf h rfl (fun q17 h=> ?_) (fun q17 h=> ?_)
 refine cSk<|cSq<|cBk<|cRs<|xLd rfl<|xLd rfl<|xMv rfl<|xC0 h (big_spec_l9Ins ·) rfl (fun c58_18 h=> ?_)
 refine xNot rfl<|oNl<|cIf h rfl (fun q19 h=> ?_) (fun q19 h=> ?_)
 exact cRs<|xAs rfl<|oNl<|cRt<|eXr h rfl
 exact cSk<|cRg<|xMv rfl<|xAdd rfl<|xAs rfl<|oNl<|eL h rfl
 exact cEx<|eX h rfl
 rcases q with v4_14 | ⟨v6_15,v52_16⟩
 cases h
 exact eR rfl rfl rfl rfl
 refine cRs<|xLd rfl<|xC0 h (big_spec_l9Heights ·) rfl (fun c62_20 h=> ?_)
 refine xMv rfl<|xEt rfl<|xEt rfl<|xAs rfl<|xAs rfl<|oRs<|xFd rfl<|xLd rfl<|xFd rfl<|xLd rfl<|xLn rfl<|xSub rfl<|xIx h rS_impl_Ins_eq rfl (fun e71_21 h=> ?_)
 refine xFd rfl<|xLd rfl<|xAs rfl<|oRs<|oJn h [(4,4),(74,82)] [] (fun v4_22=>(.n,[(4,Bo v4_22)],[])) (fun _ h=> ?_) (fun v4_22 h=> ?_)
 refine xMv rfl<|xMv rfl<|oIf 75 h rfl (fun q23 h=> ?_) (fun q23 h=> ?_)
 refine xMv rfl<|xEq rfl<|xMv rfl<|oIf 78 h rfl (fun q24 h=> ?_) (fun q24 h=> ?_)
 exact wSk rfl<|wSk rfl<|xPk rfl<|xPk rfl<|xAs rfl<|oNl<|eJ h rfl
 exact xMv rfl<|xEq rfl<|xPk rfl<|xPk rfl<|xAs rfl<|oNl<|eJ h rfl
 exact wSk rfl<|wSk rfl<|wSk rfl<|wSk rfl<|wSk rfl<|wSk rfl<|xPk rfl<|xAs rfl<|oNl<|eJ h rfl
 refine cRt ?_
 cases h
 exact eR rfl rfl rfl rfl
abbrev B_spec_CodeOk(p:(List S_impl_Fn)→(List S_impl_Pat)→Option (Bool)):Prop:= ∀ {t0_0:List S_impl_Fn} {t0_1:List S_impl_Pat} {r:Bool},p t0_0 t0_1=some r→Big Try.prog τ An (.fn 102 [.one (.ag [.sl (t0_0.map rS_impl_Fn), .sl (t0_1.map rS_impl_Pat)])] [] (.one (.c (.bool r))) none [] none)
def p_spec_CodeOk_b1(n:Nat)(t0_0:List S_impl_Fn)(t0_1:List S_impl_Pat):(Int)→Option ((Int)⊕((Bool)⊕(Int×Bool)))
  | v3_4=>bif decide (v3_4<(t0_0.length:Int))then(p_spec_l9FnOk n t0_0 t0_1 v3_4).bind fun c23_9=>bif !c23_9 then some (.inr (.inl false))else some (.inl (IntKind.wrap .i64 (v3_4+(1:Int))))else some (.inr (.inr (v3_4,false)))
def p_spec_CodeOk(n:Nat)(t0_0:List S_impl_Fn)(t0_1:List S_impl_Pat):Option (Bool):=
  (bif decide ((12:Int)<(t0_0.length:Int))then some true else some (decide ((2000:Int)<(t0_1.length:Int)))).bind fun v13_1=>bif v13_1 then some false else(loopN (p_spec_CodeOk_b1 n t0_0 t0_1) n (0:Int)).bind fun q=>(match q with | .inl v2_5=>some v2_5 | .inr (v3_6,v18_7)=>some true)
theorem big_spec_CodeOk{n:Nat}:B_spec_CodeOk (p_spec_CodeOk n):=by
 intro t0_0 t0_1 r h
 unfold p_spec_CodeOk at h
 refine bF Try.func102 rfl rfl<|cRs<|xBx rfl<|xAs rfl<|oNl<|cSq<|cRs<|oJn h [(4,13)] [] (fun v13_1=>(.n,[(13,Bo v13_1)],[])) (fun _ h=> ?_) (fun v13_1 h=> ?_)
 refine xFd rfl<|xLd rfl<|xLn rfl<|xGt rfl<|xMv rfl<|oIf 8 h rfl (fun q2 h=> ?_) (fun q2 h=> ?_)
 exact wSk rfl<|wSk rfl<|wSk rfl<|wSk rfl<|xPk rfl<|oNl<|eJ h rfl
 exact xFd rfl<|xLd rfl<|xLn rfl<|xGt rfl<|xPk rfl<|oNl<|eJ h rfl
 refine cIf h rfl (fun q3 h=> ?_) (fun q3 h=> ?_)
 refine cRs<|xAs rfl<|oNl<|cRt ?_
 cases h
 exact eR rfl rfl rfl rfl
 refine cSk<|cSq<|cRs<|xAs rfl<|oNl<|cLp h [(2,3),(14,24)] [] (fun v3_4=>([(3,I64 v3_4)],[])) (fun q=>match q with | .inl v2_5=>(.r,[(2,Bo v2_5)],[]) | .inr (v3_6,v18_7)=>(.e 0,[(3,I64 v3_6),(18,Bo v18_7)],[])) rfl (fun v3_4 _ h=> ?_) (fun q h=> ?_)
 unfold p_spec_CodeOk_b1 at h
 refine cSq<|cRs<|xMv rfl<|xFd rfl<|xLd rfl<|xLn rfl<|xLt rfl<|oNl<|cIf h rfl (fun q8 h=> ?_) (fun q8 h=> ?_)
 refine cSk<|cSq<|cBk<|cRs<|xLd rfl<|xMv rfl<|xC0 h (big_spec_l9FnOk ·) rfl (fun c23_9 h=> ?_)
 refine xNot rfl<|oNl<|cIf h rfl (fun q10 h=> ?_) (fun q10 h=> ?_)
 exact cRs<|xAs rfl<|oNl<|cRt<|eXr h rfl
 exact cSk<|cRg<|xMv rfl<|xAdd rfl<|xAs rfl<|oNl<|eL h rfl
 exact cEx<|eX h rfl
 rcases q with v2_5 | ⟨v3_6,v18_7⟩
 cases h
 exact eR rfl rfl rfl rfl
 refine cRs<|xAs rfl<|oNl<|cRt ?_
 cases h
 exact eR rfl rfl rfl rfl
abbrev B_spec_l11Pats(p:(List S_impl_Fn)→(List S_impl_Pat)→Option (Bool)):Prop:= ∀ {t0_0:List S_impl_Fn} {t0_1:List S_impl_Pat} {r:Bool},p t0_0 t0_1=some r→Big Try.prog τ An (.fn 103 [.one (.ag [.sl (t0_0.map rS_impl_Fn), .sl (t0_1.map rS_impl_Pat)])] [] (.one (.c (.bool r))) none [] none)
def p_spec_l11Pats_b1(n:Nat)(t0_1:List S_impl_Pat):(Int)→Option ((Int)⊕((Bool)⊕(Int×Bool)))
  | v3_1=>bif decide (v3_1<(t0_1.length:Int))then(ix t0_1 v3_1).bind fun e14_6=>(p_spec_PatFits n e14_6.f0 e14_6.f1 e14_6.f2 e14_6.f3 (400:Int)).bind fun c16_7=>bif !c16_7 then some (.inr (.inl false))else some (.inl (IntKind.wrap .i64 (v3_1+(1:Int))))else some (.inr (.inr (v3_1,false)))
def p_spec_l11Pats(n:Nat)(t0_0:List S_impl_Fn)(t0_1:List S_impl_Pat):Option (Bool):=
  (loopN (p_spec_l11Pats_b1 n t0_1) n (0:Int)).bind fun q=>(match q with | .inl v2_2=>some v2_2 | .inr (v3_3,v8_4)=>some true)
theorem big_spec_l11Pats{n:Nat}:B_spec_l11Pats (p_spec_l11Pats n):=by
 intro t0_0 t0_1 r h
 unfold p_spec_l11Pats at h
 refine bF Try.func103 rfl rfl<|cRs<|xBx rfl<|xAs rfl<|oNl<|cSq<|cRs<|xAs rfl<|oNl<|cLp h [(2,17)] [] (fun v3_1=>([(3,I64 v3_1)],[])) (fun q=>match q with | .inl v2_2=>(.r,[(2,Bo v2_2)],[]) | .inr (v3_3,v8_4)=>(.e 0,[(3,I64 v3_3),(8,Bo v8_4)],[])) rfl (fun v3_1 _ h=> ?_) (fun q h=> ?_)
 unfold p_spec_l11Pats_b1 at h
 refine cSq<|cRs<|xMv rfl<|xFd rfl<|xLd rfl<|xLn rfl<|xLt rfl<|oNl<|cIf h rfl (fun q5 h=> ?_) (fun q5 h=> ?_)
 refine cSk<|cSq<|cBk<|cRs<|xFd rfl<|xLd rfl<|xMv rfl<|xIx h rS_impl_Pat_eq rfl (fun e14_6 h=> ?_)
 refine xLd rfl<|xC0 h (big_spec_PatFits ·) rfl (fun c16_7 h=> ?_)
 refine xNot rfl<|oNl<|cIf h rfl (fun q8 h=> ?_) (fun q8 h=> ?_)
 exact cRs<|xAs rfl<|oNl<|cRt<|eXr h rfl
 exact cSk<|cRg<|xMv rfl<|xAdd rfl<|xAs rfl<|oNl<|eL h rfl
 exact cEx<|eX h rfl
 rcases q with v2_2 | ⟨v3_3,v8_4⟩
 cases h
 exact eR rfl rfl rfl rfl
 refine cRs<|xAs rfl<|oNl<|cRt ?_
 cases h
 exact eR rfl rfl rfl rfl
abbrev B_spec_PutNum(p:(List Int)→Int→Option ((List Int))):Prop:= ∀ {t0_0:List Int} {t1_0:Int} {r:(List Int)},p t0_0 t1_0=some r→Big Try.prog τ An (.fn 104 [.one (.c (.sl (t0_0.map rI_u8))), .one (.c (.int .i64 t1_0))] [] (.one (.c (.sl (r.map rI_u8)))) none [] none)
def p_spec_PutNum_b1(n:Nat):((List Int)×Int)→Option (((List Int)×Int)⊕(((List Int)×Int×Bool)))
  | (v5_5,v6_6)=>bif decide ((127:Int)<v6_6)then(app2 1 v5_5 ([(IntKind.wrap .u8 (bits .or .i64 (bits .and .i64 v6_6 (127:Int)) (128:Int)))]:List Int)).bind fun v29_11=>some (.inl (v29_11,(Int.fdiv v6_6 (2 ^ 7))))else some (.inr (v5_5,v6_6,false))
def p_spec_PutNum_b2(n:Nat):((List Int)×Int)→Option (((List Int)×Int)⊕(((List Int)×Int×Bool)))
  | (v5_13,v6_14)=>bif decide ((127:Int)<v6_14)then(app2 1 v5_13 ([(IntKind.wrap .u8 (bits .or .i64 (bits .and .i64 v6_14 (127:Int)) (128:Int)))]:List Int)).bind fun v29_19=>some (.inl (v29_19,(Int.fdiv v6_14 (2 ^ 7))))else some (.inr (v5_13,v6_14,false))
def p_spec_PutNum_b3(n:Nat):((List Int)×Int)→Option (((List Int)×Int)⊕(((List Int)×Int×Bool)))
  | (v5_22,v6_23)=>bif decide ((127:Int)<v6_23)then(app2 1 v5_22 ([(IntKind.wrap .u8 (bits .or .i64 (bits .and .i64 v6_23 (127:Int)) (128:Int)))]:List Int)).bind fun v29_28=>some (.inl (v29_28,(Int.fdiv v6_23 (2 ^ 7))))else some (.inr (v5_22,v6_23,false))
def p_spec_PutNum_b4(n:Nat):((List Int)×Int)→Option (((List Int)×Int)⊕(((List Int)×Int×Bool)))
  | (v5_30,v6_31)=>bif decide ((127:Int)<v6_31)then(app2 1 v5_30 ([(IntKind.wrap .u8 (bits .or .i64 (bits .and .i64 v6_31 (127:Int)) (128:Int)))]:List Int)).bind fun v29_36=>some (.inl (v29_36,(Int.fdiv v6_31 (2 ^ 7))))else some (.inr (v5_30,v6_31,false))
def p_spec_PutNum_b5(n:Nat):((List Int)×Int)→Option (((List Int)×Int)⊕(((List Int)×Int×Bool)))
  | (v5_40,v6_41)=>bif decide ((127:Int)<v6_41)then(app2 1 v5_40 ([(IntKind.wrap .u8 (bits .or .i64 (bits .and .i64 v6_41 (127:Int)) (128:Int)))]:List Int)).bind fun v29_46=>some (.inl (v29_46,(Int.fdiv v6_41 (2 ^ 7))))else some (.inr (v5_40,v6_41,false))
def p_spec_PutNum_b6(n:Nat):((List Int)×Int)→Option (((List Int)×Int)⊕(((List Int)×Int×Bool)))
  | (v5_48,v6_49)=>bif decide ((127:Int)<v6_49)then(app2 1 v5_48 ([(IntKind.wrap .u8 (bits .or .i64 (bits .and .i64 v6_49 (127:Int)) (128:Int)))]:List Int)).bind fun v29_54=>some (.inl (v29_54,(Int.fdiv v6_49 (2 ^ 7))))else some (.inr (v5_48,v6_49,false))
def p_spec_PutNum_b7(n:Nat):((List Int)×Int)→Option (((List Int)×Int)⊕(((List Int)×Int×Bool)))
  | (v5_57,v6_58)=>bif decide ((127:Int)<v6_58)then(app2 1 v5_57 ([(IntKind.wrap .u8 (bits .or .i64 (bits .and .i64 v6_58 (127:Int)) (128:Int)))]:List Int)).bind fun v29_63=>some (.inl (v29_63,(Int.fdiv v6_58 (2 ^ 7))))else some (.inr (v5_57,v6_58,false))
def p_spec_PutNum_b8(n:Nat):((List Int)×Int)→Option (((List Int)×Int)⊕(((List Int)×Int×Bool)))
  | (v5_65,v6_66)=>bif decide ((127:Int)<v6_66)then(app2 1 v5_65 ([(IntKind.wrap .u8 (bits .or .i64 (bits .and .i64 v6_66 (127:Int)) (128:Int)))]:List Int)).bind fun v29_71=>some (.inl (v29_71,(Int.fdiv v6_66 (2 ^ 7))))else some (.inr (v5_65,v6_66,false))
def p_spec_PutNum(n:Nat)(t0_0:List Int)(t1_0:Int):Option ((List Int)):=
  (app2 1 ([]:List Int) t0_0).bind fun v9_1=>bif decide ((1000000000000:Int)<t1_0)then bif decide ((1000000000000:Int)<((-1000000000000):Int))then bif decide (((-1000000000000):Int)<(0:Int))then(loopN (p_spec_PutNum_b1 n) n (v9_1,(IntKind.wrap .i64 ((IntKind.wrap .i64 (((-2):Int)*((-1000000000000):Int))) - (1:Int))))).bind fun(v5_7,v6_8,v22_9)=>(app2 1 v5_7 ([(IntKind.wrap .u8 v6_8)]:List Int)).bind fun v36_12=>some v36_12 else(loopN (p_spec_PutNum_b2 n) n (v9_1,(IntKind.wrap .i64 ((2:Int)*((-1000000000000):Int))))).bind fun(v5_15,v6_16,v22_17)=>(app2 1 v5_15 ([(IntKind.wrap .u8 v6_16)]:List Int)).bind fun v36_20=>some v36_20 else bif decide ((1000000000000:Int)<(0:Int))then(loopN (p_spec_PutNum_b3 n) n (v9_1,(IntKind.wrap .i64 ((IntKind.wrap .i64 (((-2):Int)*(1000000000000:Int))) - (1:Int))))).bind fun(v5_24,v6_25,v22_26)=>(app2 1 v5_24 ([(IntKind.wrap .u8 v6_25)]:List Int)).bind fun v36_29=>some v36_29 else(loopN (p_spec_PutNum_b4 n) n (v9_1,(IntKind.wrap .i64 ((2:Int)*(1000000000000:Int))))).bind fun(v5_32,v6_33,v22_34)=>(app2 1 v5_32 ([(IntKind.wrap .u8 v6_33)]:List Int)).bind fun v36_37=>some v36_37 else bif decide (t1_0<((-1000000000000):Int))then bif decide (((-1000000000000):Int)<(0:Int))then(loopN (p_spec_PutNum_b5 n) n (v9_1,(IntKind.wrap .i64 ((IntKind.wrap .i64 (((-2):Int)*((-1000000000000):Int))) - (1:Int))))).bind fun(v5_42,v6_43,v22_44)=>(app2 1 v5_42 ([(IntKind.wrap .u8 v6_43)]:List Int)).bind fun v36_47=>some v36_47 else(loopN (p_spec_PutNum_b6 n) n (v9_1,(IntKind.wrap .i64 ((2:Int)*((-1000000000000):Int))))).bind fun(v5_50,v6_51,v22_52)=>(app2 1 v5_50 ([(IntKind.wrap .u8 v6_51)]:List Int)).bind fun v36_55=>some v36_55 else bif decide (t1_0<(0:Int))then(loopN (p_spec_PutNum_b7 n) n (v9_1,(IntKind.wrap .i64 ((IntKind.wrap .i64 (((-2):Int)*t1_0)) - (1:Int))))).bind fun(v5_59,v6_60,v22_61)=>(app2 1 v5_59 ([(IntKind.wrap .u8 v6_60)]:List Int)).bind fun v36_64=>some v36_64 else(loopN (p_spec_PutNum_b8 n) n (v9_1,(IntKind.wrap .i64 ((2:Int)*t1_0)))).bind fun(v5_67,v6_68,v22_69)=>(app2 1 v5_67 ([(IntKind.wrap .u8 v6_68)]:List Int)).bind fun v36_72=>some v36_72
theorem big_spec_PutNum{n:Nat}:B_spec_PutNum (p_spec_PutNum n):=by
 intro t0_0 t1_0 r h
 unfold p_spec_PutNum at h
 refine bF Try.func104 rfl rfl<|cRs<|wAe (Li rI_u8 []) rfl rfl rfl rfl<|oRs<|wLt' (L:=([]:List Int)) (f:=rI_u8) rfl rfl rfl rfl rfl rfl rfl<|xMv rfl<|wAp (f:=rI_u8) h rfl rfl rfl rfl rfl rfl rfl rfl rfl (fun _=>rfl) rfl (fun v9_1 h=> ?_)
 refine xAs rfl<|oNl<|cSq<|cRs<|xMv rfl<|xGt rfl<|oNl<|cIf h rfl (fun q2 h=> ?_) (fun q2 h=> ?_)
 refine cRg<|xAs rfl<|oNl<|cSq<|cRs<|xMv rfl<|xLt rfl<|oNl<|cIf h rfl (fun q3 h=> ?_) (fun q3 h=> ?_)
 refine cRg<|xAs rfl<|oNl<|cRs<|xMv rfl<|xMul rfl<|xAs rfl<|oNl<|cSq<|cRs<|xMv rfl<|xLt rfl<|oNl<|cIf h rfl (fun q4 h=> ?_) (fun q4 h=> ?_)
 refine cRg<|xMv rfl<|xMul rfl<|xSub rfl<|xAs rfl<|oNl<|cSq<|cLp h [(5,6),(21,31)] [] (fun(v5_5,v6_6)=>([(5,Li rI_u8 v5_5),(6,I64 v6_6)],[])) (fun(v5_7,v6_8,v22_9)=>(.e 0,[(5,Li rI_u8 v5_7),(6,I64 v6_8),(22,Bo v22_9)],[])) rfl (fun st _ h=> ?_) (fun q h=> ?_)
 obtain⟨v5_5,v6_6⟩:=st
 unfold p_spec_PutNum_b1 at h
 refine cSq<|cRs<|xMv rfl<|xGt rfl<|oNl<|cIf h rfl (fun q10 h=> ?_) (fun q10 h=> ?_)
 refine cSk<|cBk<|cRs<|xMv rfl<|xMv rfl<|wBi (.int .i64 (bits .and .i64 v6_6 (127:Int))) rfl rfl rfl rfl rfl<|wBi (.int .i64 (bits .or .i64 (bits .and .i64 v6_6 (127:Int)) (128:Int))) rfl rfl rfl rfl rfl<|wCv rfl rfl rfl rfl rfl<|wLt' (L:=([(IntKind.wrap .u8 (bits .or .i64 (bits .and .i64 v6_6 (127:Int)) (128:Int)))]:List Int)) (f:=rI_u8) rfl rfl rfl rfl rfl rfl rfl<|wAp (f:=rI_u8) h rfl rfl rfl rfl rfl rfl rfl rfl rfl (fun _=>rfl) rfl (fun v29_11 h=> ?_)
 exact xAs rfl<|oNl<|cRg<|xMv rfl<|wBi (.int .i64 (Int.fdiv v6_6 (2 ^ 7))) rfl rfl rfl rfl rfl<|xAs rfl<|oNl<|eL h rfl
 exact cEx<|eX h rfl
 obtain⟨v5_7,v6_8,v22_9⟩:=q
 refine cRs<|xMv rfl<|xMv rfl<|wCv rfl rfl rfl rfl rfl<|wLt' (L:=([(IntKind.wrap .u8 v6_8)]:List Int)) (f:=rI_u8) rfl rfl rfl rfl rfl rfl rfl<|wAp (f:=rI_u8) h rfl rfl rfl rfl rfl rfl rfl rfl rfl (fun _=>rfl) rfl (fun v36_12 h=> ?_)
 refine xAs rfl<|oNl<|cRt ?_
 cases h
 exact eR rfl rfl rfl rfl
 refine cSk<|cSq<|cLp h [(5,6),(21,31)] [] (fun(v5_13,v6_14)=>([(5,Li rI_u8 v5_13),(6,I64 v6_14)],[])) (fun(v5_15,v6_16,v22_17)=>(.e 0,[(5,Li rI_u8 v5_15),(6,I64 v6_16),(22,Bo v22_17)],[])) rfl (fun st _ h=> ?_) (fun q h=> ?_)
 obtain⟨v5_13,v6_14⟩:=st
 unfold p_spec_PutNum_b2 at h
 refine cSq<|cRs<|xMv rfl<|xGt rfl<|oNl<|cIf h rfl (fun q18 h=> ?_) (fun q18 h=> ?_)
 refine cSk<|cBk<|cRs<|xMv rfl<|xMv rfl<|wBi (.int .i64 (bits .and .i64 v6_14 (127:Int))) rfl rfl rfl rfl rfl<|wBi (.int .i64 (bits .or .i64 (bits .and .i64 v6_14 (127:Int)) (128:Int))) rfl rfl rfl rfl rfl<|wCv rfl rfl rfl rfl rfl<|wLt' (L:=([(IntKind.wrap .u8 (bits .or .i64 (bits .and .i64 v6_14 (127:Int)) (128:Int)))]:List Int)) (f:=rI_u8) rfl rfl rfl rfl rfl rfl rfl<|wAp (f:=rI_u8) h rfl rfl rfl rfl rfl rfl rfl rfl rfl (fun _=>rfl) rfl (fun v29_19 h=> ?_)
 exact xAs rfl<|oNl<|cRg<|xMv rfl<|wBi (.int .i64 (Int.fdiv v6_14 (2 ^ 7))) rfl rfl rfl rfl rfl<|xAs rfl<|oNl<|eL h rfl
 exact cEx<|eX h rfl
 obtain⟨v5_15,v6_16,v22_17⟩:=q
 refine cRs<|xMv rfl<|xMv rfl<|wCv rfl rfl rfl rfl rfl<|wLt' (L:=([(IntKind.wrap .u8 v6_16)]:List Int)) (f:=rI_u8) rfl rfl rfl rfl rfl rfl rfl<|wAp (f:=rI_u8) h rfl rfl rfl rfl rfl rfl rfl rfl rfl (fun _=>rfl) rfl (fun v36_20 h=> ?_)
 refine xAs rfl<|oNl<|cRt ?_
 cases h
 exact eR rfl rfl rfl rfl
 refine cSk<|cRs<|xMv rfl<|xMul rfl<|xAs rfl<|oNl<|cSq<|cRs<|xMv rfl<|xLt rfl<|oNl<|cIf h rfl (fun q21 h=> ?_) (fun q21 h=> ?_)
 refine cRg<|xMv rfl<|xMul rfl<|xSub rfl<|xAs rfl<|oNl<|cSq<|cLp h [(5,6),(21,31)] [] (fun(v5_22,v6_23)=>([(5,Li rI_u8 v5_22),(6,I64 v6_23)],[])) (fun(v5_24,v6_25,v22_26)=>(.e 0,[(5,Li rI_u8 v5_24),(6,I64 v6_25),(22,Bo v22_26)],[])) rfl (fun st _ h=> ?_) (fun q h=> ?_)
 obtain⟨v5_22,v6_23⟩:=st
 unfold p_spec_PutNum_b3 at h
 refine cSq<|cRs<|xMv rfl<|xGt rfl<|oNl<|cIf h rfl (fun q27 h=> ?_) (fun q27 h=> ?_)
 refine cSk<|cBk<|cRs<|xMv rfl<|xMv rfl<|wBi (.int .i64 (bits .and .i64 v6_23 (127:Int))) rfl rfl rfl rfl rfl<|wBi (.int .i64 (bits .or .i64 (bits .and .i64 v6_23 (127:Int)) (128:Int))) rfl rfl rfl rfl rfl<|wCv rfl rfl rfl rfl rfl<|wLt' (L:=([(IntKind.wrap .u8 (bits .or .i64 (bits .and .i64 v6_23 (127:Int)) (128:Int)))]:List Int)) (f:=rI_u8) rfl rfl rfl rfl rfl rfl rfl<|wAp (f:=rI_u8) h rfl rfl rfl rfl rfl rfl rfl rfl rfl (fun _=>rfl) rfl (fun v29_28 h=> ?_)
 exact xAs rfl<|oNl<|cRg<|xMv rfl<|wBi (.int .i64 (Int.fdiv v6_23 (2 ^ 7))) rfl rfl rfl rfl rfl<|xAs rfl<|oNl<|eL h rfl
 exact cEx<|eX h rfl
 obtain⟨v5_24,v6_25,v22_26⟩:=q
 refine cRs<|xMv rfl<|xMv rfl<|wCv rfl rfl rfl rfl rfl<|wLt' (L:=([(IntKind.wrap .u8 v6_25)]:List Int)) (f:=rI_u8) rfl rfl rfl rfl rfl rfl rfl<|wAp (f:=rI_u8) h rfl rfl rfl rfl rfl rfl rfl rfl rfl (fun _=>rfl) rfl (fun v36_29 h=> ?_)
 refine xAs rfl<|oNl<|cRt ?_
 cases h
 exact eR rfl rfl rfl rfl
 refine cSk<|cSq<|cLp h [(5,6),(21,31)] [] (fun(v5_30,v6_31)=>([(5,Li rI_u8 v5_30),(6,I64 v6_31)],[])) (fun(v5_32,v6_33,v22_34)=>(.e 0,[(5,Li rI_u8 v5_32),(6,I64 v6_33),(22,Bo v22_34)],[])) rfl (fun st _ h=> ?_) (fun q h=> ?_)
 obtain⟨v5_30,v6_31⟩:=st
 unfold p_spec_PutNum_b4 at h
 refine cSq<|cRs<|xMv rfl<|xGt rfl<|oNl<|cIf h rfl (fun q35 h=> ?_) (fun q35 h=> ?_)
 refine cSk<|cBk<|cRs<|xMv rfl<|xMv rfl<|wBi (.int .i64 (bits .and .i64 v6_31 (127:Int))) rfl rfl rfl rfl rfl<|wBi (.int .i64 (bits .or .i64 (bits .and .i64 v6_31 (127:Int)) (128:Int))) rfl rfl rfl rfl rfl<|wCv rfl rfl rfl rfl rfl<|wLt' (L:=([(IntKind.wrap .u8 (bits .or .i64 (bits .and .i64 v6_31 (127:Int)) (128:Int)))]:List Int)) (f:=rI_u8) rfl rfl rfl rfl rfl rfl rfl<|wAp (f:=rI_u8) h rfl rfl rfl rfl rfl rfl rfl rfl rfl (fun _=>rfl) rfl (fun v29_36 h=> ?_)
 exact xAs rfl<|oNl<|cRg<|xMv rfl<|wBi (.int .i64 (Int.fdiv v6_31 (2 ^ 7))) rfl rfl rfl rfl rfl<|xAs rfl<|oNl<|eL h rfl
 exact cEx<|eX h rfl
 obtain⟨v5_32,v6_33,v22_34⟩:=q
 refine cRs<|xMv rfl<|xMv rfl<|wCv rfl rfl rfl rfl rfl<|wLt' (L:=([(IntKind.wrap .u8 v6_33)]:List Int)) (f:=rI_u8) rfl rfl rfl rfl rfl rfl rfl<|wAp (f:=rI_u8) h rfl rfl rfl rfl rfl rfl rfl rfl rfl (fun _=>rfl) rfl (fun v36_37 h=> ?_)
 refine xAs rfl<|oNl<|cRt ?_
 cases h
 exact eR rfl rfl rfl rfl
 refine cSk<|cSq<|cRs<|xMv rfl<|xLt rfl<|oNl<|cIf h rfl (fun q38 h=> ?_) (fun q38 h=> ?_)
 refine cRg<|xAs rfl<|oNl<|cRs<|xMv rfl<|xMul rfl<|xAs rfl<|oNl<|cSq<|cRs<|xMv rfl<|xLt rfl<|oNl<|cIf h rfl (fun q39 h=> ?_) (fun q39 h=> ?_)
 refine cRg<|xMv rfl<|xMul rfl<|xSub rfl<|xAs rfl<|oNl<|cSq<|cLp h [(5,6),(21,31)] [] (fun(v5_40,v6_41)=>([(5,Li rI_u8 v5_40),(6,I64 v6_41)],[])) (fun(v5_42,v6_43,v22_44)=>(.e 0,[(5,Li rI_u8 v5_42),(6,I64 v6_43),(22,Bo v22_44)],[])) rfl (fun st _ h=> ?_) (fun q h=> ?_)
 obtain⟨v5_40,v6_41⟩:=st
 unfold p_spec_PutNum_b5 at h
 refine cSq<|cRs<|xMv rfl<|xGt rfl<|oNl<|cIf h rfl (fun q45 h=> ?_) (fun q45 h=> ?_)
 refine cSk<|cBk<|cRs<|xMv rfl<|xMv rfl<|wBi (.int .i64 (bits .and .i64 v6_41 (127:Int))) rfl rfl rfl rfl rfl<|wBi (.int .i64 (bits .or .i64 (bits .and .i64 v6_41 (127:Int)) (128:Int))) rfl rfl rfl rfl rfl<|wCv rfl rfl rfl rfl rfl<|wLt' (L:=([(IntKind.wrap .u8 (bits .or .i64 (bits .and .i64 v6_41 (127:Int)) (128:Int)))]:List Int)) (f:=rI_u8) rfl rfl rfl rfl rfl rfl rfl<|wAp (f:=rI_u8) h rfl rfl rfl rfl rfl rfl rfl rfl rfl (fun _=>rfl) rfl (fun v29_46 h=> ?_)
 exact xAs rfl<|oNl<|cRg<|xMv rfl<|wBi (.int .i64 (Int.fdiv v6_41 (2 ^ 7))) rfl rfl rfl rfl rfl<|xAs rfl<|oNl<|eL h rfl
 exact cEx<|eX h rfl
 obtain⟨v5_42,v6_43,v22_44⟩:=q
 refine cRs<|xMv rfl<|xMv rfl<|wCv rfl rfl rfl rfl rfl<|wLt' (L:=([(IntKind.wrap .u8 v6_43)]:List Int)) (f:=rI_u8) rfl rfl rfl rfl rfl rfl rfl<|wAp (f:=rI_u8) h rfl rfl rfl rfl rfl rfl rfl rfl rfl (fun _=>rfl) rfl (fun v36_47 h=> ?_)
 refine xAs rfl<|oNl<|cRt ?_
 cases h
 exact eR rfl rfl rfl rfl
 refine cSk<|cSq<|cLp h [(5,6),(21,31)] [] (fun(v5_48,v6_49)=>([(5,Li rI_u8 v5_48),(6,I64 v6_49)],[])) (fun(v5_50,v6_51,v22_52)=>(.e 0,[(5,Li rI_u8 v5_50),(6,I64 v6_51),(22,Bo v22_52)],[])) rfl (fun st _ h=> ?_) (fun q h=> ?_)
 obtain⟨v5_48,v6_49⟩:=st
 unfold p_spec_PutNum_b6 at h
 refine cSq<|cRs<|xMv rfl<|xGt rfl<|oNl<|cIf h rfl (fun q53 h=> ?_) (fun q53 h=> ?_)
 refine cSk<|cBk<|cRs<|xMv rfl<|xMv rfl<|wBi (.int .i64 (bits .and .i64 v6_49 (127:Int))) rfl rfl rfl rfl rfl<|wBi (.int .i64 (bits .or .i64 (bits .and .i64 v6_49 (127:Int)) (128:Int))) rfl rfl rfl rfl rfl<|wCv rfl rfl rfl rfl rfl<|wLt' (L:=([(IntKind.wrap .u8 (bits .or .i64 (bits .and .i64 v6_49 (127:Int)) (128:Int)))]:List Int)) (f:=rI_u8) rfl rfl rfl rfl rfl rfl rfl<|wAp (f:=rI_u8) h rfl rfl rfl rfl rfl rfl rfl rfl rfl (fun _=>rfl) rfl (fun v29_54 h=> ?_)
 exact xAs rfl<|oNl<|cRg<|xMv rfl<|wBi (.int .i64 (Int.fdiv v6_49 (2 ^ 7))) rfl rfl rfl rfl rfl<|xAs rfl<|oNl<|eL h rfl
 exact cEx<|eX h rfl
 obtain⟨v5_50,v6_51,v22_52⟩:=q
 refine cRs<|xMv rfl<|xMv rfl<|wCv rfl rfl rfl rfl rfl<|wLt' (L:=([(IntKind.wrap .u8 v6_51)]:List Int)) (f:=rI_u8) rfl rfl rfl rfl rfl rfl rfl<|wAp (f:=rI_u8) h rfl rfl rfl rfl rfl rfl rfl rfl rfl (fun _=>rfl) rfl (fun v36_55 h=> ?_)
 refine xAs rfl<|oNl<|cRt ?_
 cases h
 exact eR rfl rfl rfl rfl
 refine cSk<|cRs<|xMv rfl<|xMul rfl<|xAs rfl<|oNl<|cSq<|cRs<|xMv rfl<|xLt rfl<|oNl<|cIf h rfl (fun q56 h=> ?_) (fun q56 h=> ?_)
 refine cRg<|xMv rfl<|xMul rfl<|xSub rfl<|xAs rfl<|oNl<|cSq<|cLp h [(5,6),(21,31)] [] (fun(v5_57,v6_58)=>([(5,Li rI_u8 v5_57),(6,I64 v6_58)],[])) (fun(v5_59,v6_60,v22_61)=>(.e 0,[(5,Li rI_u8 v5_59),(6,I64 v6_60),(22,Bo v22_61)],[])) rfl (fun st _ h=> ?_) (fun q h=> ?_)
 obtain⟨v5_57,v6_58⟩:=st
 unfold p_spec_PutNum_b7 at h
 refine cSq<|cRs<|xMv rfl<|xGt rfl<|oNl<|cIf h rfl (fun q62 h=> ?_) (fun q62 h=> ?_)
 refine cSk<|cBk<|cRs<|xMv rfl<|xMv rfl<|wBi (.int .i64 (bits .and .i64 v6_58 (127:Int))) rfl rfl rfl rfl rfl<|wBi (.int .i64 (bits .or .i64 (bits .and .i64 v6_58 (127:Int)) (128:Int))) rfl rfl rfl rfl rfl<|wCv rfl rfl rfl rfl rfl<|wLt' (L:=([(IntKind.wrap .u8 (bits .or .i64 (bits .and .i64 v6_58 (127:Int)) (128:Int)))]:List Int)) (f:=rI_u8) rfl rfl rfl rfl rfl rfl rfl<|wAp (f:=rI_u8) h rfl rfl rfl rfl rfl rfl rfl rfl rfl (fun _=>rfl) rfl (fun v29_63 h=> ?_)
 exact xAs rfl<|oNl<|cRg<|xMv rfl<|wBi (.int .i64 (Int.fdiv v6_58 (2 ^ 7))) rfl rfl rfl rfl rfl<|xAs rfl<|oNl<|eL h rfl
 exact cEx<|eX h rfl
 obtain⟨v5_59,v6_60,v22_61⟩:=q
 refine cRs<|xMv rfl<|xMv rfl<|wCv rfl rfl rfl rfl rfl<|wLt' (L:=([(IntKind.wrap .u8 v6_60)]:List Int)) (f:=rI_u8) rfl rfl rfl rfl rfl rfl rfl<|wAp (f:=rI_u8) h rfl rfl rfl rfl rfl rfl rfl rfl rfl (fun _=>rfl) rfl (fun v36_64 h=> ?_)
 refine xAs rfl<|oNl<|cRt ?_
 cases h
 exact eR rfl rfl rfl rfl
 refine cSk<|cSq<|cLp h [(5,6),(21,31)] [] (fun(v5_65,v6_66)=>([(5,Li rI_u8 v5_65),(6,I64 v6_66)],[])) (fun(v5_67,v6_68,v22_69)=>(.e 0,[(5,Li rI_u8 v5_67),(6,I64 v6_68),(22,Bo v22_69)],[])) rfl (fun st _ h=> ?_) (fun q h=> ?_)
 obtain⟨v5_65,v6_66⟩:=st
 unfold p_spec_PutNum_b8 at h
 refine cSq<|cRs<|xMv rfl<|xGt rfl<|oNl<|cIf h rfl (fun q70 h=> ?_) (fun q70 h=> ?_)
 refine cSk<|cBk<|cRs<|xMv rfl<|xMv rfl<|wBi (.int .i64 (bits .and .i64 v6_66 (127:Int))) rfl rfl rfl rfl rfl<|wBi (.int .i64 (bits .or .i64 (bits .and .i64 v6_66 (127:Int)) (128:Int))) rfl rfl rfl rfl rfl<|wCv rfl rfl rfl rfl rfl<|wLt' (L:=([(IntKind.wrap .u8 (bits .or .i64 (bits .and .i64 v6_66 (127:Int)) (128:Int)))]:List Int)) (f:=rI_u8) rfl rfl rfl rfl rfl rfl rfl<|wAp (f:=rI_u8) h rfl rfl rfl rfl rfl rfl rfl rfl rfl (fun _=>rfl) rfl (fun v29_71 h=> ?_)
 exact xAs rfl<|oNl<|cRg<|xMv rfl<|wBi (.int .i64 (Int.fdiv v6_66 (2 ^ 7))) rfl rfl rfl rfl rfl<|xAs rfl<|oNl<|eL h rfl
 exact cEx<|eX h rfl
 obtain⟨v5_67,v6_68,v22_69⟩:=q
 refine cRs<|xMv rfl<|xMv rfl<|wCv rfl rfl rfl rfl rfl<|wLt' (L:=([(IntKind.wrap .u8 v6_68)]:List Int)) (f:=rI_u8) rfl rfl rfl rfl rfl rfl rfl<|wAp (f:=rI_u8) h rfl rfl rfl rfl rfl rfl rfl rfl rfl (fun _=>rfl) rfl (fun v36_72 h=> ?_)
 refine xAs rfl<|oNl<|cRt ?_
 cases h
 exact eR rfl rfl rfl rfl
abbrev B_spec_PutText(p:(List Int)→(List UInt8)→Option ((List Int))):Prop:= ∀ {t0_0:List Int} {t1_0:List UInt8} {r:(List Int)},p t0_0 t1_0=some r→Big Try.prog τ An (.fn 105 [.one (.c (.sl (t0_0.map rI_u8))), .one (.c (.str t1_0))] [] (.one (.c (.sl (r.map rI_u8)))) none [] none)
def p_spec_PutText(n:Nat)(t0_0:List Int)(t1_0:List UInt8):Option ((List Int)):=
  (p_spec_PutNum n t0_0 (t1_0.length:Int)).bind fun c8_1=>(app2 1 c8_1 (t1_0.map fun c=>((c.toNat:Nat):Int))).bind fun v10_2=>some v10_2
theorem big_spec_PutText{n:Nat}:B_spec_PutText (p_spec_PutText n):=by
 intro t0_0 t1_0 r h
 unfold p_spec_PutText at h
 refine bF Try.func105 rfl rfl<|cRs<|wAe (Li rI_u8 []) rfl rfl rfl rfl<|oRs<|xMv rfl<|xMv rfl<|xLs rfl<|xC0 h (big_spec_PutNum ·) rfl (fun c8_1 h=> ?_)
 refine xMv rfl<|wAps (f:=rI_u8) h rfl rfl rfl rfl rfl (fun _=>rfl) rfl (fun _=>rfl) rfl (fun v10_2 h=> ?_)
 refine xAs rfl<|oNl<|cRt ?_
 cases h
 exact eR rfl rfl rfl rfl
abbrev Y_spec_l11PutPat:Type:=(List Int)→Int→Int→(List UInt8)→(List S_impl_Pat)→Option ((List Int))
abbrev B_spec_l11PutPat(p:Y_spec_l11PutPat):Prop:= ∀ {t0_0:List Int} {t1_0 t1_1:Int} {t1_2:List UInt8} {t1_3:List S_impl_Pat} {r:(List Int)},p t0_0 t1_0 t1_1 t1_2 t1_3=some r→Big Try.prog τ An (.fn 106 [.one (.c (.sl (t0_0.map rI_u8))), .one (.ag [.int .i64 t1_0, .int .i64 t1_1, .str t1_2, .sl (t1_3.map rS_impl_Pat)])] [] (.one (.c (.sl (r.map rI_u8)))) none [] none)
def p_spec_l11PutPat_b1(n:Nat)(r_spec_l11PutPat:Y_spec_l11PutPat)(t1_3:List S_impl_Pat):((List Int)×Int)→Option (((List Int)×Int)⊕(((List Int)×Int×Bool)))
  | (v0_5,v5_6)=>bif decide (v5_6<(t1_3.length:Int))then(ix t1_3 v5_6).bind fun e31_11=>(r_spec_l11PutPat v0_5 e31_11.f0 e31_11.f1 e31_11.f2 e31_11.f3).bind fun c33_12=>some (.inl (c33_12,(IntKind.wrap .i64 (v5_6+(1:Int)))))else some (.inr (v0_5,v5_6,false))
def s_spec_l11PutPat(n:Nat)(r_spec_l11PutPat:Y_spec_l11PutPat)(t0_0:List Int)(t1_0:Int)(t1_1:Int)(t1_2:List UInt8)(t1_3:List S_impl_Pat):Option ((List Int)):=
  (p_spec_PutNum n t0_0 t1_0).bind fun c9_1=>(p_spec_PutNum n c9_1 t1_1).bind fun c12_2=>(p_spec_PutText n c12_2 t1_2).bind fun c15_3=>(p_spec_PutNum n c15_3 (t1_3.length:Int)).bind fun c19_4=>(loopN (p_spec_l11PutPat_b1 n r_spec_l11PutPat t1_3) n (c19_4,(0:Int))).bind fun(v0_7,v5_8,v24_9)=>some v0_7
theorem step_spec_l11PutPat{n:Nat}{r_spec_l11PutPat:Y_spec_l11PutPat}(ih_spec_l11PutPat:B_spec_l11PutPat r_spec_l11PutPat):B_spec_l11PutPat (s_spec_l11PutPat n r_spec_l11PutPat):=by
 intro t0_0 t1_0 t1_1 t1_2 t1_3 r h
 unfold s_spec_l11PutPat at h
 refine bF Try.func106 rfl rfl<|cRs<|xBx rfl<|wAe (Li rI_u8 []) rfl rfl rfl rfl<|oRs<|xMv rfl<|xFd rfl<|xLd rfl<|xC0 h (big_spec_PutNum ·) rfl (fun c9_1 h=> ?_)
 refine xFd rfl<|xLd rfl<|xC0 h (big_spec_PutNum ·) rfl (fun c12_2 h=> ?_)
 refine xFd rfl<|xLd rfl<|xC0 h (big_spec_PutText ·) rfl (fun c15_3 h=> ?_)
 refine xFd rfl<|xLd rfl<|xLn rfl<|xC0 h (big_spec_PutNum ·) rfl (fun c19_4 h=> ?_)
 refine xAs rfl<|oNl<|cSq<|cRs<|xAs rfl<|oNl<|cLp h [(0,0),(5,5),(20,33)] [] (fun(v0_5,v5_6)=>([(0,Li rI_u8 v0_5),(5,I64 v5_6)],[])) (fun(v0_7,v5_8,v24_9)=>(.e 0,[(0,Li rI_u8 v0_7),(5,I64 v5_8),(24,Bo v24_9)],[])) rfl (fun st _ h=> ?_) (fun q h=> ?_)
 obtain⟨v0_5,v5_6⟩:=st
 unfold p_spec_l11PutPat_b1 at h
 refine cSq<|cRs<|xMv rfl<|xFd rfl<|xLd rfl<|xLn rfl<|xLt rfl<|oNl<|cIf h rfl (fun q10 h=> ?_) (fun q10 h=> ?_)
 refine cSk<|cSq<|cBk<|cRg<|xMv rfl<|xFd rfl<|xLd rfl<|xMv rfl<|xIx h rS_impl_Pat_eq rfl (fun e31_11 h=> ?_)
 refine xLd rfl<|xC0 h (ih_spec_l11PutPat ·) rfl (fun c33_12 h=> ?_)
 exact xAs rfl<|oNl<|cRg<|xMv rfl<|xAdd rfl<|xAs rfl<|oNl<|eL h rfl
 exact cEx<|eX h rfl
 obtain⟨v0_7,v5_8,v24_9⟩:=q
 refine cRs<|xMv rfl<|xAs rfl<|oNl<|cRt ?_
 cases h
 exact eR rfl rfl rfl rfl
def q_spec_l11PutPat:Nat→(Y_spec_l11PutPat)
  | 0=>(fun _ _ _ _ _=>none)
  | n+1=>s_spec_l11PutPat n (q_spec_l11PutPat n)
def p_spec_l11PutPat(n:Nat):Y_spec_l11PutPat:=q_spec_l11PutPat n
theorem bigs_spec_l11PutPat(n:Nat):B_spec_l11PutPat (p_spec_l11PutPat n):=by
  induction n with
  | zero=>exact(fun h=>nomatch h)
  | succ n ih=>exact step_spec_l11PutPat (n:=n) ih
theorem big_spec_l11PutPat{n:Nat}:B_spec_l11PutPat (p_spec_l11PutPat n):=(bigs_spec_l11PutPat n)
theorem p_spec_l11PutPat_succ(n:Nat):p_spec_l11PutPat (n+1)=s_spec_l11PutPat n (p_spec_l11PutPat n):=rfl
abbrev B_spec_PutCode(p:(List S_impl_Fn)→(List S_impl_Pat)→Option ((List Int))):Prop:= ∀ {t0_0:List S_impl_Fn} {t0_1:List S_impl_Pat} {r:(List Int)},p t0_0 t0_1=some r→Big Try.prog τ An (.fn 32 [.one (.ag [.sl (t0_0.map rS_impl_Fn), .sl (t0_1.map rS_impl_Pat)])] [] (.one (.c (.sl (r.map rI_u8)))) none [] none)
def p_spec_PutCode_b2(n:Nat)(e33_13:S_impl_Fn):((List Int)×Int)→Option (((List Int)×Int)⊕(((List Int)×Int×Bool)))
  | (v3_18,v6_19)=>bif decide (v6_19<(e33_13.f3.length:Int))then(ix e33_13.f3 v6_19).bind fun e59_24=>(p_spec_PutNum n v3_18 e59_24.f0).bind fun c64_25=>(p_spec_PutNum n c64_25 e59_24.f1).bind fun c67_26=>(p_spec_PutText n c67_26 e59_24.f2).bind fun c70_27=>(p_spec_PutNum n c70_27 e59_24.f3).bind fun c73_28=>some (.inl (c73_28,(IntKind.wrap .i64 (v6_19+(1:Int)))))else some (.inr (v3_18,v6_19,false))
def p_spec_PutCode_b1(n:Nat)(t0_0:List S_impl_Fn):((List Int)×Int)→Option (((List Int)×Int)⊕(((List Int)×Int×Bool)))
  | (v3_7,v4_8)=>bif decide (v4_8<(t0_0.length:Int))then(ix t0_0 v4_8).bind fun e33_13=>(p_spec_PutText n v3_7 e33_13.f0).bind fun c38_14=>(p_spec_PutNum n c38_14 e33_13.f1).bind fun c41_15=>(p_spec_PutNum n c41_15 e33_13.f2).bind fun c44_16=>(p_spec_PutNum n c44_16 (e33_13.f3.length:Int)).bind fun c48_17=>(loopN (p_spec_PutCode_b2 n e33_13) n (c48_17,(0:Int))).bind fun(v3_20,v6_21,v53_22)=>some (.inl (v3_20,(IntKind.wrap .i64 (v4_8+(1:Int)))))else some (.inr (v3_7,v4_8,false))
def p_spec_PutCode_b3(n:Nat)(t0_1:List S_impl_Pat):((List Int)×Int)→Option (((List Int)×Int)⊕(((List Int)×Int×Bool)))
  | (v3_30,v8_31)=>bif decide (v8_31<(t0_1.length:Int))then(ix t0_1 v8_31).bind fun e90_36=>(p_spec_l11PutPat n v3_30 e90_36.f0 e90_36.f1 e90_36.f2 e90_36.f3).bind fun c92_37=>some (.inl (c92_37,(IntKind.wrap .i64 (v8_31+(1:Int)))))else some (.inr (v3_30,v8_31,false))
def p_spec_PutCode(n:Nat)(t0_0:List S_impl_Fn)(t0_1:List S_impl_Pat):Option ((List Int)):=
  ((p_spec_CodeOk n t0_0 t0_1).bind fun c10_2=>bif !c10_2 then some true else(p_spec_l11Pats n t0_0 t0_1).bind fun c14_4=>some (!c14_4)).bind fun v16_1=>bif v16_1 then some ([]:List Int)else(p_spec_PutNum n ([]:List Int) (t0_0.length:Int)).bind fun c22_6=>(loopN (p_spec_PutCode_b1 n t0_0) n (c22_6,(0:Int))).bind fun(v3_9,v4_10,v27_11)=>(p_spec_PutNum n v3_9 (t0_1.length:Int)).bind fun c78_29=>(loopN (p_spec_PutCode_b3 n t0_1) n (c78_29,(0:Int))).bind fun(v3_32,v8_33,v83_34)=>some v3_32
theorem big_spec_PutCode{n:Nat}:B_spec_PutCode (p_spec_PutCode n):=by
 intro t0_0 t0_1 r h
 unfold p_spec_PutCode at h
 refine bF Try.func32 rfl rfl<|cRs<|xBx rfl<|wAe (Li rI_u8 []) rfl rfl rfl rfl<|oNl<|cSq<|cRs<|oJn h [(9,16)] [] (fun v16_1=>(.n,[(16,Bo v16_1)],[])) (fun _ h=> ?_) (fun v16_1 h=> ?_)
 refine xLd rfl<|xC0 h (big_spec_CodeOk ·) rfl (fun c10_2 h=> ?_)
 refine xNot rfl<|xMv rfl<|oIf 12 h rfl (fun q3 h=> ?_) (fun q3 h=> ?_)
 exact wSk rfl<|wSk rfl<|wSk rfl<|xPk rfl<|oNl<|eJ h rfl
 refine xLd rfl<|xC0 h (big_spec_l11Pats ·) rfl (fun c14_4 h=> ?_)
 exact xNot rfl<|xPk rfl<|oNl<|eJ h rfl
 refine cIf h rfl (fun q5 h=> ?_) (fun q5 h=> ?_)
 refine cRs<|wLt' (L:=([]:List Int)) (f:=rI_u8) rfl rfl rfl rfl rfl rfl rfl<|xAs rfl<|oNl<|cRt ?_
 cases h
 exact eR rfl rfl rfl rfl
 refine cSk<|cRs<|wLt' (L:=([]:List Int)) (f:=rI_u8) rfl rfl rfl rfl rfl rfl rfl<|xFd rfl<|xLd rfl<|xLn rfl<|xC0 h (big_spec_PutNum ·) rfl (fun c22_6 h=> ?_)
 refine xAs rfl<|oNl<|cSq<|cRs<|xAs rfl<|oNl<|cLp h [(3,7),(23,73)] [(5,5),(7,7)] (fun(v3_7,v4_8)=>([(3,Li rI_u8 v3_7),(4,I64 v4_8)],[])) (fun(v3_9,v4_10,v27_11)=>(.e 0,[(3,Li rI_u8 v3_9),(4,I64 v4_10),(27,Bo v27_11)],[])) rfl (fun st _ h=> ?_) (fun q h=> ?_)
 obtain⟨v3_7,v4_8⟩:=st
 unfold p_spec_PutCode_b1 at h
 refine cSq<|cRs<|xMv rfl<|xFd rfl<|xLd rfl<|xLn rfl<|xLt rfl<|oNl<|cIf h rfl (fun q12 h=> ?_) (fun q12 h=> ?_)
 refine cSk<|cSq<|cBk<|cRs<|xFd rfl<|xLd rfl<|xMv rfl<|xIx h rS_impl_Fn_eq rfl (fun e33_13 h=> ?_)
 refine xLd rfl<|xAz [.str [], .int .i64 0, .int .i64 0, .sl ([].map rS_impl_Ins)] rfl<|xSt rfl<|oRs<|xMv rfl<|xFd rfl<|xLd rfl<|xC0 h (big_spec_PutText ·) rfl (fun c38_14 h=> ?_)
 refine xFd rfl<|xLd rfl<|xC0 h (big_spec_PutNum ·) rfl (fun c41_15 h=> ?_)
 refine xFd rfl<|xLd rfl<|xC0 h (big_spec_PutNum ·) rfl (fun c44_16 h=> ?_)
 refine xFd rfl<|xLd rfl<|xLn rfl<|xC0 h (big_spec_PutNum ·) rfl (fun c48_17 h=> ?_)
 refine xAs rfl<|oRs<|xAs rfl<|oNl<|cLp h [(3,3),(6,7),(49,73)] [(7,7)] (fun(v3_18,v6_19)=>([(3,Li rI_u8 v3_18),(6,I64 v6_19)],[])) (fun(v3_20,v6_21,v53_22)=>(.e 2,[(3,Li rI_u8 v3_20),(6,I64 v6_21),(53,Bo v53_22)],[])) rfl (fun st _ h=> ?_) (fun q h=> ?_)
 obtain⟨v3_18,v6_19⟩:=st
 unfold p_spec_PutCode_b2 at h
 refine cSq<|cRs<|xMv rfl<|xFd rfl<|xLd rfl<|xLn rfl<|xLt rfl<|oNl<|cIf h rfl (fun q23 h=> ?_) (fun q23 h=> ?_)
 refine cSk<|cSq<|cBk<|cRs<|xFd rfl<|xLd rfl<|xMv rfl<|xIx h rS_impl_Ins_eq rfl (fun e59_24 h=> ?_)
 refine xLd rfl<|xAc rfl<|xSt rfl<|oNl<|cRg<|xMv rfl<|xFd rfl<|xLd rfl<|xC0 h (big_spec_PutNum ·) rfl (fun c64_25 h=> ?_)
 refine xFd rfl<|xLd rfl<|xC0 h (big_spec_PutNum ·) rfl (fun c67_26 h=> ?_)
 refine xFd rfl<|xLd rfl<|xC0 h (big_spec_PutText ·) rfl (fun c70_27 h=> ?_)
 refine xFd rfl<|xLd rfl<|xC0 h (big_spec_PutNum ·) rfl (fun c73_28 h=> ?_)
 exact xAs rfl<|oNl<|cRg<|xMv rfl<|xAdd rfl<|xAs rfl<|oNl<|eL h rfl
 exact cEx<|eX h rfl
 obtain⟨v3_20,v6_21,v53_22⟩:=q
 exact cRg<|xMv rfl<|xAdd rfl<|xAs rfl<|oNl<|eL h rfl
 exact cEx<|eX h rfl
 obtain⟨v3_9,v4_10,v27_11⟩:=q
 refine cRs<|xMv rfl<|xFd rfl<|xLd rfl<|xLn rfl<|xC0 h (big_spec_PutNum ·) rfl (fun c78_29 h=> ?_)
 refine xAs rfl<|oNl<|cSq<|cRs<|xAs rfl<|oNl<|cLp h [(3,3),(8,8),(79,92)] [] (fun(v3_30,v8_31)=>([(3,Li rI_u8 v3_30),(8,I64 v8_31)],[])) (fun(v3_32,v8_33,v83_34)=>(.e 4,[(3,Li rI_u8 v3_32),(8,I64 v8_33),(83,Bo v83_34)],[])) rfl (fun st _ h=> ?_) (fun q h=> ?_)
 obtain⟨v3_30,v8_31⟩:=st
 unfold p_spec_PutCode_b3 at h
 refine cSq<|cRs<|xMv rfl<|xFd rfl<|xLd rfl<|xLn rfl<|xLt rfl<|oNl<|cIf h rfl (fun q35 h=> ?_) (fun q35 h=> ?_)
 refine cSk<|cSq<|cBk<|cRg<|xMv rfl<|xFd rfl<|xLd rfl<|xMv rfl<|xIx h rS_impl_Pat_eq rfl (fun e90_36 h=> ?_)
 refine xLd rfl<|xC0 h (big_spec_l11PutPat ·) rfl (fun c92_37 h=> ?_)
 exact xAs rfl<|oNl<|cRg<|xMv rfl<|xAdd rfl<|xAs rfl<|oNl<|eL h rfl
 exact cEx<|eX h rfl
 obtain⟨v3_32,v8_33,v83_34⟩:=q
 refine cRs<|xMv rfl<|xAs rfl<|oNl<|cRt ?_
 cases h
 exact eR rfl rfl rfl rfl
abbrev B_laws_toIns(p:Int→Int→(List UInt8)→Int→Option (Int×Int×(List UInt8)×Int)):Prop:= ∀ {t0_0 t0_1:Int} {t0_2:List UInt8} {t0_3:Int} {r:Int×Int×(List UInt8)×Int},p t0_0 t0_1 t0_2 t0_3=some r→Big Try.prog τ An (.fn 292 [.one (.ag [.int .i64 t0_0, .int .i64 t0_1, .str t0_2, .int .i64 t0_3])] [] (.one (.ag [.int .i64 r.1, .int .i64 r.2.1, .str r.2.2.1, .int .i64 r.2.2.2])) none [] none)
def p_laws_toIns(n:Nat)(t0_0:Int)(t0_1:Int)(t0_2:List UInt8)(t0_3:Int):Option (Int×Int×(List UInt8)×Int):=
  some (t0_0,t0_1,t0_2,t0_3)
theorem big_laws_toIns{n:Nat}:B_laws_toIns (p_laws_toIns n):=by
 intro t0_0 t0_1 t0_2 t0_3 r h
 unfold p_laws_toIns at h
 refine bF Try.func292 rfl rfl<|cRs<|xBx rfl<|xAc rfl<|oRs<|xAc rfl<|oRs<|xFd rfl<|xLd rfl<|xFd rfl<|xSt rfl<|oRs<|xFd rfl<|xLd rfl ?_
 refine xFd rfl<|xSt rfl<|oRs<|xFd rfl<|xLd rfl<|xFd rfl<|xSt rfl<|oRs<|xFd rfl<|xLd rfl<|xFd rfl<|xSt rfl<|oRs<|xLd rfl ?_
 refine xSt rfl<|oNl<|cRt ?_
 cases h
 exact eR rfl rfl rfl rfl
abbrev B_laws_toInsS(p:(List S_impl_Ins)→Option ((List S_impl_Ins))):Prop:= ∀ {t0_0:List S_impl_Ins} {r:(List S_impl_Ins)},p t0_0=some r→Big Try.prog τ An (.fn 262 [.one (.c (.sl (t0_0.map rS_impl_Ins)))] [] (.one (.c (.sl (r.map rS_impl_Ins)))) none [] none)
def p_laws_toInsS_b1(n:Nat)(t0_0:List S_impl_Ins):((List S_impl_Ins)×Int)→Option (((List S_impl_Ins)×Int)⊕(((List S_impl_Ins)×Int×Bool)))
  | (v3_2,v4_3)=>bif decide (v4_3<(t0_0.length:Int))then(ix t0_0 v4_3).bind fun e18_8=>(p_laws_toIns n e18_8.f0 e18_8.f1 e18_8.f2 e18_8.f3).bind fun c20_9=>(ix v3_2 v4_3).bind fun e21_10=>(some (v3_2.set (Int.toNat v4_3) (S_impl_Ins.mk c20_9.1 c20_9.2.1 c20_9.2.2.1 c20_9.2.2.2))).bind fun u3_11=>some (.inl (u3_11,(IntKind.wrap .i64 (v4_3+(1:Int)))))else some (.inr (v3_2,v4_3,false))
def p_laws_toInsS(n:Nat)(t0_0:List S_impl_Ins):Option ((List S_impl_Ins)):=
  (ck (decide (0≤(t0_0.length:Int)∧(t0_0.length:Int)≤maxLen∧40*(t0_0.length:Int)≤281474976710656))).bind fun _=>(loopN (p_laws_toInsS_b1 n t0_0) n ((List.replicate (Int.toNat (t0_0.length:Int)) (S_impl_Ins.mk (0:Int) (0:Int) ([]:List UInt8) (0:Int))),(0:Int))).bind fun(v3_4,v4_5,v11_6)=>some v3_4
theorem big_laws_toInsS{n:Nat}:B_laws_toInsS (p_laws_toInsS n):=by
 intro t0_0 r h
 unfold p_laws_toInsS at h
 refine bF Try.func262 rfl rfl<|cRs<|wAe (Li rS_impl_Ins []) rfl rfl rfl rfl<|oRs<|xMv rfl<|xLn rfl<|oCk h (fun k7_0 h=> ?_)
 refine wMk (z:=S_impl_Ins.mk (0:Int) (0:Int) ([]:List UInt8) (0:Int)) (f:=rS_impl_Ins) k7_0 rfl rfl rfl rfl rfl rfl rfl<|xAs rfl<|oNl<|cSq<|cRs<|xAs rfl<|oNl<|cLp h [(3,4),(8,21)] [] (fun(v3_2,v4_3)=>([(3,Li rS_impl_Ins v3_2),(4,I64 v4_3)],[])) (fun(v3_4,v4_5,v11_6)=>(.e 0,[(3,Li rS_impl_Ins v3_4),(4,I64 v4_5),(11,Bo v11_6)],[])) rfl (fun st _ h=> ?_) (fun q h=> ?_)
 obtain⟨v3_2,v4_3⟩:=st
 unfold p_laws_toInsS_b1 at h
 refine cSq<|cRs<|xMv rfl<|xMv rfl<|xLn rfl<|xLt rfl<|oNl<|cIf h rfl (fun q7 h=> ?_) (fun q7 h=> ?_)
 refine cSk<|cSq<|cBk<|cRg<|wAl rfl rfl rfl rfl<|xMv rfl<|xMv rfl<|xMv rfl<|xIx h rS_impl_Ins_eq rfl (fun e18_8 h=> ?_)
 refine xLd rfl<|xC0 h (big_laws_toIns ·) rfl (fun c20_9 h=> ?_)
 refine wIp (f:=rS_impl_Ins) h rfl rfl rfl rfl rfl rfl (fun _=>rfl) rfl (fun e21_10 ke21_10 h=> ?_)
 refine wSpN (f:=rS_impl_Ins) (v':=S_impl_Ins.mk c20_9.1 c20_9.2.1 c20_9.2.2.1 c20_9.2.2.2) h ke21_10 rfl rfl rfl rfl rfl rfl rfl rfl rfl (fun u3_11 h=> ?_)
 exact oNl<|cRg<|xMv rfl<|xAdd rfl<|xAs rfl<|oNl<|eL h rfl
 exact cEx<|eX h rfl
 obtain⟨v3_4,v4_5,v11_6⟩:=q
 refine cRs<|xMv rfl<|xAs rfl<|oNl<|cRt ?_
 cases h
 exact eR rfl rfl rfl rfl
abbrev B_laws_toFn(p:(List UInt8)→Int→Int→(List S_impl_Ins)→Option ((List UInt8)×Int×Int×(List S_impl_Ins))):Prop:= ∀ {t0_0:List UInt8} {t0_1 t0_2:Int} {t0_3:List S_impl_Ins} {r:(List UInt8)×Int×Int×(List S_impl_Ins)},p t0_0 t0_1 t0_2 t0_3=some r→Big Try.prog τ An (.fn 195 [.one (.ag [.str t0_0, .int .i64 t0_1, .int .i64 t0_2, .sl (t0_3.map rS_impl_Ins)])] [] (.one (.ag [.str r.1, .int .i64 r.2.1, .int .i64 r.2.2.1, .sl (r.2.2.2.map rS_impl_Ins)])) none [] none)
def p_laws_toFn(n:Nat)(t0_0:List UInt8)(t0_1:Int)(t0_2:Int)(t0_3:List S_impl_Ins):Option ((List UInt8)×Int×Int×(List S_impl_Ins)):=
  (p_laws_toInsS n t0_3).bind fun c15_1=>some (t0_0,t0_1,t0_2,c15_1)
theorem big_laws_toFn{n:Nat}:B_laws_toFn (p_laws_toFn n):=by
 intro t0_0 t0_1 t0_2 t0_3 r h
 unfold p_laws_toFn at h
 refine bF Try.func195 rfl rfl<|cRs<|xBx rfl<|xAz [.str [], .int .i64 0, .int .i64 0, .sl ([].map rS_impl_Ins)] rfl<|oRs<|xAz [.str [], .int .i64 0, .int .i64 0, .sl ([].map rS_impl_Ins)] rfl<|oRs<|xFd rfl<|xLd rfl<|xFd rfl<|xSt rfl<|oRs<|xFd rfl<|xLd rfl ?_
 refine xFd rfl<|xSt rfl<|oRs<|xFd rfl<|xLd rfl<|xFd rfl<|xSt rfl<|oRs<|xFd rfl<|xLd rfl<|xC0 h (big_laws_toInsS ·) rfl (fun c15_1 h=> ?_)
 refine xFd rfl<|xSt rfl<|oRs<|xLd rfl<|xSt rfl<|oNl<|cRt ?_
 cases h
 exact eR rfl rfl rfl rfl
abbrev B_laws_toFnS(p:(List S_laws_Fn)→Option ((List S_impl_Fn))):Prop:= ∀ {t0_0:List S_laws_Fn} {r:(List S_impl_Fn)},p t0_0=some r→Big Try.prog τ An (.fn 107 [.one (.c (.sl (t0_0.map rS_laws_Fn)))] [] (.one (.c (.sl (r.map rS_impl_Fn)))) none [] none)
def p_laws_toFnS_b1(n:Nat)(t0_0:List S_laws_Fn):((List S_impl_Fn)×Int)→Option (((List S_impl_Fn)×Int)⊕(((List S_impl_Fn)×Int×Bool)))
  | (v3_2,v4_3)=>bif decide (v4_3<(t0_0.length:Int))then(ix t0_0 v4_3).bind fun e18_8=>(p_laws_toFn n e18_8.f0 e18_8.f1 e18_8.f2 e18_8.f3).bind fun c20_9=>(ix v3_2 v4_3).bind fun e21_10=>(some (v3_2.set (Int.toNat v4_3) (S_impl_Fn.mk c20_9.1 c20_9.2.1 c20_9.2.2.1 c20_9.2.2.2))).bind fun u3_11=>some (.inl (u3_11,(IntKind.wrap .i64 (v4_3+(1:Int)))))else some (.inr (v3_2,v4_3,false))
def p_laws_toFnS(n:Nat)(t0_0:List S_laws_Fn):Option ((List S_impl_Fn)):=
  (ck (decide (0≤(t0_0.length:Int)∧(t0_0.length:Int)≤maxLen∧56*(t0_0.length:Int)≤281474976710656))).bind fun _=>(loopN (p_laws_toFnS_b1 n t0_0) n ((List.replicate (Int.toNat (t0_0.length:Int)) (S_impl_Fn.mk ([]:List UInt8) (0:Int) (0:Int) ([]:List S_impl_Ins))),(0:Int))).bind fun(v3_4,v4_5,v11_6)=>some v3_4
theorem big_laws_toFnS{n:Nat}:B_laws_toFnS (p_laws_toFnS n):=by
 intro t0_0 r h
 unfold p_laws_toFnS at h
 refine bF Try.func107 rfl rfl<|cRs<|wAe (Li rS_impl_Fn []) rfl rfl rfl rfl<|oRs<|xMv rfl<|xLn rfl<|oCk h (fun k7_0 h=> ?_)
 refine wMk (z:=S_impl_Fn.mk ([]:List UInt8) (0:Int) (0:Int) ([]:List S_impl_Ins)) (f:=rS_impl_Fn) k7_0 rfl rfl rfl rfl rfl rfl rfl<|xAs rfl<|oNl<|cSq<|cRs<|xAs rfl<|oNl<|cLp h [(3,4),(8,21)] [] (fun(v3_2,v4_3)=>([(3,Li rS_impl_Fn v3_2),(4,I64 v4_3)],[])) (fun(v3_4,v4_5,v11_6)=>(.e 0,[(3,Li rS_impl_Fn v3_4),(4,I64 v4_5),(11,Bo v11_6)],[])) rfl (fun st _ h=> ?_) (fun q h=> ?_)
 obtain⟨v3_2,v4_3⟩:=st
 unfold p_laws_toFnS_b1 at h
 refine cSq<|cRs<|xMv rfl<|xMv rfl<|xLn rfl<|xLt rfl<|oNl<|cIf h rfl (fun q7 h=> ?_) (fun q7 h=> ?_)
 refine cSk<|cSq<|cBk<|cRg<|wAl rfl rfl rfl rfl<|xMv rfl<|xMv rfl<|xMv rfl<|xIx h rS_laws_Fn_eq rfl (fun e18_8 h=> ?_)
 refine xLd rfl<|xC0 h (big_laws_toFn ·) rfl (fun c20_9 h=> ?_)
 refine wIp (f:=rS_impl_Fn) h rfl rfl rfl rfl rfl rfl (fun _=>rfl) rfl (fun e21_10 ke21_10 h=> ?_)
 refine wSpN (f:=rS_impl_Fn) (v':=S_impl_Fn.mk c20_9.1 c20_9.2.1 c20_9.2.2.1 c20_9.2.2.2) h ke21_10 rfl rfl rfl rfl rfl rfl rfl rfl rfl (fun u3_11 h=> ?_)
 exact oNl<|cRg<|xMv rfl<|xAdd rfl<|xAs rfl<|oNl<|eL h rfl
 exact cEx<|eX h rfl
 obtain⟨v3_4,v4_5,v11_6⟩:=q
 refine cRs<|xMv rfl<|xAs rfl<|oNl<|cRt ?_
 cases h
 exact eR rfl rfl rfl rfl
abbrev Y_laws_toPat:Type:=Int→Int→(List UInt8)→(List S_laws_Pat)→Option (Int×Int×(List UInt8)×(List S_impl_Pat))
abbrev B_laws_toPat(p:Y_laws_toPat):Prop:= ∀ {t0_0 t0_1:Int} {t0_2:List UInt8} {t0_3:List S_laws_Pat} {r:Int×Int×(List UInt8)×(List S_impl_Pat)},p t0_0 t0_1 t0_2 t0_3=some r→Big Try.prog τ An (.fn 196 [.one (.ag [.int .i64 t0_0, .int .i64 t0_1, .str t0_2, .sl (t0_3.map rS_laws_Pat)])] [] (.one (.ag [.int .i64 r.1, .int .i64 r.2.1, .str r.2.2.1, .sl (r.2.2.2.map rS_impl_Pat)])) none [] none)
abbrev Y_laws_toPatS:Type:=(List S_laws_Pat)→Option ((List S_impl_Pat))
abbrev B_laws_toPatS(p:Y_laws_toPatS):Prop:= ∀ {t0_0:List S_laws_Pat} {r:(List S_impl_Pat)},p t0_0=some r→Big Try.prog τ An (.fn 108 [.one (.c (.sl (t0_0.map rS_laws_Pat)))] [] (.one (.c (.sl (r.map rS_impl_Pat)))) none [] none)
def s_laws_toPat(n:Nat)(r_laws_toPatS:Y_laws_toPatS)(r_laws_toPat:Y_laws_toPat)(t0_0:Int)(t0_1:Int)(t0_2:List UInt8)(t0_3:List S_laws_Pat):Option (Int×Int×(List UInt8)×(List S_impl_Pat)):=
  (r_laws_toPatS t0_3).bind fun c15_1=>some (t0_0,t0_1,t0_2,c15_1)
theorem step_laws_toPat{n:Nat}{r_laws_toPatS:Y_laws_toPatS}(ih_laws_toPatS:B_laws_toPatS r_laws_toPatS){r_laws_toPat:Y_laws_toPat}(ih_laws_toPat:B_laws_toPat r_laws_toPat):B_laws_toPat (s_laws_toPat n r_laws_toPatS r_laws_toPat):=by
 intro t0_0 t0_1 t0_2 t0_3 r h
 unfold s_laws_toPat at h
 refine bF Try.func196 rfl rfl<|cRs<|xBx rfl<|xAz [.int .i64 0, .int .i64 0, .str [], .sl ([].map rS_impl_Pat)] rfl<|oRs<|xAz [.int .i64 0, .int .i64 0, .str [], .sl ([].map rS_impl_Pat)] rfl<|oRs<|xFd rfl<|xLd rfl<|xFd rfl<|xSt rfl<|oRs<|xFd rfl<|xLd rfl ?_
 refine xFd rfl<|xSt rfl<|oRs<|xFd rfl<|xLd rfl<|xFd rfl<|xSt rfl<|oRs<|xFd rfl<|xLd rfl<|xC0 h (ih_laws_toPatS ·) rfl (fun c15_1 h=> ?_)
 refine xFd rfl<|xSt rfl<|oRs<|xLd rfl<|xSt rfl<|oNl<|cRt ?_
 cases h
 exact eR rfl rfl rfl rfl
def p_laws_toPatS_b1(n:Nat)(r_laws_toPat:Y_laws_toPat)(t0_0:List S_laws_Pat):((List S_impl_Pat)×Int)→Option (((List S_impl_Pat)×Int)⊕(((List S_impl_Pat)×Int×Bool)))
  | (v3_2,v4_3)=>bif decide (v4_3<(t0_0.length:Int))then(ix t0_0 v4_3).bind fun e18_8=>(r_laws_toPat e18_8.f0 e18_8.f1 e18_8.f2 e18_8.f3).bind fun c20_9=>(ix v3_2 v4_3).bind fun e21_10=>(some (v3_2.set (Int.toNat v4_3) (S_impl_Pat.mk c20_9.1 c20_9.2.1 c20_9.2.2.1 c20_9.2.2.2))).bind fun u3_11=>some (.inl (u3_11,(IntKind.wrap .i64 (v4_3+(1:Int)))))else some (.inr (v3_2,v4_3,false))
def s_laws_toPatS(n:Nat)(r_laws_toPatS:Y_laws_toPatS)(r_laws_toPat:Y_laws_toPat)(t0_0:List S_laws_Pat):Option ((List S_impl_Pat)):=
  (ck (decide (0≤(t0_0.length:Int)∧(t0_0.length:Int)≤maxLen∧56*(t0_0.length:Int)≤281474976710656))).bind fun _=>(loopN (p_laws_toPatS_b1 n r_laws_toPat t0_0) n ((List.replicate (Int.toNat (t0_0.length:Int)) (S_impl_Pat.mk (0:Int) (0:Int) ([]:List UInt8) ([]:List S_impl_Pat))),(0:Int))).bind fun(v3_4,v4_5,v11_6)=>some v3_4
theorem step_laws_toPatS{n:Nat}{r_laws_toPatS:Y_laws_toPatS}(ih_laws_toPatS:B_laws_toPatS r_laws_toPatS){r_laws_toPat:Y_laws_toPat}(ih_laws_toPat:B_laws_toPat r_laws_toPat):B_laws_toPatS (s_laws_toPatS n r_laws_toPatS r_laws_toPat):=by
 intro t0_0 r h
 unfold s_laws_toPatS at h
 refine bF Try.func108 rfl rfl<|cRs<|wAe (Li rS_impl_Pat []) rfl rfl rfl rfl<|oRs<|xMv rfl<|xLn rfl<|oCk h (fun k7_0 h=> ?_)
 refine wMk (z:=S_impl_Pat.mk (0:Int) (0:Int) ([]:List UInt8) ([]:List S_impl_Pat)) (f:=rS_impl_Pat) k7_0 rfl rfl rfl rfl rfl rfl rfl<|xAs rfl<|oNl<|cSq<|cRs<|xAs rfl<|oNl<|cLp h [(3,4),(8,21)] [] (fun(v3_2,v4_3)=>([(3,Li rS_impl_Pat v3_2),(4,I64 v4_3)],[])) (fun(v3_4,v4_5,v11_6)=>(.e 0,[(3,Li rS_impl_Pat v3_4),(4,I64 v4_5),(11,Bo v11_6)],[])) rfl (fun st _ h=> ?_) (fun q h=> ?_)
 obtain⟨v3_2,v4_3⟩:=st
 unfold p_laws_toPatS_b1 at h
 refine cSq<|cRs<|xMv rfl<|xMv rfl<|xLn rfl<|xLt rfl<|oNl<|cIf h rfl (fun q7 h=> ?_) (fun q7 h=> ?_)
 refine cSk<|cSq<|cBk<|cRg<|wAl rfl rfl rfl rfl<|xMv rfl<|xMv rfl<|xMv rfl<|xIx h rS_laws_Pat_eq rfl (fun e18_8 h=> ?_)
 refine xLd rfl<|xC0 h (ih_laws_toPat ·) rfl (fun c20_9 h=> ?_)
 refine wIp (f:=rS_impl_Pat) h rfl rfl rfl rfl rfl rfl (fun a=>by rw[rS_impl_Pat_eq]; rfl) rfl (fun e21_10 ke21_10 h=> ?_)
 refine wSpN (f:=rS_impl_Pat) (v':=S_impl_Pat.mk c20_9.1 c20_9.2.1 c20_9.2.2.1 c20_9.2.2.2) h ke21_10 rfl rfl rfl rfl rfl rfl rfl (by rw[rS_impl_Pat_eq]; rfl) (by rw[rS_impl_Pat_eq,rS_impl_Pat_mk]; rfl) (fun u3_11 h=> ?_)
 exact oNl<|cRg<|xMv rfl<|xAdd rfl<|xAs rfl<|oNl<|eL h rfl
 exact cEx<|eX h rfl
 obtain⟨v3_4,v4_5,v11_6⟩:=q
 refine cRs<|xMv rfl<|xAs rfl<|oNl<|cRt ?_
 cases h
 exact eR rfl rfl rfl rfl
def q_laws_toPatS:Nat→(Y_laws_toPatS)×(Y_laws_toPat)
  | 0=>((fun _=>none),(fun _ _ _ _=>none))
  | n+1=>(s_laws_toPatS n ((q_laws_toPatS n).1) ((q_laws_toPatS n).2),s_laws_toPat n ((q_laws_toPatS n).1) ((q_laws_toPatS n).2))
def p_laws_toPatS(n:Nat):Y_laws_toPatS:=(q_laws_toPatS n).1
def p_laws_toPat(n:Nat):Y_laws_toPat:=(q_laws_toPatS n).2
theorem bigs_laws_toPatS(n:Nat):B_laws_toPatS (p_laws_toPatS n)∧B_laws_toPat (p_laws_toPat n):=by
  induction n with
  | zero=>exact⟨(fun h=>nomatch h),(fun h=>nomatch h)⟩
  | succ n ih=>exact⟨step_laws_toPatS (n:=n) (ih.1) (ih.2),step_laws_toPat (n:=n) (ih.1) (ih.2)⟩
theorem big_laws_toPatS{n:Nat}:B_laws_toPatS (p_laws_toPatS n):=(bigs_laws_toPatS n).1
theorem big_laws_toPat{n:Nat}:B_laws_toPat (p_laws_toPat n):=(bigs_laws_toPatS n).2
theorem p_laws_toPatS_succ(n:Nat):p_laws_toPatS (n+1)=s_laws_toPatS n (p_laws_toPatS n) (p_laws_toPat n):=rfl
theorem p_laws_toPat_succ(n:Nat):p_laws_toPat (n+1)=s_laws_toPat n (p_laws_toPatS n) (p_laws_toPat n):=rfl
abbrev B_laws_toCode(p:(List S_laws_Fn)→(List S_laws_Pat)→Option ((List S_impl_Fn)×(List S_impl_Pat))):Prop:= ∀ {t0_0:List S_laws_Fn} {t0_1:List S_laws_Pat} {r:(List S_impl_Fn)×(List S_impl_Pat)},p t0_0 t0_1=some r→Big Try.prog τ An (.fn 33 [.one (.ag [.sl (t0_0.map rS_laws_Fn), .sl (t0_1.map rS_laws_Pat)])] [] (.one (.ag [.sl (r.1.map rS_impl_Fn), .sl (r.2.map rS_impl_Pat)])) none [] none)
def p_laws_toCode(n:Nat)(t0_0:List S_laws_Fn)(t0_1:List S_laws_Pat):Option ((List S_impl_Fn)×(List S_impl_Pat)):=
  (p_laws_toFnS n t0_0).bind fun c6_1=>(p_laws_toPatS n t0_1).bind fun c10_2=>some (c6_1,c10_2)
theorem big_laws_toCode{n:Nat}:B_laws_toCode (p_laws_toCode n):=by
 intro t0_0 t0_1 r h
 unfold p_laws_toCode at h
 refine bF Try.func33 rfl rfl<|cRs<|xBx rfl<|xAz [.sl ([].map rS_impl_Fn), .sl ([].map rS_impl_Pat)] rfl<|oRs<|xAz [.sl ([].map rS_impl_Fn), .sl ([].map rS_impl_Pat)] rfl<|oRs<|xFd rfl<|xLd rfl<|xC0 h (big_laws_toFnS ·) rfl (fun c6_1 h=> ?_)
 refine xFd rfl<|xSt rfl<|oRs<|xFd rfl<|xLd rfl<|xC0 h (big_laws_toPatS ·) rfl (fun c10_2 h=> ?_)
 refine xFd rfl<|xSt rfl<|oRs<|xLd rfl<|xSt rfl<|oNl<|cRt ?_
 cases h
 exact eR rfl rfl rfl rfl
abbrev B_impl_fnAt_1(p:(List UInt8)→Int→Int→(List S_impl_Ins)→(List UInt8)→Option (Bool×(List UInt8))):Prop:= ∀ {t0_0:List UInt8} {t0_1 t0_2:Int} {t0_3:List S_impl_Ins} {o0_0:List UInt8} {r:Bool×(List UInt8)},p t0_0 t0_1 t0_2 t0_3 o0_0=some r→Big Try.prog τ An (.fn 213 [.one (.ag [.str t0_0, .int .i64 t0_1, .int .i64 t0_2, .sl (t0_3.map rS_impl_Ins)]), .one (.ptr 1000000 0)] [[.str o0_0]] (.one (.c (.bool r.1))) none [[.str r.2]] none)
def p_impl_fnAt_1(n:Nat)(t0_0:List UInt8)(t0_1:Int)(t0_2:Int)(t0_3:List S_impl_Ins)(o0_0:List UInt8):Option (Bool×(List UInt8)):=
  some ((decide (t0_0=o0_0)),o0_0)
theorem big_impl_fnAt_1{n:Nat}:B_impl_fnAt_1 (p_impl_fnAt_1 n):=by
 intro t0_0 t0_1 t0_2 t0_3 o0_0 r h
 unfold p_impl_fnAt_1 at h
 refine bF Try.func213 rfl rfl<|cRs<|xBx rfl<|xAs rfl<|oRs<|xFd rfl<|xLd rfl<|xLd rfl<|xEs rfl<|xAs rfl<|oNl<|cRt ?_
 cases h
 exact eR rfl rfl rfl rfl
abbrev B_slices_IndexFunc_6c73(p:(List S_impl_Fn)→(List UInt8)→Option (Int×(List UInt8))):Prop:= ∀ {t0_0:List S_impl_Fn} {o0_0:List UInt8} {r:Int×(List UInt8)},p t0_0 o0_0=some r→Big Try.prog τ An (.fn 212 [.one (.c (.sl (t0_0.map rS_impl_Fn))), .one (.fn 213 [(1000000,0)])] [[.str o0_0]] (.one (.c (.int .i64 r.1))) none [[.str r.2]] none)
def p_slices_IndexFunc_6c73_b1(n:Nat)(t0_0:List S_impl_Fn):(Int×(List UInt8))→Option ((Int×(List UInt8))⊕((Int×(List UInt8))⊕(Int×Bool×(List UInt8))))
  | (v8_1,w1000000_2)=>bif decide (v8_1<(t0_0.length:Int))then(ix t0_0 v8_1).bind fun e14_9=>(p_impl_fnAt_1 n e14_9.f0 e14_9.f1 e14_9.f2 e14_9.f3 w1000000_2).bind fun c16_10=>bif c16_10.1 then some (.inr (.inl (v8_1,c16_10.2)))else some (.inl ((IntKind.wrap .i64 (v8_1+(1:Int))),c16_10.2))else some (.inr (.inr (v8_1,false,w1000000_2)))
def p_slices_IndexFunc_6c73(n:Nat)(t0_0:List S_impl_Fn)(o0_0:List UInt8):Option (Int×(List UInt8)):=
  (loopN (p_slices_IndexFunc_6c73_b1 n t0_0) n ((0:Int),o0_0)).bind fun q=>(match q with | .inl (v4_3,w1000000_4)=>some (v4_3,w1000000_4) | .inr (v8_5,v9_6,w1000000_7)=>some (((-1):Int),w1000000_7))
theorem big_slices_IndexFunc_6c73{n:Nat}:B_slices_IndexFunc_6c73 (p_slices_IndexFunc_6c73 n):=by
 intro t0_0 o0_0 r h
 unfold p_slices_IndexFunc_6c73 at h
 refine bF Try.func212 rfl rfl<|cRs<|xAs rfl<|oNl<|cSq<|cRs<|xMv rfl<|xLn rfl<|xMv rfl<|oNl<|cLp h [(4,5),(8,18)] [(1000000,1000000)] (fun(v8_1,w1000000_2)=>([(8,I64 v8_1)],[(1000000,[.str w1000000_2])])) (fun q=>match q with | .inl (v4_3,w1000000_4)=>(.r,[(4,I64 v4_3)],[(1000000,[.str w1000000_4])]) | .inr (v8_5,v9_6,w1000000_7)=>(.e 0,[(8,I64 v8_5),(9,Bo v9_6)],[(1000000,[.str w1000000_7])])) rfl (fun st _ h=> ?_) (fun q h=> ?_)
 obtain⟨v8_1,w1000000_2⟩:=st
 unfold p_slices_IndexFunc_6c73_b1 at h
 refine cRs<|xLt rfl<|oNl<|cSq<|cIf h rfl (fun q8 h=> ?_) (fun q8 h=> ?_)
 refine cSk<|cSq<|cBk<|cRs<|xMv rfl<|xAs rfl<|oRs<|xMv rfl<|xMv rfl<|xMv rfl<|xIx h rS_impl_Fn_eq rfl (fun e14_9 h=> ?_)
 refine xLd rfl<|xC1 h (big_impl_fnAt_1 ·) rfl (fun c16_10 h=> ?_)
 refine oNl<|cIf h rfl (fun q11 h=> ?_) (fun q11 h=> ?_)
 exact cRs<|xMv rfl<|xAs rfl<|oNl<|cRt<|eXr h rfl
 exact cSk<|cRg<|xAdd rfl<|xMv rfl<|oNl<|eL h rfl
 exact cEx<|eX h rfl
 rcases q with⟨v4_3,w1000000_4⟩ | ⟨v8_5,v9_6,w1000000_7⟩
 cases h
 exact eR rfl rfl rfl rfl
 refine cRs<|xAs rfl<|oNl<|cRt ?_
 cases h
 exact eR rfl rfl rfl rfl
abbrev B_impl_fnAt(p:(List UInt8)→(List S_impl_Fn)→(List S_impl_Pat)→Option (Int×(List S_impl_Fn)×(List S_impl_Pat))):Prop:= ∀ {t1_0:List UInt8} {o0_0:List S_impl_Fn} {o0_1:List S_impl_Pat} {r:Int×(List S_impl_Fn)×(List S_impl_Pat)},p t1_0 o0_0 o0_1=some r→Big Try.prog τ An (.fn 128 [.one (.ptr 1000000 0), .one (.c (.str t1_0))] [[.sl (o0_0.map rS_impl_Fn), .sl (o0_1.map rS_impl_Pat)]] (.one (.c (.int .i64 r.1))) none [[.sl (r.2.1.map rS_impl_Fn), .sl (r.2.2.map rS_impl_Pat)]] none)
def p_impl_fnAt(n:Nat)(t1_0:List UInt8)(o0_0:List S_impl_Fn)(o0_1:List S_impl_Pat):Option (Int×(List S_impl_Fn)×(List S_impl_Pat)):=
  (p_slices_IndexFunc_6c73 n o0_0 t1_0).bind fun c10_1=>some (c10_1.1,o0_0,o0_1)
theorem big_impl_fnAt{n:Nat}:B_impl_fnAt (p_impl_fnAt n):=by
 intro t1_0 o0_0 o0_1 r h
 unfold p_impl_fnAt at h
 refine bF Try.func128 rfl rfl<|cRs<|xBx rfl<|xAs rfl<|oRs<|xMv rfl<|xNc rfl<|xFd rfl<|xLd rfl<|wFn rfl rfl rfl<|xC1 h (big_slices_IndexFunc_6c73 ·) rfl (fun c10_1 h=> ?_)
 refine xAs rfl<|oNl<|cRt ?_
 cases h
 exact eR rfl rfl rfl rfl
abbrev B_impl_inRange(p:Int→Int→Int→Option (Bool)):Prop:= ∀ {t0_0 t1_0 t2_0:Int} {r:Bool},p t0_0 t1_0 t2_0=some r→Big Try.prog τ An (.fn 130 [.one (.c (.int .i64 t0_0)), .one (.c (.int .i64 t1_0)), .one (.c (.int .i64 t2_0))] [] (.one (.c (.bool r))) none [] none)
def p_impl_inRange(n:Nat)(t0_0:Int)(t1_0:Int)(t2_0:Int):Option (Bool):=
  (bif decide (t1_0≤t0_0)then some (decide (t0_0≤t2_0))else some false).bind fun v6_1=>some v6_1
theorem big_impl_inRange{n:Nat}:B_impl_inRange (p_impl_inRange n):=by
 intro t0_0 t1_0 t2_0 r h
 unfold p_impl_inRange at h
 refine bF Try.func130 rfl rfl<|cRs<|xAs rfl<|oRs<|oJn h [(6,14)] [] (fun v6_1=>(.n,[(6,Bo v6_1)],[])) (fun _ h=> ?_) (fun v6_1 h=> ?_)
 refine xMv rfl<|xMv rfl<|xGe rfl<|xMv rfl<|oIf 10 h rfl (fun q2 h=> ?_) (fun q2 h=> ?_)
 exact xMv rfl<|xMv rfl<|xLe rfl<|xPk rfl<|xAs rfl<|oNl<|eJ h rfl
 exact wSk rfl<|wSk rfl<|wSk rfl<|xPk rfl<|xAs rfl<|oNl<|eJ h rfl
 refine cRt ?_
 cases h
 exact eR rfl rfl rfl rfl
abbrev B_impl_isSmall(p:Int→Option (Bool)):Prop:= ∀ {t0_0:Int} {r:Bool},p t0_0=some r→Big Try.prog τ An (.fn 237 [.one (.c (.int .u8 t0_0))] [] (.one (.c (.bool r))) none [] none)
def p_impl_isSmall(n:Nat)(t0_0:Int):Option (Bool):=
  (bif decide ((97:Int)≤t0_0)then some (decide (t0_0≤(122:Int)))else some false).bind fun v2_1=>some v2_1
theorem big_impl_isSmall{n:Nat}:B_impl_isSmall (p_impl_isSmall n):=by
 intro t0_0 r h
 unfold p_impl_isSmall at h
 refine bF Try.func237 rfl rfl<|cRs<|xAs rfl<|oRs<|oJn h [(2,8)] [] (fun v2_1=>(.n,[(2,Bo v2_1)],[])) (fun _ h=> ?_) (fun v2_1 h=> ?_)
 refine xMv rfl<|xGe rfl<|xMv rfl<|oIf 5 h rfl (fun q2 h=> ?_) (fun q2 h=> ?_)
 exact xMv rfl<|xLe rfl<|xPk rfl<|xAs rfl<|oNl<|eJ h rfl
 exact wSk rfl<|wSk rfl<|xPk rfl<|xAs rfl<|oNl<|eJ h rfl
 refine cRt ?_
 cases h
 exact eR rfl rfl rfl rfl
abbrev B_impl_isFigure(p:Int→Option (Bool)):Prop:= ∀ {t0_0:Int} {r:Bool},p t0_0=some r→Big Try.prog τ An (.fn 238 [.one (.c (.int .u8 t0_0))] [] (.one (.c (.bool r))) none [] none)
def p_impl_isFigure(n:Nat)(t0_0:Int):Option (Bool):=
  (bif decide ((48:Int)≤t0_0)then some (decide (t0_0≤(57:Int)))else some false).bind fun v2_1=>some v2_1
theorem big_impl_isFigure{n:Nat}:B_impl_isFigure (p_impl_isFigure n):=by
 intro t0_0 r h
 unfold p_impl_isFigure at h
 refine bF Try.func238 rfl rfl<|cRs<|xAs rfl<|oRs<|oJn h [(2,8)] [] (fun v2_1=>(.n,[(2,Bo v2_1)],[])) (fun _ h=> ?_) (fun v2_1 h=> ?_)
 refine xMv rfl<|xGe rfl<|xMv rfl<|oIf 5 h rfl (fun q2 h=> ?_) (fun q2 h=> ?_)
 exact xMv rfl<|xLe rfl<|xPk rfl<|xAs rfl<|oNl<|eJ h rfl
 exact wSk rfl<|wSk rfl<|xPk rfl<|xAs rfl<|oNl<|eJ h rfl
 refine cRt ?_
 cases h
 exact eR rfl rfl rfl rfl
abbrev B_impl_AtomOk(p:(List UInt8)→Option (Bool)):Prop:= ∀ {t0_0:List UInt8} {r:Bool},p t0_0=some r→Big Try.prog τ An (.fn 159 [.one (.c (.str t0_0))] [] (.one (.c (.bool r))) none [] none)
def p_impl_AtomOk_b1(n:Nat)(t0_0:List UInt8):(Int)→Option ((Int)⊕((Bool)⊕(Int×Bool)))
  | v3_1=>bif decide (v3_1<(t0_0.length:Int))then((ixs t0_0 v3_1).bind fun e12_7=>(p_impl_isSmall n e12_7).bind fun c13_8=>bif !c13_8 then bif decide (v3_1=(0:Int))then some true else(ixs t0_0 v3_1).bind fun e21_11=>(p_impl_isFigure n e21_11).bind fun c22_12=>bif !c22_12 then(ixs t0_0 v3_1).bind fun e27_14=>some (!decide (e27_14=(95:Int)))else some false else some false).bind fun v31_6=>bif v31_6 then some (.inr (.inl false))else some (.inl (IntKind.wrap .i64 (v3_1+(1:Int))))else some (.inr (.inr (v3_1,false)))
def p_impl_AtomOk(n:Nat)(t0_0:List UInt8):Option (Bool):=
  (loopN (p_impl_AtomOk_b1 n t0_0) n (0:Int)).bind fun q=>(match q with | .inl v2_2=>some v2_2 | .inr (v3_3,v7_4)=>(p_impl_inRange n (t0_0.length:Int) (1:Int) (20:Int)).bind fun c34_16=>some c34_16)
theorem big_impl_AtomOk{n:Nat}:B_impl_AtomOk (p_impl_AtomOk n):=by
 intro t0_0 r h
 unfold p_impl_AtomOk at h
 refine bF Try.func159 rfl rfl<|cRs<|xAs rfl<|oNl<|cSq<|cRs<|xAs rfl<|oNl<|cLp h [(2,31)] [] (fun v3_1=>([(3,I64 v3_1)],[])) (fun q=>match q with | .inl v2_2=>(.r,[(2,Bo v2_2)],[]) | .inr (v3_3,v7_4)=>(.e 0,[(3,I64 v3_3),(7,Bo v7_4)],[])) rfl (fun v3_1 _ h=> ?_) (fun q h=> ?_)
 unfold p_impl_AtomOk_b1 at h
 refine cSq<|cRs<|xMv rfl<|xMv rfl<|xLs rfl<|xLt rfl<|oNl<|cIf h rfl (fun q5 h=> ?_) (fun q5 h=> ?_)
 refine cSk<|cSq<|cBk<|cRs<|oJn h [(10,31)] [] (fun v31_6=>(.n,[(31,Bo v31_6)],[])) (fun _ h=> ?_) (fun v31_6 h=> ?_)
 refine xMv rfl<|xMv rfl<|wIxs h rfl rfl rfl rfl rfl (fun e12_7 h=> ?_)
 refine xC0 h (big_impl_isSmall ·) rfl (fun c13_8 h=> ?_)
 refine xNot rfl<|xMv rfl<|oIf 15 h rfl (fun q9 h=> ?_) (fun q9 h=> ?_)
 refine xMv rfl<|xEq rfl<|xMv rfl<|oIf 18 h rfl (fun q10 h=> ?_) (fun q10 h=> ?_)
 exact wSk rfl<|wSk rfl<|wSk rfl<|wSk rfl<|wSk rfl<|wSk rfl<|wSk rfl<|wSk rfl<|wSk rfl<|wSk rfl<|wSk rfl<|xPk rfl<|xPk rfl<|oNl<|eJ h rfl
 refine xMv rfl<|xMv rfl<|wIxs h rfl rfl rfl rfl rfl (fun e21_11 h=> ?_)
 refine xC0 h (big_impl_isFigure ·) rfl (fun c22_12 h=> ?_)
 refine xNot rfl<|xMv rfl<|oIf 24 h rfl (fun q13 h=> ?_) (fun q13 h=> ?_)
 refine xMv rfl<|xMv rfl<|wIxs h rfl rfl rfl rfl rfl (fun e27_14 h=> ?_)
 exact xNe rfl<|xPk rfl<|xPk rfl<|xPk rfl<|oNl<|eJ h rfl
 exact wSk rfl<|wSk rfl<|wSk rfl<|wSk rfl<|xPk rfl<|xPk rfl<|xPk rfl<|oNl<|eJ h rfl
 refine wSk rfl<|wSk rfl<|wSk rfl<|wSk rfl<|wSk rfl<|wSk rfl<|wSk rfl<|wSk rfl<|wSk rfl<|wSk rfl<|wSk rfl<|wSk rfl<|wSk rfl<|wSk rfl ?_
 exact wSk rfl<|xPk rfl<|oNl<|eJ h rfl
 refine cIf h rfl (fun q15 h=> ?_) (fun q15 h=> ?_)
 exact cRs<|xAs rfl<|oNl<|cRt<|eXr h rfl
 exact cSk<|cRg<|xMv rfl<|xAdd rfl<|xAs rfl<|oNl<|eL h rfl
 exact cEx<|eX h rfl
 rcases q with v2_2 | ⟨v3_3,v7_4⟩
 cases h
 exact eR rfl rfl rfl rfl
 refine cRs<|xMv rfl<|xLs rfl<|xC0 h (big_impl_inRange ·) rfl (fun c34_16 h=> ?_)
 refine xAs rfl<|oNl<|cRt ?_
 cases h
 exact eR rfl rfl rfl rfl
abbrev B_impl_xAtomOk(p:(List UInt8)→Option (Bool)):Prop:= ∀ {t0_0:List UInt8} {r:Bool},p t0_0=some r→Big Try.prog τ An (.fn 138 [.one (.c (.str t0_0))] [] (.one (.c (.bool r))) none [] none)
def p_impl_xAtomOk(n:Nat)(t0_0:List UInt8):Option (Bool):=
  ((p_impl_AtomOk n t0_0).bind fun c4_2=>bif c4_2 then bif !decide (t0_0=([99,97,115,101]:List UInt8))then bif !decide (t0_0=([111,102]:List UInt8))then some (!decide (t0_0=([101,110,100]:List UInt8)))else some false else some false else some false).bind fun v2_1=>some v2_1
theorem big_impl_xAtomOk{n:Nat}:B_impl_xAtomOk (p_impl_xAtomOk n):=by
 intro t0_0 r h
 unfold p_impl_xAtomOk at h
 refine bF Try.func138 rfl rfl<|cRs<|xAs rfl<|oRs<|oJn h [(2,16)] [] (fun v2_1=>(.n,[(2,Bo v2_1)],[])) (fun _ h=> ?_) (fun v2_1 h=> ?_)
 refine xMv rfl<|xC0 h (big_impl_AtomOk ·) rfl (fun c4_2 h=> ?_)
 refine xMv rfl<|oIf 5 h rfl (fun q3 h=> ?_) (fun q3 h=> ?_)
 refine xMv rfl<|xNs rfl<|xPk rfl<|xMv rfl<|oIf 9 h rfl (fun q4 h=> ?_) (fun q4 h=> ?_)
 refine xMv rfl<|xNs rfl<|xPk rfl<|xMv rfl<|oIf 13 h rfl (fun q5 h=> ?_) (fun q5 h=> ?_)
 exact xMv rfl<|xNs rfl<|xPk rfl<|xAs rfl<|oNl<|eJ h rfl
 exact wSk rfl<|wSk rfl<|xPk rfl<|xAs rfl<|oNl<|eJ h rfl
 exact wSk rfl<|wSk rfl<|xPk rfl<|xMv rfl<|wSk rfl<|wSk rfl<|xPk rfl<|xAs rfl<|oNl<|eJ h rfl
 exact wSk rfl<|wSk rfl<|xPk rfl<|xMv rfl<|wSk rfl<|wSk rfl<|xPk rfl<|xMv rfl<|wSk rfl<|wSk rfl<|xPk rfl<|xAs rfl<|oNl<|eJ h rfl
 refine cRt ?_
 cases h
 exact eR rfl rfl rfl rfl
abbrev B_slices_Index_3403(p:(List Int)→Int→Option (Int)):Prop:= ∀ {t0_0:List Int} {t1_0:Int} {r:Int},p t0_0 t1_0=some r→Big Try.prog τ An (.fn 274 [.one (.c (.sl (t0_0.map rI_i64))), .one (.c (.int .i64 t1_0))] [] (.one (.c (.int .i64 r))) none [] none)
def p_slices_Index_3403_b1(n:Nat)(t0_0:List Int)(t1_0:Int):(Int)→Option ((Int)⊕((Int)⊕(Int×Bool)))
  | v8_1=>bif decide (v8_1<(t0_0.length:Int))then(ix t0_0 v8_1).bind fun e14_6=>bif decide (t1_0=e14_6)then some (.inr (.inl v8_1))else some (.inl (IntKind.wrap .i64 (v8_1+(1:Int))))else some (.inr (.inr (v8_1,false)))
def p_slices_Index_3403(n:Nat)(t0_0:List Int)(t1_0:Int):Option (Int):=
  (loopN (p_slices_Index_3403_b1 n t0_0 t1_0) n (0:Int)).bind fun q=>(match q with | .inl v4_2=>some v4_2 | .inr (v8_3,v9_4)=>some ((-1):Int))
theorem big_slices_Index_3403{n:Nat}:B_slices_Index_3403 (p_slices_Index_3403 n):=by
 intro t0_0 t1_0 r h
 unfold p_slices_Index_3403 at h
 refine bF Try.func274 rfl rfl<|cRs<|xAs rfl<|oNl<|cSq<|cRs<|xMv rfl<|xLn rfl<|xMv rfl<|oNl<|cLp h [(4,5),(8,18)] [] (fun v8_1=>([(8,I64 v8_1)],[])) (fun q=>match q with | .inl v4_2=>(.r,[(4,I64 v4_2)],[]) | .inr (v8_3,v9_4)=>(.e 0,[(8,I64 v8_3),(9,Bo v9_4)],[])) rfl (fun v8_1 _ h=> ?_) (fun q h=> ?_)
 unfold p_slices_Index_3403_b1 at h
 refine cRs<|xLt rfl<|oNl<|cSq<|cIf h rfl (fun q5 h=> ?_) (fun q5 h=> ?_)
 refine cSk<|cSq<|cBk<|cRs<|xMv rfl<|xAs rfl<|oRs<|xMv rfl<|xMv rfl<|xMv rfl<|xIx h rI_i64_eq rfl (fun e14_6 h=> ?_)
 refine xLd rfl<|xEq rfl<|oNl<|cIf h rfl (fun q7 h=> ?_) (fun q7 h=> ?_)
 exact cRs<|xMv rfl<|xAs rfl<|oNl<|cRt<|eXr h rfl
 exact cSk<|cRg<|xAdd rfl<|xMv rfl<|oNl<|eL h rfl
 exact cEx<|eX h rfl
 rcases q with v4_2 | ⟨v8_3,v9_4⟩
 cases h
 exact eR rfl rfl rfl rfl
 refine cRs<|xAs rfl<|oNl<|cRt ?_
 cases h
 exact eR rfl rfl rfl rfl
abbrev B_slices_Contains_c73f(p:(List Int)→Int→Option (Bool)):Prop:= ∀ {t0_0:List Int} {t1_0:Int} {r:Bool},p t0_0 t1_0=some r→Big Try.prog τ An (.fn 216 [.one (.c (.sl (t0_0.map rI_i64))), .one (.c (.int .i64 t1_0))] [] (.one (.c (.bool r))) none [] none)
def p_slices_Contains_c73f(n:Nat)(t0_0:List Int)(t1_0:Int):Option (Bool):=
  (p_slices_Index_3403 n t0_0 t1_0).bind fun c7_1=>some (decide ((0:Int)≤c7_1))
theorem big_slices_Contains_c73f{n:Nat}:B_slices_Contains_c73f (p_slices_Contains_c73f n):=by
 intro t0_0 t1_0 r h
 unfold p_slices_Contains_c73f at h
 refine bF Try.func216 rfl rfl<|cRs<|xAs rfl<|oRs<|xMv rfl<|xMv rfl<|xC0 h (big_slices_Index_3403 ·) rfl (fun c7_1 h=> ?_)
 refine xGe rfl<|xAs rfl<|oNl<|cRt ?_
 cases h
 exact eR rfl rfl rfl rfl
abbrev B_impl_isLarge(p:Int→Option (Bool)):Prop:= ∀ {t0_0:Int} {r:Bool},p t0_0=some r→Big Try.prog τ An (.fn 299 [.one (.c (.int .u8 t0_0))] [] (.one (.c (.bool r))) none [] none)
def p_impl_isLarge(n:Nat)(t0_0:Int):Option (Bool):=
  (bif decide ((65:Int)≤t0_0)then bif decide (t0_0≤(90:Int))then some true else some (decide (t0_0=(95:Int)))else some (decide (t0_0=(95:Int)))).bind fun v2_1=>some v2_1
theorem big_impl_isLarge{n:Nat}:B_impl_isLarge (p_impl_isLarge n):=by
 intro t0_0 r h
 unfold p_impl_isLarge at h
 refine bF Try.func299 rfl rfl<|cRs<|xAs rfl<|oRs<|oJn h [(2,12)] [] (fun v2_1=>(.n,[(2,Bo v2_1)],[])) (fun _ h=> ?_) (fun v2_1 h=> ?_)
 refine xMv rfl<|xGe rfl<|xMv rfl<|oIf 5 h rfl (fun q2 h=> ?_) (fun q2 h=> ?_)
 refine xMv rfl<|xLe rfl<|xPk rfl<|xMv rfl<|oIf 9 h rfl (fun q3 h=> ?_) (fun q3 h=> ?_)
 exact wSk rfl<|wSk rfl<|xPk rfl<|xAs rfl<|oNl<|eJ h rfl
 exact xMv rfl<|xEq rfl<|xPk rfl<|xAs rfl<|oNl<|eJ h rfl
 exact wSk rfl<|wSk rfl<|xPk rfl<|xMv rfl<|xMv rfl<|xEq rfl<|xPk rfl<|xAs rfl<|oNl<|eJ h rfl
 refine cRt ?_
 cases h
 exact eR rfl rfl rfl rfl
abbrev B_impl_isWordByte(p:Int→Option (Bool)):Prop:= ∀ {t0_0:Int} {r:Bool},p t0_0=some r→Big Try.prog τ An (.fn 298 [.one (.c (.int .u8 t0_0))] [] (.one (.c (.bool r))) none [] none)
def p_impl_isWordByte(n:Nat)(t0_0:Int):Option (Bool):=
  ((p_impl_isSmall n t0_0).bind fun c4_2=>bif c4_2 then some true else(p_impl_isLarge n t0_0).bind fun c7_4=>bif c7_4 then some true else(p_impl_isFigure n t0_0).bind fun c11_6=>some c11_6).bind fun v2_1=>some v2_1
theorem big_impl_isWordByte{n:Nat}:B_impl_isWordByte (p_impl_isWordByte n):=by
 intro t0_0 r h
 unfold p_impl_isWordByte at h
 refine bF Try.func298 rfl rfl<|cRs<|xAs rfl<|oRs<|oJn h [(2,12)] [] (fun v2_1=>(.n,[(2,Bo v2_1)],[])) (fun _ h=> ?_) (fun v2_1 h=> ?_)
 refine xMv rfl<|xC0 h (big_impl_isSmall ·) rfl (fun c4_2 h=> ?_)
 refine xMv rfl<|oIf 5 h rfl (fun q3 h=> ?_) (fun q3 h=> ?_)
 exact wSk rfl<|wSk rfl<|xPk rfl<|xMv rfl<|wSk rfl<|wSk rfl<|xPk rfl<|xAs rfl<|oNl<|eJ h rfl
 refine xMv rfl<|xC0 h (big_impl_isLarge ·) rfl (fun c7_4 h=> ?_)
 refine xPk rfl<|xMv rfl<|oIf 9 h rfl (fun q5 h=> ?_) (fun q5 h=> ?_)
 exact wSk rfl<|wSk rfl<|xPk rfl<|xAs rfl<|oNl<|eJ h rfl
 refine xMv rfl<|xC0 h (big_impl_isFigure ·) rfl (fun c11_6 h=> ?_)
 exact xPk rfl<|xAs rfl<|oNl<|eJ h rfl
 refine cRt ?_
 cases h
 exact eR rfl rfl rfl rfl
abbrev B_impl_varOk(p:(List UInt8)→Option (Bool)):Prop:= ∀ {t0_0:List UInt8} {r:Bool},p t0_0=some r→Big Try.prog τ An (.fn 268 [.one (.c (.str t0_0))] [] (.one (.c (.bool r))) none [] none)
def p_impl_varOk_b1(n:Nat)(t0_0:List UInt8):(Int)→Option ((Int)⊕((Bool)⊕(Int×Bool)))
  | v3_1=>bif decide (v3_1<(t0_0.length:Int))then(ixs t0_0 v3_1).bind fun e12_6=>(p_impl_isWordByte n e12_6).bind fun c13_7=>bif !c13_7 then some (.inr (.inl false))else some (.inl (IntKind.wrap .i64 (v3_1+(1:Int))))else some (.inr (.inr (v3_1,false)))
def p_impl_varOk(n:Nat)(t0_0:List UInt8):Option (Bool):=
  (loopN (p_impl_varOk_b1 n t0_0) n (0:Int)).bind fun q=>(match q with | .inl v2_2=>some v2_2 | .inr (v3_3,v7_4)=>((p_impl_inRange n (t0_0.length:Int) (1:Int) (20:Int)).bind fun c17_10=>bif c17_10 then(ixs t0_0 (0:Int)).bind fun e20_12=>(p_impl_isLarge n e20_12).bind fun c21_13=>some c21_13 else some false).bind fun v2_9=>some v2_9)
theorem big_impl_varOk{n:Nat}:B_impl_varOk (p_impl_varOk n):=by
 intro t0_0 r h
 unfold p_impl_varOk at h
 refine bF Try.func268 rfl rfl<|cRs<|xAs rfl<|oNl<|cSq<|cRs<|xAs rfl<|oNl<|cLp h [(2,14)] [] (fun v3_1=>([(3,I64 v3_1)],[])) (fun q=>match q with | .inl v2_2=>(.r,[(2,Bo v2_2)],[]) | .inr (v3_3,v7_4)=>(.e 0,[(3,I64 v3_3),(7,Bo v7_4)],[])) rfl (fun v3_1 _ h=> ?_) (fun q h=> ?_)
 unfold p_impl_varOk_b1 at h
 refine cSq<|cRs<|xMv rfl<|xMv rfl<|xLs rfl<|xLt rfl<|oNl<|cIf h rfl (fun q5 h=> ?_) (fun q5 h=> ?_)
 refine cSk<|cSq<|cBk<|cRs<|xMv rfl<|xMv rfl<|wIxs h rfl rfl rfl rfl rfl (fun e12_6 h=> ?_)
 refine xC0 h (big_impl_isWordByte ·) rfl (fun c13_7 h=> ?_)
 refine xNot rfl<|oNl<|cIf h rfl (fun q8 h=> ?_) (fun q8 h=> ?_)
 exact cRs<|xAs rfl<|oNl<|cRt<|eXr h rfl
 exact cSk<|cRg<|xMv rfl<|xAdd rfl<|xAs rfl<|oNl<|eL h rfl
 exact cEx<|eX h rfl
 rcases q with v2_2 | ⟨v3_3,v7_4⟩
 cases h
 exact eR rfl rfl rfl rfl
 refine cRs<|oJn h [(2,2),(15,22)] [] (fun v2_9=>(.n,[(2,Bo v2_9)],[])) (fun _ h=> ?_) (fun v2_9 h=> ?_)
 refine xMv rfl<|xLs rfl<|xC0 h (big_impl_inRange ·) rfl (fun c17_10 h=> ?_)
 refine xMv rfl<|oIf 18 h rfl (fun q11 h=> ?_) (fun q11 h=> ?_)
 refine xMv rfl<|wIxs h rfl rfl rfl rfl rfl (fun e20_12 h=> ?_)
 refine xC0 h (big_impl_isLarge ·) rfl (fun c21_13 h=> ?_)
 exact xPk rfl<|xAs rfl<|oNl<|eJ h rfl
 exact wSk rfl<|wSk rfl<|wSk rfl<|xPk rfl<|xAs rfl<|oNl<|eJ h rfl
 refine cRt ?_
 cases h
 exact eR rfl rfl rfl rfl
abbrev B_impl_isOp(p:(List UInt8)→Option (Bool)):Prop:= ∀ {t0_0:List UInt8} {r:Bool},p t0_0=some r→Big Try.prog τ An (.fn 271 [.one (.c (.str t0_0))] [] (.one (.c (.bool r))) none [] none)
def p_impl_isOp(n:Nat)(t0_0:List UInt8):Option (Bool):=
  bif decide (t0_0=([43]:List UInt8))then some true else bif decide (t0_0=([45]:List UInt8))then some true else bif decide (t0_0=([42]:List UInt8))then some true else bif decide (t0_0=([61,61]:List UInt8))then some true else bif decide (t0_0=([60]:List UInt8))then some true else some false
theorem big_impl_isOp{n:Nat}:B_impl_isOp (p_impl_isOp n):=by
 intro t0_0 r h
 unfold p_impl_isOp at h
 refine bF Try.func271 rfl rfl<|cRs<|xAs rfl<|oNl<|cSq<|cRs<|xMv rfl<|oNl<|cBk<|cSq<|cRs<|xEs rfl<|xAs rfl<|oNl<|cIf h rfl (fun q1 h=> ?_) (fun q1 h=> ?_)
 refine cSk<|cT rfl<|cRs<|xAs rfl<|oNl<|cRt ?_
 cases h
 exact eR rfl rfl rfl rfl
 refine cRs<|xEs rfl<|xAs rfl<|oNl<|cIf h rfl (fun q2 h=> ?_) (fun q2 h=> ?_)
 refine cSk<|cT rfl<|cRs<|xAs rfl<|oNl<|cRt ?_
 cases h
 exact eR rfl rfl rfl rfl
 refine cRs<|xEs rfl<|xAs rfl<|oNl<|cIf h rfl (fun q3 h=> ?_) (fun q3 h=> ?_)
 refine cSk<|cT rfl<|cRs<|xAs rfl<|oNl<|cRt ?_
 cases h
 exact eR rfl rfl rfl rfl
 refine cRs<|xEs rfl<|xAs rfl<|oNl<|cIf h rfl (fun q4 h=> ?_) (fun q4 h=> ?_)
 refine cSk<|cT rfl<|cRs<|xAs rfl<|oNl<|cRt ?_
 cases h
 exact eR rfl rfl rfl rfl
 refine cRg<|xEs rfl<|xAs rfl<|oNl<|cIf h rfl (fun q5 h=> ?_) (fun q5 h=> ?_)
 refine cRs<|xAs rfl<|oNl<|cRt ?_
 cases h
 exact eR rfl rfl rfl rfl
 refine cSk<|cRs<|xAs rfl<|oNl<|cRt ?_
 cases h
 exact eR rfl rfl rfl rfl
abbrev B_impl_shapeOk(p:Int→Int→(List UInt8)→Int→Option (Bool)):Prop:= ∀ {t0_0 t1_0:Int} {t2_0:List UInt8} {t3_0:Int} {r:Bool},p t0_0 t1_0 t2_0 t3_0=some r→Big Try.prog τ An (.fn 217 [.one (.c (.int .i64 t0_0)), .one (.c (.int .i64 t1_0)), .one (.c (.str t2_0)), .one (.c (.int .i64 t3_0))] [] (.one (.c (.bool r))) none [] none)
def p_impl_shapeOk(n:Nat)(t0_0:Int)(t1_0:Int)(t2_0:List UInt8)(t3_0:Int):Option (Bool):=
  bif decide (t0_0=(1:Int))then((p_impl_inRange n t1_0 (0:Int) (1000000000000:Int)).bind fun c13_3=>bif c13_3 then bif decide (t2_0=([]:List UInt8))then some (decide (t3_0=(0:Int)))else some false else some false).bind fun v8_2=>some v8_2 else bif decide (t0_0=(2:Int))then(bif decide (t1_0=(0:Int))then(p_impl_xAtomOk n t2_0).bind fun c28_9=>bif c28_9 then some (decide (t3_0=(0:Int)))else some false else some false).bind fun v8_7=>some v8_7 else bif decide (t0_0=(3:Int))then(bif decide (t1_0=(0:Int))then(p_impl_varOk n t2_0).bind fun c40_14=>bif c40_14 then some (decide (t3_0=(0:Int)))else some false else some false).bind fun v8_12=>some v8_12 else bif decide (t0_0=(4:Int))then(bif decide (t1_0=(0:Int))then bif decide (t2_0=([]:List UInt8))then some (decide (t3_0≤(20:Int)))else some false else some false).bind fun v8_17=>some v8_17 else bif decide (t0_0=(5:Int))then(bif decide (t1_0=(0:Int))then bif decide (t2_0=([]:List UInt8))then some (decide (t3_0≤(20:Int)))else some false else some false).bind fun v8_21=>some v8_21 else bif decide (t0_0=(6:Int))then(bif decide (t1_0=(0:Int))then bif decide (t2_0=([]:List UInt8))then(p_impl_inRange n t3_0 (2:Int) (6:Int)).bind fun c69_28=>some c69_28 else some false else some false).bind fun v8_25=>some v8_25 else bif decide (t0_0=(7:Int))then(bif decide (t1_0=(0:Int))then(p_impl_isOp n t2_0).bind fun c77_32=>bif c77_32 then some (decide (t3_0=(2:Int)))else some false else some false).bind fun v8_30=>some v8_30 else bif decide (t0_0=(8:Int))then(bif decide (t1_0=(0:Int))then(p_impl_xAtomOk n t2_0).bind fun c89_37=>bif c89_37 then some (decide (t3_0≤(4:Int)))else some false else some false).bind fun v8_35=>some v8_35 else bif decide (t0_0=(9:Int))then(bif decide (t1_0=(0:Int))then bif decide (t2_0=([]:List UInt8))then some (decide (t3_0=(1:Int)))else some false else some false).bind fun v8_40=>some v8_40 else some false
theorem big_impl_shapeOk{n:Nat}:B_impl_shapeOk (p_impl_shapeOk n):=by
 intro t0_0 t1_0 t2_0 t3_0 r h
 unfold p_impl_shapeOk at h
 refine bF Try.func217 rfl rfl<|cRs<|xAs rfl<|oNl<|cSq<|cRs<|xMv rfl<|oNl<|cBk<|cRs<|xEq rfl<|xAs rfl<|oNl<|cIf h rfl (fun q1 h=> ?_) (fun q1 h=> ?_)
 refine cRs<|oJn h [(8,8),(12,21)] [] (fun v8_2=>(.n,[(8,Bo v8_2)],[])) (fun _ h=> ?_) (fun v8_2 h=> ?_)
 refine xMv rfl<|xC0 h (big_impl_inRange ·) rfl (fun c13_3 h=> ?_)
 refine xMv rfl<|oIf 14 h rfl (fun q4 h=> ?_) (fun q4 h=> ?_)
 refine xMv rfl<|xEs rfl<|xPk rfl<|xMv rfl<|oIf 18 h rfl (fun q5 h=> ?_) (fun q5 h=> ?_)
 exact xMv rfl<|xEq rfl<|xPk rfl<|xAs rfl<|oNl<|eJ h rfl
 exact wSk rfl<|wSk rfl<|xPk rfl<|xAs rfl<|oNl<|eJ h rfl
 exact wSk rfl<|wSk rfl<|xPk rfl<|xMv rfl<|wSk rfl<|wSk rfl<|xPk rfl<|xAs rfl<|oNl<|eJ h rfl
 refine cRt ?_
 cases h
 exact eR rfl rfl rfl rfl
 refine cRs<|xEq rfl<|xAs rfl<|oNl<|cIf h rfl (fun q6 h=> ?_) (fun q6 h=> ?_)
 refine cRs<|oJn h [(8,8),(24,33)] [] (fun v8_7=>(.n,[(8,Bo v8_7)],[])) (fun _ h=> ?_) (fun v8_7 h=> ?_)
 refine xMv rfl<|xEq rfl<|xMv rfl<|oIf 26 h rfl (fun q8 h=> ?_) (fun q8 h=> ?_)
 refine xMv rfl<|xC0 h (big_impl_xAtomOk ·) rfl (fun c28_9 h=> ?_)
 refine xPk rfl<|xMv rfl<|oIf 30 h rfl (fun q10 h=> ?_) (fun q10 h=> ?_)
 exact xMv rfl<|xEq rfl<|xPk rfl<|xAs rfl<|oNl<|eJ h rfl
 exact wSk rfl<|wSk rfl<|xPk rfl<|xAs rfl<|oNl<|eJ h rfl
 exact wSk rfl<|wSk rfl<|xPk rfl<|xMv rfl<|wSk rfl<|wSk rfl<|xPk rfl<|xAs rfl<|oNl<|eJ h rfl
 refine cRt ?_
 cases h
 exact eR rfl rfl rfl rfl
 refine cRs<|xEq rfl<|xAs rfl<|oNl<|cIf h rfl (fun q11 h=> ?_) (fun q11 h=> ?_)
 refine cRs<|oJn h [(8,8),(36,45)] [] (fun v8_12=>(.n,[(8,Bo v8_12)],[])) (fun _ h=> ?_) (fun v8_12 h=> ?_)
 refine xMv rfl<|xEq rfl<|xMv rfl<|oIf 38 h rfl (fun q13 h=> ?_) (fun q13 h=> ?_)
 refine xMv rfl<|xC0 h (big_impl_varOk ·) rfl (fun c40_14 h=> ?_)
 refine xPk rfl<|xMv rfl<|oIf 42 h rfl (fun q15 h=> ?_) (fun q15 h=> ?_)
 exact xMv rfl<|xEq rfl<|xPk rfl<|xAs rfl<|oNl<|eJ h rfl
 exact wSk rfl<|wSk rfl<|xPk rfl<|xAs rfl<|oNl<|eJ h rfl
 exact wSk rfl<|wSk rfl<|xPk rfl<|xMv rfl<|wSk rfl<|wSk rfl<|xPk rfl<|xAs rfl<|oNl<|eJ h rfl
 refine cRt ?_
 cases h
 exact eR rfl rfl rfl rfl
 refine cSq<|cRs<|xEq rfl<|xAs rfl<|oNl<|cIf h rfl (fun q16 h=> ?_) (fun q16 h=> ?_)
 refine cSk<|cT rfl<|cRs<|oJn h [(8,8),(49,58)] [] (fun v8_17=>(.n,[(8,Bo v8_17)],[])) (fun _ h=> ?_) (fun v8_17 h=> ?_)
 refine xMv rfl<|xEq rfl<|xMv rfl<|oIf 51 h rfl (fun q18 h=> ?_) (fun q18 h=> ?_)
 refine xMv rfl<|xEs rfl<|xPk rfl<|xMv rfl<|oIf 55 h rfl (fun q19 h=> ?_) (fun q19 h=> ?_)
 exact xMv rfl<|xLe rfl<|xPk rfl<|xAs rfl<|oNl<|eJ h rfl
 exact wSk rfl<|wSk rfl<|xPk rfl<|xAs rfl<|oNl<|eJ h rfl
 exact wSk rfl<|wSk rfl<|xPk rfl<|xMv rfl<|wSk rfl<|wSk rfl<|xPk rfl<|xAs rfl<|oNl<|eJ h rfl
 refine cRt ?_
 cases h
 exact eR rfl rfl rfl rfl
 refine cRg<|xEq rfl<|xAs rfl<|oNl<|cIf h rfl (fun q20 h=> ?_) (fun q20 h=> ?_)
 refine cRs<|oJn h [(8,8),(49,58)] [] (fun v8_21=>(.n,[(8,Bo v8_21)],[])) (fun _ h=> ?_) (fun v8_21 h=> ?_)
 refine xMv rfl<|xEq rfl<|xMv rfl<|oIf 51 h rfl (fun q22 h=> ?_) (fun q22 h=> ?_)
 refine xMv rfl<|xEs rfl<|xPk rfl<|xMv rfl<|oIf 55 h rfl (fun q23 h=> ?_) (fun q23 h=> ?_)
 exact xMv rfl<|xLe rfl<|xPk rfl<|xAs rfl<|oNl<|eJ h rfl
 exact wSk rfl<|wSk rfl<|xPk rfl<|xAs rfl<|oNl<|eJ h rfl
 exact wSk rfl<|wSk rfl<|xPk rfl<|xMv rfl<|wSk rfl<|wSk rfl<|xPk rfl<|xAs rfl<|oNl<|eJ h rfl
 refine cRt ?_
 cases h
 exact eR rfl rfl rfl rfl
 refine cRs<|xEq rfl<|xAs rfl<|oNl<|cIf h rfl (fun q24 h=> ?_) (fun q24 h=> ?_)
 refine cRs<|oJn h [(8,8),(61,70)] [] (fun v8_25=>(.n,[(8,Bo v8_25)],[])) (fun _ h=> ?_) (fun v8_25 h=> ?_)
 refine xMv rfl<|xEq rfl<|xMv rfl<|oIf 63 h rfl (fun q26 h=> ?_) (fun q26 h=> ?_)
 refine xMv rfl<|xEs rfl<|xPk rfl<|xMv rfl<|oIf 67 h rfl (fun q27 h=> ?_) (fun q27 h=> ?_)
 refine xMv rfl<|xC0 h (big_impl_inRange ·) rfl (fun c69_28 h=> ?_)
 exact xPk rfl<|xAs rfl<|oNl<|eJ h rfl
 exact wSk rfl<|wSk rfl<|xPk rfl<|xAs rfl<|oNl<|eJ h rfl
 exact wSk rfl<|wSk rfl<|xPk rfl<|xMv rfl<|wSk rfl<|wSk rfl<|xPk rfl<|xAs rfl<|oNl<|eJ h rfl
 refine cRt ?_
 cases h
 exact eR rfl rfl rfl rfl
 refine cRs<|xEq rfl<|xAs rfl<|oNl<|cIf h rfl (fun q29 h=> ?_) (fun q29 h=> ?_)
 refine cRs<|oJn h [(8,8),(73,82)] [] (fun v8_30=>(.n,[(8,Bo v8_30)],[])) (fun _ h=> ?_) (fun v8_30 h=> ?_)
 refine xMv rfl<|xEq rfl<|xMv rfl<|oIf 75 h rfl (fun q31 h=> ?_) (fun q31 h=> ?_)
 refine xMv rfl<|xC0 h (big_impl_isOp ·) rfl (fun c77_32 h=> ?_)
 refine xPk rfl<|xMv rfl<|oIf 79 h rfl (fun q33 h=> ?_) (fun q33 h=> ?_)
 exact xMv rfl<|xEq rfl<|xPk rfl<|xAs rfl<|oNl<|eJ h rfl
 exact wSk rfl<|wSk rfl<|xPk rfl<|xAs rfl<|oNl<|eJ h rfl
 exact wSk rfl<|wSk rfl<|xPk rfl<|xMv rfl<|wSk rfl<|wSk rfl<|xPk rfl<|xAs rfl<|oNl<|eJ h rfl
 refine cRt ?_
 cases h
 exact eR rfl rfl rfl rfl
 refine cRs<|xEq rfl<|xAs rfl<|oNl<|cIf h rfl (fun q34 h=> ?_) (fun q34 h=> ?_)
 refine cRs<|oJn h [(8,8),(85,94)] [] (fun v8_35=>(.n,[(8,Bo v8_35)],[])) (fun _ h=> ?_) (fun v8_35 h=> ?_)
 refine xMv rfl<|xEq rfl<|xMv rfl<|oIf 87 h rfl (fun q36 h=> ?_) (fun q36 h=> ?_)
 refine xMv rfl<|xC0 h (big_impl_xAtomOk ·) rfl (fun c89_37 h=> ?_)
 refine xPk rfl<|xMv rfl<|oIf 91 h rfl (fun q38 h=> ?_) (fun q38 h=> ?_)
 exact xMv rfl<|xLe rfl<|xPk rfl<|xAs rfl<|oNl<|eJ h rfl
 exact wSk rfl<|wSk rfl<|xPk rfl<|xAs rfl<|oNl<|eJ h rfl
 exact wSk rfl<|wSk rfl<|xPk rfl<|xMv rfl<|wSk rfl<|wSk rfl<|xPk rfl<|xAs rfl<|oNl<|eJ h rfl
 refine cRt ?_
 cases h
 exact eR rfl rfl rfl rfl
 refine cRs<|xEq rfl<|xAs rfl<|oNl<|cIf h rfl (fun q39 h=> ?_) (fun q39 h=> ?_)
 refine cRs<|oJn h [(8,8),(97,106)] [] (fun v8_40=>(.n,[(8,Bo v8_40)],[])) (fun _ h=> ?_) (fun v8_40 h=> ?_)
 refine xMv rfl<|xEq rfl<|xMv rfl<|oIf 99 h rfl (fun q41 h=> ?_) (fun q41 h=> ?_)
 refine xMv rfl<|xEs rfl<|xPk rfl<|xMv rfl<|oIf 103 h rfl (fun q42 h=> ?_) (fun q42 h=> ?_)
 exact xMv rfl<|xEq rfl<|xPk rfl<|xAs rfl<|oNl<|eJ h rfl
 exact wSk rfl<|wSk rfl<|xPk rfl<|xAs rfl<|oNl<|eJ h rfl
 exact wSk rfl<|wSk rfl<|xPk rfl<|xMv rfl<|wSk rfl<|wSk rfl<|xPk rfl<|xAs rfl<|oNl<|eJ h rfl
 refine cRt ?_
 cases h
 exact eR rfl rfl rfl rfl
 refine cSk<|cRs<|xAs rfl<|oNl<|cRt ?_
 cases h
 exact eR rfl rfl rfl rfl
abbrev Y_impl_fitter_fits:Type:=Int→Int→(List UInt8)→(List S_impl_Pat)→Int→Int→Int→(List Int)→Option (Bool×Int×Int×(List Int))
abbrev B_impl_fitter_fits(p:Y_impl_fitter_fits):Prop:= ∀ {t1_0 t1_1:Int} {t1_2:List UInt8} {t1_3:List S_impl_Pat} {t2_0 o0_0 o0_1:Int} {o0_2:List Int} {r:Bool×Int×Int×(List Int)},p t1_0 t1_1 t1_2 t1_3 t2_0 o0_0 o0_1 o0_2=some r→Big Try.prog τ An (.fn 131 [.one (.ptr 1000000 0), .one (.ag [.int .i64 t1_0, .int .i64 t1_1, .str t1_2, .sl (t1_3.map rS_impl_Pat)]), .one (.c (.int .i64 t2_0))] [[.int .i64 o0_0, .int .i64 o0_1, .sl (o0_2.map rI_i64)]] (.one (.c (.bool r.1))) none [[.int .i64 r.2.1, .int .i64 r.2.2.1, .sl (r.2.2.2.map rI_i64)]] none)
def p_impl_fitter_fits_b1(n:Nat)(r_impl_fitter_fits:Y_impl_fitter_fits)(t2_0:Int)(t1_3:List S_impl_Pat):(Int×Int×Int×(List Int))→Option ((Int×Int×Int×(List Int))⊕((Bool×Int×Int×(List Int))⊕(Int×Bool×Int×Int×(List Int))))
  | (v92_18,w1000000_19,w1000000_20,w1000000_21)=>bif decide (v92_18<(t1_3.length:Int))then(ix t1_3 v92_18).bind fun e94_32=>(r_impl_fitter_fits e94_32.f0 e94_32.f1 e94_32.f2 e94_32.f3 (IntKind.wrap .i64 (t2_0+(1:Int))) w1000000_19 w1000000_20 w1000000_21).bind fun c100_33=>bif !c100_33.1 then some (.inr (.inl (false,c100_33.2.1,c100_33.2.2.1,c100_33.2.2.2)))else some (.inl ((IntKind.wrap .i64 (v92_18+(1:Int))),c100_33.2.1,c100_33.2.2.1,c100_33.2.2.2))else some (.inr (.inr (v92_18,false,w1000000_19,w1000000_20,w1000000_21)))
def s_impl_fitter_fits(n:Nat)(r_impl_fitter_fits:Y_impl_fitter_fits)(t1_0:Int)(t1_1:Int)(t1_2:List UInt8)(t1_3:List S_impl_Pat)(t2_0:Int)(o0_0:Int)(o0_1:Int)(o0_2:List Int):Option (Bool×Int×Int×(List Int)):=
  (bif decide ((10:Int)<t2_0)then some true else some (decide ((300:Int)<(IntKind.wrap .i64 (o0_1+(1:Int)))))).bind fun v24_1=>bif v24_1 then some (false,o0_0,(IntKind.wrap .i64 (o0_1+(1:Int))),o0_2)else bif decide (t1_0=(3:Int))then((p_impl_inRange n t1_1 ((-1):Int) (IntKind.wrap .i64 (o0_0 - (1:Int)))).bind fun c35_6=>bif !c35_6 then some true else bif !decide (t1_2=([]:List UInt8))then some true else bif decide ((0:Int)<(t1_3.length:Int))then some true else bif decide ((0:Int)≤t1_1)then(p_slices_Contains_c73f n o0_2 t1_1).bind fun c59_11=>some c59_11 else some false).bind fun v61_5=>bif v61_5 then some (false,o0_0,(IntKind.wrap .i64 (o0_1+(1:Int))),o0_2)else(app2 8 o0_2 ([t1_1]:List Int)).bind fun v70_13=>some (true,o0_0,(IntKind.wrap .i64 (o0_1+(1:Int))),v70_13)else(bif decide ((6:Int)<t1_0)then some true else(p_impl_shapeOk n t1_0 t1_1 t1_2 (t1_3.length:Int)).bind fun c86_16=>some (!c86_16)).bind fun v88_14=>bif v88_14 then some (false,o0_0,(IntKind.wrap .i64 (o0_1+(1:Int))),o0_2)else(loopN (p_impl_fitter_fits_b1 n r_impl_fitter_fits t2_0 t1_3) n ((0:Int),o0_0,(IntKind.wrap .i64 (o0_1+(1:Int))),o0_2)).bind fun q=>(match q with | .inl (v6_22,w1000000_23,w1000000_24,w1000000_25)=>some (v6_22,w1000000_23,w1000000_24,w1000000_25) | .inr (v92_26,v93_27,w1000000_28,w1000000_29,w1000000_30)=>some (true,w1000000_28,w1000000_29,w1000000_30))
theorem step_impl_fitter_fits{n:Nat}{r_impl_fitter_fits:Y_impl_fitter_fits}(ih_impl_fitter_fits:B_impl_fitter_fits r_impl_fitter_fits):B_impl_fitter_fits (s_impl_fitter_fits n r_impl_fitter_fits):=by
 intro t1_0 t1_1 t1_2 t1_3 t2_0 o0_0 o0_1 o0_2 r h
 unfold s_impl_fitter_fits at h
 refine bF Try.func131 rfl rfl<|cRs<|xBx rfl<|xAs rfl<|oRs<|xMv rfl<|xNc rfl<|xFd rfl<|xLd rfl<|xAdd rfl<|xNc rfl<|xFd rfl<|xSt rfl<|oNl ?_
 refine cSq<|cRs<|oJn h [(16,24)] [] (fun v24_1=>(.n,[(24,Bo v24_1)],[])) (fun _ h=> ?_) (fun v24_1 h=> ?_)
 refine xMv rfl<|xGt rfl<|xMv rfl<|oIf 18 h rfl (fun q2 h=> ?_) (fun q2 h=> ?_)
 exact wSk rfl<|wSk rfl<|wSk rfl<|wSk rfl<|wSk rfl<|xPk rfl<|oNl<|eJ h rfl
 exact xMv rfl<|xNc rfl<|xFd rfl<|xLd rfl<|xGt rfl<|xPk rfl<|oNl<|eJ h rfl
 refine cIf h rfl (fun q3 h=> ?_) (fun q3 h=> ?_)
 refine cRs<|xAs rfl<|oNl<|cRt ?_
 cases h
 exact eR rfl rfl rfl rfl
 refine cSk<|cSq<|cRs<|xFd rfl<|xLd rfl<|xEq rfl<|oNl<|cIf h rfl (fun q4 h=> ?_) (fun q4 h=> ?_)
 refine cSq<|cRs<|oJn h [(28,61)] [] (fun v61_5=>(.n,[(61,Bo v61_5)],[])) (fun _ h=> ?_) (fun v61_5 h=> ?_)
 refine xFd rfl<|xLd rfl<|xMv rfl<|xNc rfl<|xFd rfl<|xLd rfl<|xSub rfl<|xC0 h (big_impl_inRange ·) rfl (fun c35_6 h=> ?_)
 refine xNot rfl<|xMv rfl<|oIf 37 h rfl (fun q7 h=> ?_) (fun q7 h=> ?_)
 refine wSk rfl<|wSk rfl<|wSk rfl<|xPk rfl<|xMv rfl<|wSk rfl<|wSk rfl<|wSk rfl<|wSk rfl<|xPk rfl<|xMv rfl<|wSk rfl<|wSk rfl<|wSk rfl ?_
 exact wSk rfl<|wSk rfl<|wSk rfl<|wSk rfl<|wSk rfl<|wSk rfl<|wSk rfl<|wSk rfl<|wSk rfl<|xPk rfl<|oNl<|eJ h rfl
 refine xFd rfl<|xLd rfl<|xNs rfl<|xPk rfl<|xMv rfl<|oIf 42 h rfl (fun q8 h=> ?_) (fun q8 h=> ?_)
 refine wSk rfl<|wSk rfl<|wSk rfl<|wSk rfl<|xPk rfl<|xMv rfl<|wSk rfl<|wSk rfl<|wSk rfl<|wSk rfl<|wSk rfl<|wSk rfl<|wSk rfl<|wSk rfl ?_
 exact wSk rfl<|wSk rfl<|wSk rfl<|wSk rfl<|xPk rfl<|oNl<|eJ h rfl
 refine xFd rfl<|xLd rfl<|xLn rfl<|xGt rfl<|xPk rfl<|xMv rfl<|oIf 48 h rfl (fun q9 h=> ?_) (fun q9 h=> ?_)
 exact wSk rfl<|wSk rfl<|wSk rfl<|wSk rfl<|wSk rfl<|wSk rfl<|wSk rfl<|wSk rfl<|wSk rfl<|wSk rfl<|wSk rfl<|wSk rfl<|xPk rfl<|oNl<|eJ h rfl
 refine xFd rfl<|xLd rfl<|xGe rfl<|xMv rfl<|oIf 52 h rfl (fun q10 h=> ?_) (fun q10 h=> ?_)
 refine xMv rfl<|xNc rfl<|xFd rfl<|xLd rfl<|xFd rfl<|xLd rfl<|xC0 h (big_slices_Contains_c73f ·) rfl (fun c59_11 h=> ?_)
 exact xPk rfl<|xPk rfl<|oNl<|eJ h rfl
 exact wSk rfl<|wSk rfl<|wSk rfl<|wSk rfl<|wSk rfl<|wSk rfl<|wSk rfl<|xPk rfl<|xPk rfl<|oNl<|eJ h rfl
 refine cIf h rfl (fun q12 h=> ?_) (fun q12 h=> ?_)
 refine cRs<|xAs rfl<|oNl<|cRt ?_
 cases h
 exact eR rfl rfl rfl rfl
 refine cSk<|cRs<|xMv rfl<|xMv rfl<|xNc rfl<|xFd rfl<|xLd rfl<|xFd rfl<|xLd rfl<|wLt' (L:=([t1_1]:List Int)) (f:=rI_i64) rfl rfl rfl rfl rfl rfl rfl<|wAp (f:=rI_i64) h rfl rfl rfl rfl rfl rfl rfl rfl rfl (fun _=>rfl) rfl (fun v70_13 h=> ?_)
 refine xNc rfl<|xFd rfl<|xSt rfl<|oRs<|xAs rfl<|oNl<|cRt ?_
 cases h
 exact eR rfl rfl rfl rfl
 refine cSk<|cSq<|cRs<|oJn h [(73,88)] [] (fun v88_14=>(.n,[(88,Bo v88_14)],[])) (fun _ h=> ?_) (fun v88_14 h=> ?_)
 refine xFd rfl<|xLd rfl<|xGt rfl<|xMv rfl<|oIf 76 h rfl (fun q15 h=> ?_) (fun q15 h=> ?_)
 exact wSk rfl<|wSk rfl<|wSk rfl<|wSk rfl<|wSk rfl<|wSk rfl<|wSk rfl<|wSk rfl<|wSk rfl<|wSk rfl<|wSk rfl<|xPk rfl<|oNl<|eJ h rfl
 refine xFd rfl<|xLd rfl<|xFd rfl<|xLd rfl<|xFd rfl<|xLd rfl<|xFd rfl<|xLd rfl<|xLn rfl<|xC0 h (big_impl_shapeOk ·) rfl (fun c86_16 h=> ?_)
 exact xNot rfl<|xPk rfl<|oNl<|eJ h rfl
 refine cIf h rfl (fun q17 h=> ?_) (fun q17 h=> ?_)
 refine cRs<|xAs rfl<|oNl<|cRt ?_
 cases h
 exact eR rfl rfl rfl rfl
 refine cSk<|cSq<|cRs<|xFd rfl<|xLd rfl<|xLn rfl<|xMv rfl<|oNl<|cLp h [(6,6),(8,8),(92,102)] [(8,8),(1000000,1000000)] (fun(v92_18,w1000000_19,w1000000_20,w1000000_21)=>([(92,I64 v92_18)],[(1000000,[.int .i64 w1000000_19, .int .i64 w1000000_20, .sl (w1000000_21.map rI_i64)])])) (fun q=>match q with | .inl (v6_22,w1000000_23,w1000000_24,w1000000_25)=>(.r,[(6,Bo v6_22)],[(1000000,[.int .i64 w1000000_23, .int .i64 w1000000_24, .sl (w1000000_25.map rI_i64)])]) | .inr (v92_26,v93_27,w1000000_28,w1000000_29,w1000000_30)=>(.e 0,[(92,I64 v92_26),(93,Bo v93_27)],[(1000000,[.int .i64 w1000000_28, .int .i64 w1000000_29, .sl (w1000000_30.map rI_i64)])])) rfl (fun st _ h=> ?_) (fun q h=> ?_)
 obtain⟨v92_18,w1000000_19,w1000000_20,w1000000_21⟩:=st
 unfold p_impl_fitter_fits_b1 at h
 refine cRs<|xLt rfl<|oNl<|cSq<|cIf h rfl (fun q31 h=> ?_) (fun q31 h=> ?_)
 refine cSk<|cSq<|cBk<|cRs<|xIx h rS_impl_Pat_eq rfl (fun e94_32 h=> ?_)
 refine xLd rfl<|xAz [.int .i64 0, .int .i64 0, .str [], .sl ([].map rS_impl_Pat)] rfl<|xSt rfl<|oRs<|xMv rfl<|xLd rfl<|xMv rfl<|xAdd rfl<|xC1 h (ih_impl_fitter_fits ·) rfl (fun c100_33 h=> ?_)
 refine xNot rfl<|oNl<|cIf h rfl (fun q34 h=> ?_) (fun q34 h=> ?_)
 exact cRs<|xAs rfl<|oNl<|cRt<|eXr h rfl
 exact cSk<|cRg<|xAdd rfl<|xMv rfl<|oNl<|eL h rfl
 exact cEx<|eX h rfl
 rcases q with⟨v6_22,w1000000_23,w1000000_24,w1000000_25⟩ | ⟨v92_26,v93_27,w1000000_28,w1000000_29,w1000000_30⟩
 cases h
 exact eR rfl rfl rfl rfl
 refine cRs<|xAs rfl<|oNl<|cRt ?_
 cases h
 exact eR rfl rfl rfl rfl
def q_impl_fitter_fits:Nat→(Y_impl_fitter_fits)
  | 0=>(fun _ _ _ _ _ _ _ _=>none)
  | n+1=>s_impl_fitter_fits n (q_impl_fitter_fits n)
def p_impl_fitter_fits(n:Nat):Y_impl_fitter_fits:=q_impl_fitter_fits n
theorem bigs_impl_fitter_fits(n:Nat):B_impl_fitter_fits (p_impl_fitter_fits n):=by
  induction n with
  | zero=>exact(fun h=>nomatch h)
  | succ n ih=>exact step_impl_fitter_fits (n:=n) ih
theorem big_impl_fitter_fits{n:Nat}:B_impl_fitter_fits (p_impl_fitter_fits n):=(bigs_impl_fitter_fits n)
theorem p_impl_fitter_fits_succ(n:Nat):p_impl_fitter_fits (n+1)=s_impl_fitter_fits n (p_impl_fitter_fits n):=rfl
abbrev B_impl_PatFits(p:Int→Int→(List UInt8)→(List S_impl_Pat)→Int→Option (Bool)):Prop:= ∀ {t0_0 t0_1:Int} {t0_2:List UInt8} {t0_3:List S_impl_Pat} {t1_0:Int} {r:Bool},p t0_0 t0_1 t0_2 t0_3 t1_0=some r→Big Try.prog τ An (.fn 45 [.one (.ag [.int .i64 t0_0, .int .i64 t0_1, .str t0_2, .sl (t0_3.map rS_impl_Pat)]), .one (.c (.int .i64 t1_0))] [] (.one (.c (.bool r))) none [] none)
def p_impl_PatFits(n:Nat)(t0_0:Int)(t0_1:Int)(t0_2:List UInt8)(t0_3:List S_impl_Pat)(t1_0:Int):Option (Bool):=
  ((p_impl_inRange n t1_0 (0:Int) (400:Int)).bind fun c9_5=>bif c9_5 then(p_impl_fitter_fits n t0_0 t0_1 t0_2 t0_3 (1:Int) t1_0 (0:Int) ([]:List Int)).bind fun c12_7=>some (c12_7.1,c12_7.2.1,c12_7.2.2.1,c12_7.2.2.2)else some (false,t1_0,(0:Int),([]:List Int))).bind fun(v4_1,w5_2,w5_3,w5_4)=>some v4_1
theorem big_impl_PatFits{n:Nat}:B_impl_PatFits (p_impl_PatFits n):=by
 intro t0_0 t0_1 t0_2 t0_3 t1_0 r h
 unfold p_impl_PatFits at h
 refine bF Try.func45 rfl rfl<|cRs<|xBx rfl<|xAs rfl<|oRs<|xMv rfl<|wBd [.int .i64 t1_0, .int .i64 0, .sl ([].map rI_i64)] rfl rfl rfl rfl rfl rfl<|xAz [.int .i64 0, .int .i64 0, .sl ([].map rI_i64)] rfl<|xSt rfl<|oRs<|oJn h [(4,4),(8,13)] [(5,5)] (fun(v4_1,w5_2,w5_3,w5_4)=>(.n,[(4,Bo v4_1)],[(5,[.int .i64 w5_2, .int .i64 w5_3, .sl (w5_4.map rI_i64)])])) (fun _ h=> ?_) (fun q h=> ?_)
 refine xMv rfl<|xC0 h (big_impl_inRange ·) rfl (fun c9_5 h=> ?_)
 refine xMv rfl<|oIf 10 h rfl (fun q6 h=> ?_) (fun q6 h=> ?_)
 refine xLd rfl<|xC1 h (big_impl_fitter_fits ·) rfl (fun c12_7 h=> ?_)
 exact xPk rfl<|xAs rfl<|oNl<|eJ h rfl
 exact wSk rfl<|wSk rfl<|xPk rfl<|xAs rfl<|oNl<|eJ h rfl
 obtain⟨v4_1,w5_2,w5_3,w5_4⟩:=q
 refine cRt ?_
 cases h
 exact eR rfl rfl rfl rfl
abbrev B_impl_insOk(p:(List UInt8)→Int→Int→(List S_impl_Ins)→Int→Int→(List UInt8)→Int→(List S_impl_Fn)→(List S_impl_Pat)→Option (Bool×(List S_impl_Fn)×(List S_impl_Pat))):Prop:= ∀ {t1_0:List UInt8} {t1_1 t1_2:Int} {t1_3:List S_impl_Ins} {t2_0 t2_1:Int} {t2_2:List UInt8} {t2_3:Int} {o0_0:List S_impl_Fn} {o0_1:List S_impl_Pat} {r:Bool×(List S_impl_Fn)×(List S_impl_Pat)},p t1_0 t1_1 t1_2 t1_3 t2_0 t2_1 t2_2 t2_3 o0_0 o0_1=some r→Big Try.prog τ An (.fn 214 [.one (.ptr 1000000 0), .one (.cp [.str t1_0, .int .i64 t1_1, .int .i64 t1_2, .sl (t1_3.map rS_impl_Ins)]), .one (.ag [.int .i64 t2_0, .int .i64 t2_1, .str t2_2, .int .i64 t2_3])] [[.sl (o0_0.map rS_impl_Fn), .sl (o0_1.map rS_impl_Pat)]] (.one (.c (.bool r.1))) none [[.sl (r.2.1.map rS_impl_Fn), .sl (r.2.2.map rS_impl_Pat)]] none)
def p_impl_insOk(n:Nat)(t1_0:List UInt8)(t1_1:Int)(t1_2:Int)(t1_3:List S_impl_Ins)(t2_0:Int)(t2_1:Int)(t2_2:List UInt8)(t2_3:Int)(o0_0:List S_impl_Fn)(o0_1:List S_impl_Pat):Option (Bool×(List S_impl_Fn)×(List S_impl_Pat)):=
  (bif decide (t2_2=([]:List UInt8))then some (decide (t2_3=(0:Int)))else some false).bind fun v7_1=>(p_impl_inRange n t2_3 (0:Int) (IntKind.wrap .i64 ((t1_3.length:Int) - (1:Int)))).bind fun c26_3=>bif decide (t2_0=(1:Int))then(bif v7_1 then(p_impl_inRange n t2_1 (0:Int) (1000000000000:Int)).bind fun c35_7=>some c35_7 else some false).bind fun v6_5=>some (v6_5,o0_0,o0_1)else bif decide (t2_0=(2:Int))then(bif decide (t2_1=(0:Int))then(p_impl_xAtomOk n t2_2).bind fun c45_11=>bif c45_11 then some (decide (t2_3=(0:Int)))else some false else some false).bind fun v6_9=>some (v6_9,o0_0,o0_1)else bif decide (t2_0=(3:Int))then(bif v7_1 then(p_impl_inRange n t2_1 (0:Int) (IntKind.wrap .i64 (t1_2 - (1:Int)))).bind fun c63_16=>some c63_16 else some false).bind fun v6_14=>some (v6_14,o0_0,o0_1)else bif decide (t2_0=(4:Int))then(bif v7_1 then(p_impl_inRange n t2_1 (0:Int) (20:Int)).bind fun c72_20=>some c72_20 else some false).bind fun v6_18=>some (v6_18,o0_0,o0_1)else bif decide (t2_0=(5:Int))then(bif v7_1 then(p_impl_inRange n t2_1 (0:Int) (20:Int)).bind fun c72_24=>some c72_24 else some false).bind fun v6_22=>some (v6_22,o0_0,o0_1)else bif decide (t2_0=(6:Int))then(bif v7_1 then(p_impl_inRange n t2_1 (2:Int) (6:Int)).bind fun c80_28=>some c80_28 else some false).bind fun v6_26=>some (v6_26,o0_0,o0_1)else bif decide (t2_0=(7:Int))then(bif decide (t2_1=(0:Int))then(p_impl_isOp n t2_2).bind fun c90_32=>bif c90_32 then some (decide (t2_3=(0:Int)))else some false else some false).bind fun v6_30=>some (v6_30,o0_0,o0_1)else bif decide (t2_0=(8:Int))then(p_impl_fnAt n t2_2 o0_0 o0_1).bind fun c102_35=>(bif decide ((0:Int)≤c102_35.1)then(ix c102_35.2.1 c102_35.1).bind fun e111_38=>bif decide (e111_38.f1=t2_1)then some (decide (t2_3=(0:Int)))else some false else some false).bind fun v6_36=>some (v6_36,c102_35.2.1,c102_35.2.2)else bif decide (t2_0=(9:Int))then(bif decide (t2_2=([]:List UInt8))then bif c26_3 then(p_impl_inRange n t2_1 (0:Int) (IntKind.wrap .i64 ((o0_1.length:Int) - (1:Int)))).bind fun c140_44=>bif c140_44 then(ix o0_1 t2_1).bind fun e149_46=>(p_impl_PatFits n e149_46.f0 e149_46.f1 e149_46.f2 e149_46.f3 t1_2).bind fun c155_47=>some c155_47 else some false else some false else some false).bind fun v6_41=>some (v6_41,o0_0,o0_1)else bif decide (t2_0=(10:Int))then(bif decide (t2_2=([]:List UInt8))then bif decide (t2_1=(0:Int))then some c26_3 else some false else some false).bind fun v6_49=>some (v6_49,o0_0,o0_1)else bif decide (t2_0=(11:Int))then(bif v7_1 then some (decide (t2_1=(0:Int)))else some false).bind fun v6_53=>some (v6_53,o0_0,o0_1)else bif decide (t2_0=(12:Int))then(bif v7_1 then some (decide (t2_1=(0:Int)))else some false).bind fun v6_56=>some (v6_56,o0_0,o0_1)else some (false,o0_0,o0_1)
theorem big_impl_insOk{n:Nat}:B_impl_insOk (p_impl_insOk n):=by
 intro t1_0 t1_1 t1_2 t1_3 t2_0 t2_1 t2_2 t2_3 o0_0 o0_1 r h
 unfold p_impl_insOk at h
 refine bF Try.func214 rfl rfl<|cRs<|xBx rfl<|xAs rfl<|oRs<|oJn h [(7,7),(10,17)] [] (fun v7_1=>(.n,[(7,Bo v7_1)],[])) (fun _ h=> ?_) (fun v7_1 h=> ?_)
 refine xFd rfl<|xLd rfl<|xEs rfl<|xMv rfl<|oIf 13 h rfl (fun q2 h=> ?_) (fun q2 h=> ?_)
 exact xFd rfl<|xLd rfl<|xEq rfl<|xPk rfl<|xAs rfl<|oNl<|eJ h rfl
 exact wSk rfl<|wSk rfl<|wSk rfl<|xPk rfl<|xAs rfl<|oNl<|eJ h rfl
 refine cRs<|xFd rfl<|xLd rfl<|xMv rfl<|xNc rfl<|xFd rfl<|xLd rfl<|xLn rfl<|xSub rfl<|xC0 h (big_impl_inRange ·) rfl (fun c26_3 h=> ?_)
 refine xAs rfl<|oNl<|cSq<|cRs<|xFd rfl<|xLd rfl<|oNl<|cBk<|cRs<|xEq rfl<|xAs rfl<|oNl<|cIf h rfl (fun q4 h=> ?_) (fun q4 h=> ?_)
 refine cRs<|oJn h [(6,6),(31,36)] [] (fun v6_5=>(.n,[(6,Bo v6_5)],[])) (fun _ h=> ?_) (fun v6_5 h=> ?_)
 refine xMv rfl<|xMv rfl<|oIf 32 h rfl (fun q6 h=> ?_) (fun q6 h=> ?_)
 refine xFd rfl<|xLd rfl<|xC0 h (big_impl_inRange ·) rfl (fun c35_7 h=> ?_)
 exact xPk rfl<|xAs rfl<|oNl<|eJ h rfl
 exact wSk rfl<|wSk rfl<|wSk rfl<|xPk rfl<|xAs rfl<|oNl<|eJ h rfl
 refine cRt ?_
 cases h
 exact eR rfl rfl rfl rfl
 refine cRs<|xEq rfl<|xAs rfl<|oNl<|cIf h rfl (fun q8 h=> ?_) (fun q8 h=> ?_)
 refine cRs<|oJn h [(6,6),(39,51)] [] (fun v6_9=>(.n,[(6,Bo v6_9)],[])) (fun _ h=> ?_) (fun v6_9 h=> ?_)
 refine xFd rfl<|xLd rfl<|xEq rfl<|xMv rfl<|oIf 42 h rfl (fun q10 h=> ?_) (fun q10 h=> ?_)
 refine xFd rfl<|xLd rfl<|xC0 h (big_impl_xAtomOk ·) rfl (fun c45_11 h=> ?_)
 refine xPk rfl<|xMv rfl<|oIf 47 h rfl (fun q12 h=> ?_) (fun q12 h=> ?_)
 exact xFd rfl<|xLd rfl<|xEq rfl<|xPk rfl<|xAs rfl<|oNl<|eJ h rfl
 exact wSk rfl<|wSk rfl<|wSk rfl<|xPk rfl<|xAs rfl<|oNl<|eJ h rfl
 exact wSk rfl<|wSk rfl<|wSk rfl<|xPk rfl<|xMv rfl<|wSk rfl<|wSk rfl<|wSk rfl<|xPk rfl<|xAs rfl<|oNl<|eJ h rfl
 refine cRt ?_
 cases h
 exact eR rfl rfl rfl rfl
 refine cRs<|xEq rfl<|xAs rfl<|oNl<|cIf h rfl (fun q13 h=> ?_) (fun q13 h=> ?_)
 refine cRs<|oJn h [(6,6),(54,64)] [] (fun v6_14=>(.n,[(6,Bo v6_14)],[])) (fun _ h=> ?_) (fun v6_14 h=> ?_)
 refine xMv rfl<|xMv rfl<|oIf 55 h rfl (fun q15 h=> ?_) (fun q15 h=> ?_)
 refine xFd rfl<|xLd rfl<|xMv rfl<|xNc rfl<|xFd rfl<|xLd rfl<|xSub rfl<|xC0 h (big_impl_inRange ·) rfl (fun c63_16 h=> ?_)
 exact xPk rfl<|xAs rfl<|oNl<|eJ h rfl
 exact wSk rfl<|wSk rfl<|wSk rfl<|wSk rfl<|wSk rfl<|wSk rfl<|wSk rfl<|wSk rfl<|xPk rfl<|xAs rfl<|oNl<|eJ h rfl
 refine cRt ?_
 cases h
 exact eR rfl rfl rfl rfl
 refine cSq<|cRs<|xEq rfl<|xAs rfl<|oNl<|cIf h rfl (fun q17 h=> ?_) (fun q17 h=> ?_)
 refine cSk<|cT rfl<|cRs<|oJn h [(6,6),(68,73)] [] (fun v6_18=>(.n,[(6,Bo v6_18)],[])) (fun _ h=> ?_) (fun v6_18 h=> ?_)
 refine xMv rfl<|xMv rfl<|oIf 69 h rfl (fun q19 h=> ?_) (fun q19 h=> ?_)
 refine xFd rfl<|xLd rfl<|xC0 h (big_impl_inRange ·) rfl (fun c72_20 h=> ?_)
 exact xPk rfl<|xAs rfl<|oNl<|eJ h rfl
 exact wSk rfl<|wSk rfl<|wSk rfl<|xPk rfl<|xAs rfl<|oNl<|eJ h rfl
 refine cRt ?_
 cases h
 exact eR rfl rfl rfl rfl
 refine cRg<|xEq rfl<|xAs rfl<|oNl<|cIf h rfl (fun q21 h=> ?_) (fun q21 h=> ?_)
 refine cRs<|oJn h [(6,6),(68,73)] [] (fun v6_22=>(.n,[(6,Bo v6_22)],[])) (fun _ h=> ?_) (fun v6_22 h=> ?_)
 refine xMv rfl<|xMv rfl<|oIf 69 h rfl (fun q23 h=> ?_) (fun q23 h=> ?_)
 refine xFd rfl<|xLd rfl<|xC0 h (big_impl_inRange ·) rfl (fun c72_24 h=> ?_)
 exact xPk rfl<|xAs rfl<|oNl<|eJ h rfl
 exact wSk rfl<|wSk rfl<|wSk rfl<|xPk rfl<|xAs rfl<|oNl<|eJ h rfl
 refine cRt ?_
 cases h
 exact eR rfl rfl rfl rfl
 refine cRs<|xEq rfl<|xAs rfl<|oNl<|cIf h rfl (fun q25 h=> ?_) (fun q25 h=> ?_)
 refine cRs<|oJn h [(6,6),(76,81)] [] (fun v6_26=>(.n,[(6,Bo v6_26)],[])) (fun _ h=> ?_) (fun v6_26 h=> ?_)
 refine xMv rfl<|xMv rfl<|oIf 77 h rfl (fun q27 h=> ?_) (fun q27 h=> ?_)
 refine xFd rfl<|xLd rfl<|xC0 h (big_impl_inRange ·) rfl (fun c80_28 h=> ?_)
 exact xPk rfl<|xAs rfl<|oNl<|eJ h rfl
 exact wSk rfl<|wSk rfl<|wSk rfl<|xPk rfl<|xAs rfl<|oNl<|eJ h rfl
 refine cRt ?_
 cases h
 exact eR rfl rfl rfl rfl
 refine cRs<|xEq rfl<|xAs rfl<|oNl<|cIf h rfl (fun q29 h=> ?_) (fun q29 h=> ?_)
 refine cRs<|oJn h [(6,6),(84,96)] [] (fun v6_30=>(.n,[(6,Bo v6_30)],[])) (fun _ h=> ?_) (fun v6_30 h=> ?_)
 refine xFd rfl<|xLd rfl<|xEq rfl<|xMv rfl<|oIf 87 h rfl (fun q31 h=> ?_) (fun q31 h=> ?_)
 refine xFd rfl<|xLd rfl<|xC0 h (big_impl_isOp ·) rfl (fun c90_32 h=> ?_)
 refine xPk rfl<|xMv rfl<|oIf 92 h rfl (fun q33 h=> ?_) (fun q33 h=> ?_)
 exact xFd rfl<|xLd rfl<|xEq rfl<|xPk rfl<|xAs rfl<|oNl<|eJ h rfl
 exact wSk rfl<|wSk rfl<|wSk rfl<|xPk rfl<|xAs rfl<|oNl<|eJ h rfl
 exact wSk rfl<|wSk rfl<|wSk rfl<|xPk rfl<|xMv rfl<|wSk rfl<|wSk rfl<|wSk rfl<|xPk rfl<|xAs rfl<|oNl<|eJ h rfl
 refine cRt ?_
 cases h
 exact eR rfl rfl rfl rfl
 refine cRs<|xEq rfl<|xAs rfl<|oNl<|cIf h rfl (fun q34 h=> ?_) (fun q34 h=> ?_)
 refine cRs<|xMv rfl<|xFd rfl<|xLd rfl<|xC1 h (big_impl_fnAt ·) rfl (fun c102_35 h=> ?_)
 refine xAs rfl<|oRs<|oJn h [(6,6),(103,122)] [] (fun v6_36=>(.n,[(6,Bo v6_36)],[])) (fun _ h=> ?_) (fun v6_36 h=> ?_)
 refine xMv rfl<|xGe rfl<|xMv rfl<|oIf 105 h rfl (fun q37 h=> ?_) (fun q37 h=> ?_)
 refine xMv rfl<|xNc rfl<|xFd rfl<|xLd rfl<|xMv rfl<|xIx h rS_impl_Fn_eq rfl (fun e111_38 h=> ?_)
 refine xFd rfl<|xLd rfl<|xFd rfl<|xLd rfl<|xEq rfl<|xPk rfl<|xMv rfl<|oIf 118 h rfl (fun q39 h=> ?_) (fun q39 h=> ?_)
 exact xFd rfl<|xLd rfl<|xEq rfl<|xPk rfl<|xAs rfl<|oNl<|eJ h rfl
 exact wSk rfl<|wSk rfl<|wSk rfl<|xPk rfl<|xAs rfl<|oNl<|eJ h rfl
 refine wSk rfl<|wSk rfl<|wSk rfl<|wSk rfl<|wSk rfl<|wSk rfl<|wSk rfl<|wSk rfl<|wSk rfl<|wSk rfl<|wSk rfl<|xPk rfl<|xMv rfl<|wSk rfl ?_
 exact wSk rfl<|wSk rfl<|xPk rfl<|xAs rfl<|oNl<|eJ h rfl
 refine cRt ?_
 cases h
 exact eR rfl rfl rfl rfl
 refine cRs<|xEq rfl<|xAs rfl<|oNl<|cIf h rfl (fun q40 h=> ?_) (fun q40 h=> ?_)
 refine cRs<|oJn h [(6,6),(125,156)] [] (fun v6_41=>(.n,[(6,Bo v6_41)],[])) (fun _ h=> ?_) (fun v6_41 h=> ?_)
 refine xFd rfl<|xLd rfl<|xEs rfl<|xMv rfl<|oIf 128 h rfl (fun q42 h=> ?_) (fun q42 h=> ?_)
 refine xMv rfl<|xPk rfl<|xMv rfl<|oIf 131 h rfl (fun q43 h=> ?_) (fun q43 h=> ?_)
 refine xFd rfl<|xLd rfl<|xMv rfl<|xNc rfl<|xFd rfl<|xLd rfl<|xLn rfl<|xSub rfl<|xC0 h (big_impl_inRange ·) rfl (fun c140_44 h=> ?_)
 refine xPk rfl<|xMv rfl<|oIf 142 h rfl (fun q45 h=> ?_) (fun q45 h=> ?_)
 refine xMv rfl<|xNc rfl<|xFd rfl<|xLd rfl<|xFd rfl<|xLd rfl<|xIx h rS_impl_Pat_eq rfl (fun e149_46 h=> ?_)
 refine xLd rfl<|xMv rfl<|xNc rfl<|xFd rfl<|xLd rfl<|xC0 h (big_impl_PatFits ·) rfl (fun c155_47 h=> ?_)
 exact xPk rfl<|xAs rfl<|oNl<|eJ h rfl
 refine wSk rfl<|wSk rfl<|wSk rfl<|wSk rfl<|wSk rfl<|wSk rfl<|wSk rfl<|wSk rfl<|wSk rfl<|wSk rfl<|wSk rfl<|wSk rfl<|wSk rfl<|xPk rfl ?_
 exact xAs rfl<|oNl<|eJ h rfl
 refine wSk rfl<|wSk rfl<|wSk rfl<|wSk rfl<|wSk rfl<|wSk rfl<|wSk rfl<|wSk rfl<|wSk rfl<|xPk rfl<|xMv rfl<|wSk rfl<|wSk rfl<|wSk rfl ?_
 exact wSk rfl<|wSk rfl<|wSk rfl<|wSk rfl<|wSk rfl<|wSk rfl<|wSk rfl<|wSk rfl<|wSk rfl<|wSk rfl<|xPk rfl<|xAs rfl<|oNl<|eJ h rfl
 refine wSk rfl<|xPk rfl<|xMv rfl<|wSk rfl<|wSk rfl<|wSk rfl<|wSk rfl<|wSk rfl<|wSk rfl<|wSk rfl<|wSk rfl<|wSk rfl<|xPk rfl<|xMv rfl ?_
 refine wSk rfl<|wSk rfl<|wSk rfl<|wSk rfl<|wSk rfl<|wSk rfl<|wSk rfl<|wSk rfl<|wSk rfl<|wSk rfl<|wSk rfl<|wSk rfl<|wSk rfl<|xPk rfl ?_
 exact xAs rfl<|oNl<|eJ h rfl
 refine cRt ?_
 cases h
 exact eR rfl rfl rfl rfl
 refine cRs<|xEq rfl<|xAs rfl<|oNl<|cIf h rfl (fun q48 h=> ?_) (fun q48 h=> ?_)
 refine cRs<|oJn h [(6,6),(159,169)] [] (fun v6_49=>(.n,[(6,Bo v6_49)],[])) (fun _ h=> ?_) (fun v6_49 h=> ?_)
 refine xFd rfl<|xLd rfl<|xEs rfl<|xMv rfl<|oIf 162 h rfl (fun q50 h=> ?_) (fun q50 h=> ?_)
 refine xFd rfl<|xLd rfl<|xEq rfl<|xPk rfl<|xMv rfl<|oIf 167 h rfl (fun q51 h=> ?_) (fun q51 h=> ?_)
 exact xMv rfl<|xPk rfl<|xAs rfl<|oNl<|eJ h rfl
 exact wSk rfl<|xPk rfl<|xAs rfl<|oNl<|eJ h rfl
 exact wSk rfl<|wSk rfl<|wSk rfl<|xPk rfl<|xMv rfl<|wSk rfl<|xPk rfl<|xAs rfl<|oNl<|eJ h rfl
 refine cRt ?_
 cases h
 exact eR rfl rfl rfl rfl
 refine cSq<|cRs<|xEq rfl<|xAs rfl<|oNl<|cIf h rfl (fun q52 h=> ?_) (fun q52 h=> ?_)
 refine cSk<|cT rfl<|cRs<|oJn h [(6,6),(173,178)] [] (fun v6_53=>(.n,[(6,Bo v6_53)],[])) (fun _ h=> ?_) (fun v6_53 h=> ?_)
 refine xMv rfl<|xMv rfl<|oIf 174 h rfl (fun q54 h=> ?_) (fun q54 h=> ?_)
 exact xFd rfl<|xLd rfl<|xEq rfl<|xPk rfl<|xAs rfl<|oNl<|eJ h rfl
 exact wSk rfl<|wSk rfl<|wSk rfl<|xPk rfl<|xAs rfl<|oNl<|eJ h rfl
 refine cRt ?_
 cases h
 exact eR rfl rfl rfl rfl
 refine cRg<|xEq rfl<|xAs rfl<|oNl<|cIf h rfl (fun q55 h=> ?_) (fun q55 h=> ?_)
 refine cRs<|oJn h [(6,6),(173,178)] [] (fun v6_56=>(.n,[(6,Bo v6_56)],[])) (fun _ h=> ?_) (fun v6_56 h=> ?_)
 refine xMv rfl<|xMv rfl<|oIf 174 h rfl (fun q57 h=> ?_) (fun q57 h=> ?_)
 exact xFd rfl<|xLd rfl<|xEq rfl<|xPk rfl<|xAs rfl<|oNl<|eJ h rfl
 exact wSk rfl<|wSk rfl<|wSk rfl<|xPk rfl<|xAs rfl<|oNl<|eJ h rfl
 refine cRt ?_
 cases h
 exact eR rfl rfl rfl rfl
 refine cSk<|cRs<|xAs rfl<|oNl<|cRt ?_
 cases h
 exact eR rfl rfl rfl rfl
abbrev B_impl_climber_comes(p:Int→Int→(List Int)→Bool→Option ((List Int)×Bool)):Prop:= ∀ {t1_0 t2_0:Int} {o0_0:List Int} {o0_1:Bool} {r:(List Int)×Bool},p t1_0 t2_0 o0_0 o0_1=some r→Big Try.prog τ An (.fn 272 [.one (.ptr 1000000 0), .one (.c (.int .i64 t1_0)), .one (.c (.int .i64 t2_0))] [[.sl (o0_0.map rI_i64), .bool o0_1]] (.tup []) none [[.sl (r.1.map rI_i64), .bool r.2]] none)
def p_impl_climber_comes(n:Nat)(t1_0:Int)(t2_0:Int)(o0_0:List Int)(o0_1:Bool):Option ((List Int)×Bool):=
  (bif decide ((o0_0.length:Int)≤t1_0)then some true else some (decide ((300:Int)<t2_0))).bind fun v6_1=>bif v6_1 then some (o0_0,true)else(ix o0_0 t1_0).bind fun e27_4=>bif decide (e27_4<(0:Int))then(ix o0_0 t1_0).bind fun e36_6=>(some (o0_0.set (Int.toNat t1_0) t2_0)).bind fun u1000000_7=>some (u1000000_7,o0_1)else(ix o0_0 t1_0).bind fun e43_8=>bif !decide (e43_8=t2_0)then some (o0_0,true)else some (o0_0,o0_1)
theorem big_impl_climber_comes{n:Nat}:B_impl_climber_comes (p_impl_climber_comes n):=by
 intro t1_0 t2_0 o0_0 o0_1 r h
 unfold p_impl_climber_comes at h
 refine bF Try.func272 rfl rfl<|cBk<|cRs<|oJn h [(6,17)] [] (fun v6_1=>(.n,[(6,Bo v6_1)],[])) (fun _ h=> ?_) (fun v6_1 h=> ?_)
 refine xMv rfl<|xMv rfl<|xNc rfl<|xFd rfl<|xLd rfl<|xLn rfl<|xGe rfl<|xMv rfl<|oIf 14 h rfl (fun q2 h=> ?_) (fun q2 h=> ?_)
 exact wSk rfl<|wSk rfl<|xPk rfl<|xAs rfl<|oNl<|eJ h rfl
 exact xMv rfl<|xGt rfl<|xPk rfl<|xAs rfl<|oNl<|eJ h rfl
 refine cIf h rfl (fun q3 h=> ?_) (fun q3 h=> ?_)
 refine cRg<|xMv rfl<|xNc rfl<|xFd rfl<|xSt rfl<|oNl ?_
 cases h
 exact eN rfl rfl rfl rfl
 refine cRs<|xMv rfl<|xNc rfl<|xFd rfl<|xLd rfl<|xMv rfl<|xIx h rI_i64_eq rfl (fun e27_4 h=> ?_)
 refine xLd rfl<|xLt rfl<|xAs rfl<|oNl<|cIf h rfl (fun q5 h=> ?_) (fun q5 h=> ?_)
 refine cRg<|xMv rfl<|xNc rfl<|xFd rfl<|wLa rfl rfl rfl rfl rfl rfl rfl<|xMv rfl<|xMv rfl<|wIp (f:=rI_i64) h rfl rfl rfl rfl rfl rfl (fun _=>rfl) rfl (fun e36_6 ke36_6 h=> ?_)
 refine wSpN (f:=rI_i64) (v':=t2_0) h ke36_6 rfl rfl rfl rfl rfl rfl rfl rfl rfl (fun u1000000_7 h=> ?_)
 refine oNl ?_
 cases h
 exact eN rfl rfl rfl rfl
 refine cRs<|xMv rfl<|xNc rfl<|xFd rfl<|xLd rfl<|xMv rfl<|xIx h rI_i64_eq rfl (fun e43_8 h=> ?_)
 refine xLd rfl<|xMv rfl<|xNe rfl<|xAs rfl<|oNl<|cIf h rfl (fun q9 h=> ?_) (fun q9 h=> ?_)
 refine cRg<|xMv rfl<|xNc rfl<|xFd rfl<|xSt rfl<|oNl ?_
 cases h
 exact eN rfl rfl rfl rfl
 refine cSk ?_
 cases h
 exact eN rfl rfl rfl rfl
abbrev B_impl_takesOf(p:Int→Int→(List UInt8)→Int→Option (Int)):Prop:= ∀ {t0_0 t0_1:Int} {t0_2:List UInt8} {t0_3:Int} {r:Int},p t0_0 t0_1 t0_2 t0_3=some r→Big Try.prog τ An (.fn 301 [.one (.ag [.int .i64 t0_0, .int .i64 t0_1, .str t0_2, .int .i64 t0_3])] [] (.one (.c (.int .i64 r))) none [] none)
def p_impl_takesOf(n:Nat)(t0_0:Int)(t0_1:Int)(t0_2:List UInt8)(t0_3:Int):Option (Int):=
  bif decide (t0_0=(4:Int))then some t0_1 else bif decide (t0_0=(5:Int))then some t0_1 else bif decide (t0_0=(6:Int))then some t0_1 else bif decide (t0_0=(8:Int))then some t0_1 else bif decide (t0_0=(7:Int))then some (2:Int)else bif decide (t0_0=(9:Int))then some (1:Int)else bif decide (t0_0=(12:Int))then some (1:Int)else some (0:Int)
theorem big_impl_takesOf{n:Nat}:B_impl_takesOf (p_impl_takesOf n):=by
 intro t0_0 t0_1 t0_2 t0_3 r h
 unfold p_impl_takesOf at h
 refine bF Try.func301 rfl rfl<|cRs<|xBx rfl<|xAs rfl<|oNl<|cSq<|cRs<|xFd rfl<|xLd rfl<|oNl<|cBk<|cSq<|cRs<|xEq rfl ?_
 refine xAs rfl<|oNl<|cIf h rfl (fun q1 h=> ?_) (fun q1 h=> ?_)
 refine cSk<|cT rfl<|cRs<|xFd rfl<|xLd rfl<|xAs rfl<|oNl<|cRt ?_
 cases h
 exact eR rfl rfl rfl rfl
 refine cRs<|xEq rfl<|xAs rfl<|oNl<|cIf h rfl (fun q2 h=> ?_) (fun q2 h=> ?_)
 refine cSk<|cT rfl<|cRs<|xFd rfl<|xLd rfl<|xAs rfl<|oNl<|cRt ?_
 cases h
 exact eR rfl rfl rfl rfl
 refine cRs<|xEq rfl<|xAs rfl<|oNl<|cIf h rfl (fun q3 h=> ?_) (fun q3 h=> ?_)
 refine cSk<|cT rfl<|cRs<|xFd rfl<|xLd rfl<|xAs rfl<|oNl<|cRt ?_
 cases h
 exact eR rfl rfl rfl rfl
 refine cRg<|xEq rfl<|xAs rfl<|oNl<|cIf h rfl (fun q4 h=> ?_) (fun q4 h=> ?_)
 refine cRs<|xFd rfl<|xLd rfl<|xAs rfl<|oNl<|cRt ?_
 cases h
 exact eR rfl rfl rfl rfl
 refine cRs<|xEq rfl<|xAs rfl<|oNl<|cIf h rfl (fun q5 h=> ?_) (fun q5 h=> ?_)
 refine cRs<|xAs rfl<|oNl<|cRt ?_
 cases h
 exact eR rfl rfl rfl rfl
 refine cSq<|cRs<|xEq rfl<|xAs rfl<|oNl<|cIf h rfl (fun q6 h=> ?_) (fun q6 h=> ?_)
 refine cSk<|cT rfl<|cRs<|xAs rfl<|oNl<|cRt ?_
 cases h
 exact eR rfl rfl rfl rfl
 refine cRg<|xEq rfl<|xAs rfl<|oNl<|cIf h rfl (fun q7 h=> ?_) (fun q7 h=> ?_)
 refine cRs<|xAs rfl<|oNl<|cRt ?_
 cases h
 exact eR rfl rfl rfl rfl
 refine cSk<|cRs<|xAs rfl<|oNl<|cRt ?_
 cases h
 exact eR rfl rfl rfl rfl
abbrev B_impl_climber_leaves(p:Int→Int→Int→(List UInt8)→Int→(List Int)→Bool→Option ((List Int)×Bool)):Prop:= ∀ {t1_0 t2_0 t2_1:Int} {t2_2:List UInt8} {t2_3:Int} {o0_0:List Int} {o0_1:Bool} {r:(List Int)×Bool},p t1_0 t2_0 t2_1 t2_2 t2_3 o0_0 o0_1=some r→Big Try.prog τ An (.fn 273 [.one (.ptr 1000000 0), .one (.c (.int .i64 t1_0)), .one (.ag [.int .i64 t2_0, .int .i64 t2_1, .str t2_2, .int .i64 t2_3])] [[.sl (o0_0.map rI_i64), .bool o0_1]] (.tup []) none [[.sl (r.1.map rI_i64), .bool r.2]] none)
end Go.Own
