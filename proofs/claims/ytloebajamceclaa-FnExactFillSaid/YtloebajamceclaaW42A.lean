/- What is told of the functions: shapes and kinds. No conditions. -/
import Derived.Test.YtloebajamceclaaProg
import Derived.KernelRfl
import Derived.WalkKit
import Derived.Lib.Walk
import Derived.Lib.SliceRun
import Derived.Lib.AppendZerosOnto
import Derived.Shelf.RegionOpenPlain
import Derived.Test.YtloebajamceclaaOwn4
set_option linter.unusedVariables false
set_option linter.unusedSimpArgs false
set_option linter.unnecessarySimpa false
namespace Go.Own
open Go Go.Proofs
def τ:TypeId→Option TI
  | 3=>some { size:=1,bytes:=8,zero:=[.int .i64 0],agg:=false,kind:= .int .i64 }
  | 4=>some { size:=1,bytes:=1,zero:=[.bool false],agg:=false,kind:= .bool }
  | 5=>some { size:=1,bytes:=1,zero:=[.int .u8 0],agg:=false,kind:= .int .u8 }
  | 9=>some { size:=1,bytes:=16,zero:=[.str []],agg:=false,kind:= .str }
  | 22=>some { size:=1,bytes:=24,zero:=[.sl []],agg:=false,kind:= .sl 25 }
  | 23=>some { size:=1,bytes:=24,zero:=[.sl []],agg:=false,kind:= .sl 124 }
  | 25=>some { size:=5,bytes:=80,zero:=[.int .i64 0, .int .i64 0, .str [], .sl [], .sl []],agg:=true,kind:= .struct [(0,1,false),(1,1,false),(2,1,false),(3,1,false),(4,1,false)] }
  | 26=>some { size:=1,bytes:=24,zero:=[.sl []],agg:=false,kind:= .sl 79 }
  | 29=>some { size:=1,bytes:=24,zero:=[.sl []],agg:=false,kind:= .sl 31 }
  | 31=>some { size:=4,bytes:=56,zero:=[.int .i64 0, .int .i64 0, .str [], .sl []],agg:=true,kind:= .struct [(0,1,false),(1,1,false),(2,1,false),(3,1,false)] }
  | 34=>some { size:=1,bytes:=24,zero:=[.sl []],agg:=false,kind:= .sl 37 }
  | 35=>some { size:=1,bytes:=24,zero:=[.sl []],agg:=false,kind:= .sl 132 }
  | 37=>some { size:=5,bytes:=80,zero:=[.int .i64 0, .int .i64 0, .str [], .sl [], .sl []],agg:=true,kind:= .struct [(0,1,false),(1,1,false),(2,1,false),(3,1,false),(4,1,false)] }
  | 47=>some { size:=1,bytes:=24,zero:=[.sl []],agg:=false,kind:= .sl 5 }
  | 51=>some { size:=1,bytes:=24,zero:=[.sl []],agg:=false,kind:= .sl 107 }
  | 54=>some { size:=1,bytes:=24,zero:=[.sl []],agg:=false,kind:= .sl 105 }
  | 79=>some { size:=4,bytes:=56,zero:=[.int .i64 0, .int .i64 0, .str [], .sl []],agg:=true,kind:= .struct [(0,1,false),(1,1,false),(2,1,false),(3,1,false)] }
  | 105=>some { size:=5,bytes:=72,zero:=[.str [], .int .i64 0, .int .i64 0, .str [], .sl []],agg:=true,kind:= .struct [(0,1,false),(1,4,true)] }
  | 107=>some { size:=5,bytes:=72,zero:=[.str [], .int .i64 0, .int .i64 0, .str [], .sl []],agg:=true,kind:= .struct [(0,1,false),(1,4,true)] }
  | 115=>some { size:=1,bytes:=24,zero:=[.sl []],agg:=false,kind:= .sl 9 }
  | 124=>some { size:=10,bytes:=160,zero:=[.int .i64 0, .int .i64 0, .str [], .sl [], .sl [], .int .i64 0, .int .i64 0, .str [], .sl [], .sl []],agg:=true,kind:= .struct [(0,5,true),(5,5,true)] }
  | 132=>some { size:=10,bytes:=160,zero:=[.int .i64 0, .int .i64 0, .str [], .sl [], .sl [], .int .i64 0, .int .i64 0, .str [], .sl [], .sl []],agg:=true,kind:= .struct [(0,5,true),(5,5,true)] }
  | 147=>some { size:=2,bytes:=32,zero:=[.int .i64 0, .sl []],agg:=true,kind:= .struct [(0,1,false),(1,1,false)] }
  | 184=>some { size:=1,bytes:=24,zero:=[.sl []],agg:=false,kind:= .sl 29 }
  | _=>none
set_option maxRecDepth 100000 in
theorem IN:aX Try.prog τ:=by
  intro t i h; unfold τ at h; split at h<;>(try cases h)
  · exact⟨_,_,_,rfl,rfl,rfl,rfl,rfl,rfl,rfl,by decide,rfl,rfl,nofun⟩
  · exact⟨_,_,_,rfl,rfl,rfl,rfl,rfl,rfl,rfl,by decide,rfl,rfl,nofun⟩
  · exact⟨_,_,_,rfl,rfl,rfl,rfl,rfl,rfl,rfl,by decide,rfl,rfl,nofun⟩
  · exact⟨_,_,_,rfl,rfl,rfl,rfl,rfl,rfl,rfl,by decide,rfl,rfl,nofun⟩
  · exact⟨_,_,_,rfl,rfl,rfl,rfl,rfl,rfl,rfl,by decide,rfl,rfl,nofun⟩
  · exact⟨_,_,_,rfl,rfl,rfl,rfl,rfl,rfl,rfl,by decide,rfl,rfl,nofun⟩
  · refine⟨_,_,_,rfl,rfl,rfl,rfl,rfl,rfl,rfl,by decide,rfl,⟨_,rfl,rfl,fun j f hf=> ?_⟩,nofun⟩
    match j with
    | 0=>simp at hf; subst hf; exact⟨_,_,rfl,rfl,rfl,rfl,by decide,rfl,rfl⟩
    | 1=>simp at hf; subst hf; exact⟨_,_,rfl,rfl,rfl,rfl,by decide,rfl,rfl⟩
    | 2=>simp at hf; subst hf; exact⟨_,_,rfl,rfl,rfl,rfl,by decide,rfl,rfl⟩
    | 3=>simp at hf; subst hf; exact⟨_,_,rfl,rfl,rfl,rfl,by decide,rfl,rfl⟩
    | 4=>simp at hf; subst hf; exact⟨_,_,rfl,rfl,rfl,rfl,by decide,rfl,rfl⟩
    | j+5=>simp at hf
  · exact⟨_,_,_,rfl,rfl,rfl,rfl,rfl,rfl,rfl,by decide,rfl,rfl,nofun⟩
  · exact⟨_,_,_,rfl,rfl,rfl,rfl,rfl,rfl,rfl,by decide,rfl,rfl,nofun⟩
  · refine⟨_,_,_,rfl,rfl,rfl,rfl,rfl,rfl,rfl,by decide,rfl,⟨_,rfl,rfl,fun j f hf=> ?_⟩,nofun⟩
    match j with
    | 0=>simp at hf; subst hf; exact⟨_,_,rfl,rfl,rfl,rfl,by decide,rfl,rfl⟩
    | 1=>simp at hf; subst hf; exact⟨_,_,rfl,rfl,rfl,rfl,by decide,rfl,rfl⟩
    | 2=>simp at hf; subst hf; exact⟨_,_,rfl,rfl,rfl,rfl,by decide,rfl,rfl⟩
    | 3=>simp at hf; subst hf; exact⟨_,_,rfl,rfl,rfl,rfl,by decide,rfl,rfl⟩
    | j+4=>simp at hf
  · exact⟨_,_,_,rfl,rfl,rfl,rfl,rfl,rfl,rfl,by decide,rfl,rfl,nofun⟩
  · exact⟨_,_,_,rfl,rfl,rfl,rfl,rfl,rfl,rfl,by decide,rfl,rfl,nofun⟩
  · refine⟨_,_,_,rfl,rfl,rfl,rfl,rfl,rfl,rfl,by decide,rfl,⟨_,rfl,rfl,fun j f hf=> ?_⟩,nofun⟩
    match j with
    | 0=>simp at hf; subst hf; exact⟨_,_,rfl,rfl,rfl,rfl,by decide,rfl,rfl⟩
    | 1=>simp at hf; subst hf; exact⟨_,_,rfl,rfl,rfl,rfl,by decide,rfl,rfl⟩
    | 2=>simp at hf; subst hf; exact⟨_,_,rfl,rfl,rfl,rfl,by decide,rfl,rfl⟩
    | 3=>simp at hf; subst hf; exact⟨_,_,rfl,rfl,rfl,rfl,by decide,rfl,rfl⟩
    | 4=>simp at hf; subst hf; exact⟨_,_,rfl,rfl,rfl,rfl,by decide,rfl,rfl⟩
    | j+5=>simp at hf
  · exact⟨_,_,_,rfl,rfl,rfl,rfl,rfl,rfl,rfl,by decide,rfl,rfl,nofun⟩
  · exact⟨_,_,_,rfl,rfl,rfl,rfl,rfl,rfl,rfl,by decide,rfl,rfl,nofun⟩
  · exact⟨_,_,_,rfl,rfl,rfl,rfl,rfl,rfl,rfl,by decide,rfl,rfl,nofun⟩
  · refine⟨_,_,_,rfl,rfl,rfl,rfl,rfl,rfl,rfl,by decide,rfl,⟨_,rfl,rfl,fun j f hf=> ?_⟩,nofun⟩
    match j with
    | 0=>simp at hf; subst hf; exact⟨_,_,rfl,rfl,rfl,rfl,by decide,rfl,rfl⟩
    | 1=>simp at hf; subst hf; exact⟨_,_,rfl,rfl,rfl,rfl,by decide,rfl,rfl⟩
    | 2=>simp at hf; subst hf; exact⟨_,_,rfl,rfl,rfl,rfl,by decide,rfl,rfl⟩
    | 3=>simp at hf; subst hf; exact⟨_,_,rfl,rfl,rfl,rfl,by decide,rfl,rfl⟩
    | j+4=>simp at hf
  · refine⟨_,_,_,rfl,rfl,rfl,rfl,rfl,rfl,rfl,by decide,rfl,⟨_,rfl,rfl,fun j f hf=> ?_⟩,nofun⟩
    match j with
    | 0=>simp at hf; subst hf; exact⟨_,_,rfl,rfl,rfl,rfl,by decide,rfl,rfl⟩
    | 1=>simp at hf; subst hf; exact⟨_,_,rfl,rfl,rfl,rfl,by decide,rfl,rfl⟩
    | j+2=>simp at hf
  · refine⟨_,_,_,rfl,rfl,rfl,rfl,rfl,rfl,rfl,by decide,rfl,⟨_,rfl,rfl,fun j f hf=> ?_⟩,nofun⟩
    match j with
    | 0=>simp at hf; subst hf; exact⟨_,_,rfl,rfl,rfl,rfl,by decide,rfl,rfl⟩
    | 1=>simp at hf; subst hf; exact⟨_,_,rfl,rfl,rfl,rfl,by decide,rfl,rfl⟩
    | j+2=>simp at hf
  · exact⟨_,_,_,rfl,rfl,rfl,rfl,rfl,rfl,rfl,by decide,rfl,rfl,nofun⟩
  · refine⟨_,_,_,rfl,rfl,rfl,rfl,rfl,rfl,rfl,by decide,rfl,⟨_,rfl,rfl,fun j f hf=> ?_⟩,nofun⟩
    match j with
    | 0=>simp at hf; subst hf; exact⟨_,_,rfl,rfl,rfl,rfl,by decide,rfl,rfl⟩
    | 1=>simp at hf; subst hf; exact⟨_,_,rfl,rfl,rfl,rfl,by decide,rfl,rfl⟩
    | j+2=>simp at hf
  · refine⟨_,_,_,rfl,rfl,rfl,rfl,rfl,rfl,rfl,by decide,rfl,⟨_,rfl,rfl,fun j f hf=> ?_⟩,nofun⟩
    match j with
    | 0=>simp at hf; subst hf; exact⟨_,_,rfl,rfl,rfl,rfl,by decide,rfl,rfl⟩
    | 1=>simp at hf; subst hf; exact⟨_,_,rfl,rfl,rfl,rfl,by decide,rfl,rfl⟩
    | j+2=>simp at hf
  · refine⟨_,_,_,rfl,rfl,rfl,rfl,rfl,rfl,rfl,by decide,rfl,⟨_,rfl,rfl,fun j f hf=> ?_⟩,nofun⟩
    match j with
    | 0=>simp at hf; subst hf; exact⟨_,_,rfl,rfl,rfl,rfl,by decide,rfl,rfl⟩
    | 1=>simp at hf; subst hf; exact⟨_,_,rfl,rfl,rfl,rfl,by decide,rfl,rfl⟩
    | j+2=>simp at hf
  · exact⟨_,_,_,rfl,rfl,rfl,rfl,rfl,rfl,rfl,by decide,rfl,rfl,nofun⟩
end Go.Own
namespace Go.Proofs
open Go.RowKit Go.Lib
set_option linter.unusedVariables false
set_option linter.unusedSimpArgs false
set_option maxHeartbeats 4000000 in
set_option maxRecDepth 100000 in
theorem Rm(base:Option Addr)(w:World):Calls Try.prog 158 #[.slice base 0 0, .int .i64 0] w fun e w'=>e= .returned (.slice base 0 0)∧w'=w:=by
  have h2:wrap64 ((0:Int) - (0:Int))=0:=by unfold wrap64; omega
  go_enter Try.func158,Try.ntmps158
  go_wp2
  all_goals (go_ret; exact⟨rfl,rfl⟩)
set_option maxHeartbeats 4000000 in
set_option maxRecDepth 100000 in
theorem Rn(base:Option Addr)(n:Nat)(w:World)(i0:TypeInfo)(z:Value)(hi0:Try.prog.info? 31=some i0)(hz0:i0.zero=some z)(hs0:0<i0.size)(hu:Try.prog.underlying 29=some (.slice 31))(hu3:Try.prog.underlying 3=some (.int .i64))(hn:0<n)(hbig:n*i0.bytes≤140737488355328)(h63:n≤4611686018427387904):
    Calls Try.prog 158 #[.slice base 0 0, .int .i64 n] w fun e w'=>
      e= .returned (.slice (some ⟨w.heap.size,0,none⟩) 0 (grownCap w n 0 31))∧
      w'=w.drew.alloc (.cells (#[]++Builtin.zeroCells z.cells n++Builtin.zeroCells z.cells (grownCap w n 0 31 - n)) 31):=by
  have h1: ¬ ((n:Int)<0):=by omega
  have h2:wrap64 ((0:Int) - (0:Int))=0:=by unfold wrap64; omega
  have h3:wrap64 ((n:Int) - 0)=(n:Int):=by unfold wrap64; omega
  have h4:(n:Int) > 0:=by omega
  have hold:(Builtin.firstCells i0.size 0 (.slice base 0 0)).run Try.prog w.drew= .ok #[] w.drew:=by
    cases base with
    | none=>exact run_firstCells_none w.drew i0.size 0 0 0
    | some a=>exact run_firstCells_some w.drew i0.size 0 a 0 0 [] (by simp) (fun j v hj=>by simp at hj)
  have hrz: ∀ty,(Builtin.append_ #[29,3] ty #[.slice base 0 0, .int .i64 (n:Int)]).run Try.prog w=
      .ok (.slice (some ⟨w.heap.size,0,none⟩) n (grownCap w n 0 31)) (w.drew.alloc (.cells (#[]++Builtin.zeroCells z.cells n++Builtin.zeroCells z.cells (grownCap w n 0 31 - n)) 31)):=fun ty=>by
    have h:=Lib.run_append_grow_zeros w 29 3 ty 31 i0 z .i64 .i64 hu hu3 hi0 hz0 base 0 0 [] hold n hn hs0 (by omega) (by omega) (by omega) (by
      rw[Nat.zero_add]; exact @growslice_fits n 0 i0.bytes (by omega) hbig)
    rw[Nat.zero_add]at h; exact h
  have hGn:n≤grownCap w n 0 31:=grownCap_ge w _ _ _; obtain⟨G,hG⟩: ∃G,G=grownCap w n 0 31:=⟨_,rfl⟩; rw[←hG]at hrz hGn ⊢; have hG63:G≤9223372036854775807:=by
    have:=grownCap_le_maxLen w n 0 31 (by unfold maxLen; omega)
    rw[←hG]at this; unfold maxLen at this; omega
  clear hold hG; go_enter Try.func158,Try.ntmps158
  cases base with
  | none=>
    go_wp2_with (at_builtin; refine Lib.wpList_append_run _ rfl _ _ _ _ rfl _ _ rfl rfl _ _ (hrz _) ?_)
    all_goals (go_ret; exact⟨rfl,rfl⟩)
  | some a=>
    obtain⟨ab,ao,asp⟩:=a
    go_wp2_with (at_builtin; refine Lib.wpList_append_run _ rfl _ _ _ _ rfl _ _ rfl rfl _ _ (hrz _) ?_)
    all_goals (go_ret; exact⟨rfl,rfl⟩)
end Go.Proofs
namespace Go.Own
open Go Go.Proofs
set_option maxRecDepth 100000 in
theorem UG{τ:TypeId→Option TI}(hT:aX Try.prog τ){e3:TI}{ei es:TI}(h3:τ 3=some e3)(k3:e3.kind= .int .i64)(hS:τ 29=some es)(kS:es.kind= .sl 31)(hE:τ 31=some ei){s:Nat}(hs:ei.size=s){n:Int}{ext:Bool}(h0:0≤n)(hb:n*ei.bytes≤140737488355328)(h63:n≤4611686018427387904){κ:K}(hκ:κ= .A s∨κ= .U s:=by first | exact .inl rfl | exact .inr rfl):
    TC Try.prog 158 (Qg ([[[.N]],[[.S]]],[[κ]],ext)) [.one (.c (.sl [])), .one (.c (.int .i64 n))] [] (.one (.c (.sl []))) none [] none:=by
  obtain⟨info,de,z0,q1,q2,q3,q4,q5,q6,q7,q8,q9⟩:=hT.get hE; obtain⟨dS,hdS,rfl⟩:=lI hT (show tk τ 29=some (.sl 31)by unfold tk; rw[hS]; exact congrArg some kS)
  obtain⟨d3,hd3,rfl⟩:=lI hT (show tk τ 3=some (.int .i64)by unfold tk; rw[h3]; exact congrArg some k3)
  obtain⟨ze,_⟩:=jE q6; refine Wp Try.func158 rfl (by decide) (fun base w=> ?_) hκ
  by_cases hz:n=0
  · subst hz
    exact(Rm base w).mono fun e w' h=> .inl h
  · obtain⟨k,rfl⟩: ∃k:Nat,n=k:=⟨n.toNat,by omega⟩
    refine(Rn base k w info z0 q1 q5 (by rw[q3]; exact q8) hdS hd3 (by omega) (by rw[q4]; exact Int.ofNat_le.1 (by rw[Int.natCast_mul]; exact hb)) (by omega)).mono ?_
    rintro e w' ⟨rfl,rfl⟩
    have hG:=grownCap_ge w k 0 31; refine .inr ⟨_,_,_,rfl,grownCap_le_maxLen w k 0 31 (by simp only[maxLen]; omega), ?_,rfl⟩
    have hzs:z0.cells.size=s:=by
      simp only[z45]at ze; omega
    simp only[Array.size_append,size_zeroCells,hzs,z87,z77,z30]; rw[←z82]; congr 1
    omega
end Go.Own
namespace Go.Own
open Go Go.Proofs
abbrev vi:V:= .one (.c (.int .i64 0))
abbrev vy:V:= .one (.c (.int .u8 0))
abbrev vb:V:= .one (.c (.bool false))
abbrev vl:V:= .one (.c (.sl []))
abbrev vs:V:= .one (.c (.str []))
abbrev vj:V:= .one .junk
abbrev tl0:List T:=[.int .i64 0, .int .i64 0, .str [], .sl []]
abbrev tl1:List T:=[.int .i64 0, .int .i64 0, .str [], .sl [], .sl []]
abbrev tl2:List T:=[.int .i64 0, .int .i64 0, .str [], .sl [], .sl [], .int .i64 0, .int .i64 0, .str [], .sl [], .sl []]
abbrev tl3:List T:=[.str [], .int .i64 0, .int .i64 0, .str [], .sl []]
abbrev x0:B:=⟨[(0,[[.S]])],[]⟩
abbrev x1:B:=⟨[(0,[[.F]]),(1,[[.S]])],[]⟩
abbrev x2:B:=⟨[(0,[[.S, .S, .S, .U 4],[.S]])],[]⟩
abbrev x3:B:=⟨[(0,[[.S, .S, .S, .F, .F]]),(1,[[.F]])],[]⟩
abbrev x4:B:=⟨[(0,[[.S, .S, .S, .F]])],[]⟩
abbrev x5:B:=⟨[(0,[[.S, .S, .S, .F, .F]])],[]⟩
abbrev x6:B:=⟨[(0,[[.U 0]]),(1,[[.S]])],[]⟩
abbrev x7:B:=⟨[(0,[[.S]]),(1,[[.U 0]])],[]⟩
abbrev x8:B:=⟨[(0,[[.F]]),(1,[[.F]])],[]⟩
abbrev x9:B:=⟨[(0,[[.S, .S, .S, .F]]),(1,[[.S]])],[]⟩
abbrev x10:B:=⟨[(0,[[.F]])],[]⟩
abbrev x11:B:=⟨[(0,[[.U 4]])],[]⟩
abbrev x12:B:=⟨[(0,[[.S, .S, .S, .U 4]])],[]⟩
abbrev x13:B:=⟨[(0,[[.S, .S, .S, .F, .F]]),(1,[[.S]])],[]⟩
abbrev x14:B:=⟨[(0,[[.S]]),(1,[[.S]]),(2,[[.S]])],[]⟩
abbrev y0:V:= .one (.ag tl0)
abbrev y1:V:= .one (.pp (.s 0 0 0) [] 0 0)
abbrev y2:V:= .one (.ag tl1)
abbrev y3:V:= .one (.al (.s 0 0 0) [])
abbrev y4:V:= .tup [.ag tl0, .c (.bool false)]
abbrev y5:V:= .one (.ptr 2 0)
abbrev y6:V:= .one (.ptr 1000000 0)
abbrev y7:V:= .one (.ptr 1 0)
abbrev y8:V:= .one (.ptr 3 0)
abbrev y9:V:= .one (.ptr 1 3)
abbrev y10:V:= .one (.ptr 2 2)
abbrev y11:V:= .one (.al (.s 0 0 0) [(0,0)])
abbrev y12:V:= .one (.pp (.s 0 0 0) [] 0 1)
abbrev y13:V:= .one (.ptr 1 2)
abbrev y14:V:= .one (.ptr 4 0)
abbrev y15:V:= .one (.ptr 1 1)
abbrev y16:V:= .one (.cp tl0)
abbrev y17:V:= .one (.pp (.s 0 0 0) [] 0 5)
abbrev y18:V:= .one (.cp tl1)
abbrev y19:V:= .one (.ptr 2 3)
abbrev y20:V:= .one (.ag tl3)
abbrev y21:V:= .one (.ag tl2)
abbrev y22:V:= .one (.ptr 3 3)
abbrev y23:V:= .one (.ptr 2 1)
abbrev y24:V:= .one (.pp (.s 3 0 0) [] 0 0)
abbrev y25:V:= .one (.pp (.s 0 0 0) [] 0 3)
abbrev y26:V:= .one (.pp (.s 0 0 0) [] 0 2)
abbrev y27:V:= .one (.cp [.str []])
abbrev y28:V:= .one (.cp tl3)
abbrev y29:V:= .one (.cp tl2)
abbrev y30:V:= .one (.al (.s 3 0 0) [])
abbrev y31:V:= .one (.ptr 3 1)
abbrev y32:V:= .one (.pp (.s 0 0 0) [] 0 4)
abbrev y33:V:= .one (.ptr 8 0)
abbrev y34:V:= .one (.ptr 6 0)
abbrev y35:V:= .one (.ptr 4 4)
abbrev y36:V:= .one (.ptr 4 3)
abbrev y37:V:= .one (.ptr 6 3)
abbrev y38:V:= .one (.ptr 4 2)
abbrev y39:V:= .one (.ptr 3 2)
abbrev y40:V:= .one (.ptr 2 4)
abbrev y41:V:= .one (.ptr 1000000 1)
abbrev y42:V:= .one (.ptr 7 0)
def F5:FA:= { n:=119,sh:=[y2,vl,y5,vj,vb,vi,y34,vb,y33,vl, .one (.ptr 10 0),vb,vi,vi,vi, .one (.ptr 15 0),vb,y2,vi,vi,vi,vb,vl,vi,vi,vi,vb,y4,y2,y2,vl,vl,y4,y0,vb,y2,y2,vl,vl,y4,y2,vl,y4,y0,vb,y0,y0,vb,vb,vb,vb,vb,vb,vb,y2,y2,y2,vb,vb,vl,vl,vl,vb,vb,y2,vi,vi, .one (.al (.s 9 0 0) []),vi,vi,vi,vb,vb,y0,y0,vb,vb,vb,vb,vb,vb,vb,vb,y0,vi,vi,y0,vi,vi,vi,vb,vi,vi,vb,y4,y2,y2,vl,vl,y4,y0,vb,y0,y0,vb,vb,vb,vb,vb,vb,vb,y0,vi,vi,vi,vb,vi,vi,vb],obs:=[(2,tl1),(6,tl0),(8,tl1),(10,tl0),(15,tl0)],al:=[67],tk:=[18,23,25,27,39,49,64,65,68,70,72,78,79,84,87,91,94,95,97,102,103,106,107,108,111,112,116,117],keep:=[(0,[1,2]),(1,[1,2,5]),(2,[1,2,5]),(3,[1,2,5,21]),(4,[4]),(5,[1,2,5]),(6,[1,2,26]),(7,[4]),(8,[1,2,6,7]),(9,[1,2,6,7,8]),(10,[1,2,6,7,8,9]),(11,[1,2,6,7,8,9,10,11]),(12,[1,2,6,7,8,9,10,11,53]),(13,[4]),(14,[1,2,6,7,8,9,10,11,58]),(15,[4]),(16,[1,2,6,7,8,9,10,11,63]),(17,[4]),(18,[1,2,6,7,8,9,10,11,12]),(19,[1,2,6,7,9,10,11,12]),(20,[1,2,6,7,10,11,12]),(21,[1,2,6,7,10,82]),(22,[4]),(23,[1,2,6,7,10,13]),(24,[1,2,6,7,10,13]),(25,[1,2,6,7,10,13,14]),(26,[1,2,6,7,10,13,14]),(27,[1,2,6,7,10,13,14,90]),(28,[4]),(29,[1,2,6,7,10,13,93]),(30,[4]),(31,[6,7,10,13,15,16]),(32,[10,13,110]),(33,[4]),(34,[10,13,14]),(35,[13,14]),(36,[13,14,115]),(37,[4]),(38,[118]),(39,[4]),(40,[4])],ioa:=[67],mks:=[(19,[(3,53),(4,54)]),(24,[(3,17)])] }
def F7:FA:= { n:=25,sh:=[y2,vi,y5,vj,vi,vi,y10,vs,vi,vi,vi,vb,y19,vl,vi,vi,vi,vb,y40,vl,vi,vi,vi,vb,vi],obs:=[(2,tl1)],tk:=[5,7,13,14,19,20,24],keep:=[(0,[1,2]),(1,[1,2]),(2,[1,2,11]),(3,[4]),(4,[1,2]),(5,[1,2,17]),(6,[4]),(7,[1]),(8,[1,23]),(9,[4]),(10,[4])] }
def F8:FA:= { n:=27,sh:=[vl,vi,vj,vj,vi,vi,vi,vl,vi,vi,vi,vb,vi,vl,vi,vb,vi,vi,vl,vi,y16,y0,vi,vi,vi,vb,vi],obs:=[],tk:=[6,16,22,26],keep:=[(0,[0,1]),(1,[0,1]),(2,[0,1,11]),(3,[4]),(4,[0,1,5]),(5,[0,1,5,15]),(6,[0,1,5]),(7,[0,1,5]),(8,[0,1,5,25]),(9,[4]),(10,[4])] }
def F10:FA:= { n:=22,sh:=[y2,y7,y5,y8,y7,vi,y8,y15,vi,y31,y13,vs,y39,y9,vl,vl,y22, .one (.ptr 1 4),vl,vl, .one (.ptr 3 4),y2],obs:=[(1,tl1),(2,tl1),(3,tl1)],tk:=[5,8,11,14,18,21],keep:=[(0,[1,2]),(1,[1,2,3]),(2,[1,2,3]),(3,[1,2,3]),(4,[1,2,3]),(5,[1,2,3]),(6,[2,3]),(7,[2])] }
def F11:FA:= { n:=23,sh:=[vl,vj,vl,vl,vi,vl,vi,vl,vi,vl,vi,vb,vi,vi,y30,vi,vl,vi,y16,y0,y0,y24,vl],obs:=[],al:=[14],tk:=[12,22],keep:=[(0,[0]),(1,[0,3]),(2,[0,3,4]),(3,[0,3,4,11]),(4,[0,3,4]),(5,[0,3,4]),(6,[2])] }
def F13:FA:= { n:=26,sh:=[y0,y0,y5,y8,vb,y5,vi,y8,vi,vb,y23,vi,y31,vi,vb,y10,vs,y39,vs,vb,y19,vl,y22,vl,vb,vb],obs:=[(2,tl0),(3,tl0)],tk:=[6,8,11,13,16,18,21,23],keep:=[(0,[2,3]),(1,[2,3,9]),(2,[4]),(3,[2,3,14]),(4,[4]),(5,[2,3,19]),(6,[4]),(7,[25]),(8,[4]),(9,[4])] }
def F14:FA:= { n:=27,sh:=[vl,vl,vj,vj,vb,vi,vl,vi,vl,vi,vb,vi,vl,vi,vb,vi,vi,vl,vi,y16,y0,vl,vi,y16,y0,vb,vb],obs:=[],tk:=[15],keep:=[(0,[0,1]),(1,[0,1,10]),(2,[4]),(3,[0,1,5]),(4,[0,1,5,14]),(5,[0,1,5]),(6,[0,1,5,26]),(7,[4]),(8,[4])] }
def F15:FA:= { n:=32,sh:=[y2,y2,y5,y8,vb,y5,vi,y8,vi,vb,y23,vi,y31,vi,vb,y10,vs,y39,vs,vb,y19,vl,y22,vl,vb,vb,y40,vl, .one (.ptr 3 4),vl,vb,vb],obs:=[(2,tl1),(3,tl1)],tk:=[6,8,11,13,16,18,21,23,27,29],keep:=[(0,[2,3]),(1,[2,3,9]),(2,[4]),(3,[2,3,14]),(4,[4]),(5,[2,3,19]),(6,[4]),(7,[2,3,25]),(8,[4]),(9,[31]),(10,[4]),(11,[4])] }
def F17:FA:= { n:=42,sh:=[vl,vi,vj,vj,vi,vi,vi,vl,vi,vb,vi,vi,y3,vi,vi,y1,y1,vi,vi,y3,vi,vi,y1,y12,vi,vi,y3,vi,vi,vs,y1,y26,vi,vi,y3,vi,y1,y25,y11,vi,vi,vi],obs:=[],al:=[12,19,26,34,38],tk:=[10,17,24,32,39,41],keep:=[(0,[0,1]),(1,[0,1,5]),(2,[0,1,5,9]),(3,[0,1,5]),(4,[0,1,5]),(5,[0,1,5]),(6,[0,1,5]),(7,[0,1,5]),(8,[0,1,5]),(9,[0,1,5]),(10,[0,1,5]),(11,[0,4])],io:=some 0,ioa:=[38] }
def F19:FA:= { n:=12,sh:=[y0,vi,y5,vj,vi,y19,vl,vi,vi,vi,vb,vi],obs:=[(2,tl0)],tk:=[6,7,11],keep:=[(0,[1,2]),(1,[1]),(2,[1,10]),(3,[4]),(4,[4])] }
def F20:FA:= { n:=50,sh:=[vl,vi,vj,vj,vi,vi,vi,vl,vi,vb,vi,vi,vl,vi,y16, .one (.cp [.int .i64 0]),vi,vi,vb,vi,vi,vl,vi,y16, .one (.cp [.int .i64 0]),vi,vi,vb,vi,vi,vl,vi,y16,y27,vs,vi,vs,vb,vi,vi,vl,vi,y16, .one (.cp [.sl []]),vl,vi,vi,vi,vb,vi],obs:=[],tk:=[10,19,28,38,45,49],keep:=[(0,[0,1]),(1,[0,1,5]),(2,[0,1,5,9]),(3,[0,1,5]),(4,[0,1,5,18]),(5,[4]),(6,[0,1,5]),(7,[0,1,5,27]),(8,[4]),(9,[0,1,5]),(10,[0,1,5,37]),(11,[4]),(12,[0,1,5]),(13,[0,1,5]),(14,[0,1,5,48]),(15,[4]),(16,[4])] }
def F26:FA:= { n:=27,sh:=[vl,vi,vj,vj,vi,vi,vi,vl,vi,vi,vi,vb,vi,vl,vi,vb,vi,vi,vl,vi,y28,y20,vi,vi,vi,vb,vi],obs:=[],tk:=[6,16,22,26],keep:=[(0,[0,1]),(1,[0,1]),(2,[0,1,11]),(3,[4]),(4,[0,1,5]),(5,[0,1,5,15]),(6,[0,1,5]),(7,[0,1,5]),(8,[0,1,5,25]),(9,[4]),(10,[4])] }
def F27:FA:= { n:=27,sh:=[y2,vl,y5,vj,y14,vb,y34,vb,y2,vb,vb,y0,y4,y2,vl,y4,y0,vb,vb,vb,vb,y0,vb,vb,vb,y0,y0],obs:=[(2,tl1),(4,tl0),(6,tl0)],tk:=[12,13,14,18,20,26],keep:=[(0,[1,2,4]),(1,[1,2,4,10]),(2,[4,5]),(3,[4,6,7]),(4,[4,6,24]),(5,[4,5]),(6,[4,5])] }
def F28:FA:= { n:=23,sh:=[vl,vj,vl,vl,vi,vl,vi,vl,vi,vl,vi,vb,vi,vi,y30,vi,vl,vi,y28,y20,y20,y24,vl],obs:=[],al:=[14],tk:=[12,22],keep:=[(0,[0]),(1,[0,3]),(2,[0,3,4]),(3,[0,3,4,11]),(4,[0,3,4]),(5,[0,3,4]),(6,[2])] }
def F29:FA:= { n:=27,sh:=[y2,vl,y5,vj,y14,vb,y34,vb,y2,vb,vb,y0,y4,y2,vl,y4,y0,vb,vb,vb,vb,y0,vb,vb,vb,y0,y0],obs:=[(2,tl1),(4,tl0),(6,tl0)],tk:=[12,13,14,18,20,26],keep:=[(0,[1,2,4]),(1,[1,2,4,10]),(2,[4,5]),(3,[4,6,7]),(4,[4,6,24]),(5,[4,5]),(6,[4,5])] }
def F30:FA:= { n:=27,sh:=[vl,vl,vj,vj,vb,vi,vl,vi,vl,vi,vb,vi,vl,vi,vb,vi,vi,vl,vi,y28,y20,vl,vi,y28,y20,vb,vb],obs:=[],tk:=[15],keep:=[(0,[0,1]),(1,[0,1,10]),(2,[4]),(3,[0,1,5]),(4,[0,1,5,14]),(5,[0,1,5]),(6,[0,1,5,26]),(7,[4]),(8,[4])] }
def F31:FA:= { n:=54,sh:=[vl,vi,vj,vj,vi,vi,vi,vl,vi,vb,vi,vi,y3,vi,vi,vs,y1,y1,vi,vi,y3,vi,vi,y1,y12,y12,vi,vi,y3,vi,vi,y1,y12,y26,vi,vi,y3,vi,vi,vs,y1,y12,y25,vi,vi,y3,vi,y1,y12,y32,y11,vi,vi,vi],obs:=[],al:=[12,20,28,36,45,50],tk:=[10,18,26,34,43,51,53],keep:=[(0,[0,1]),(1,[0,1,5]),(2,[0,1,5,9]),(3,[0,1,5]),(4,[0,1,5]),(5,[0,1,5]),(6,[0,1,5]),(7,[0,1,5]),(8,[0,1,5]),(9,[0,1,5]),(10,[0,1,5]),(11,[0,1,5]),(12,[0,1,5]),(13,[0,4])],io:=some 0,ioa:=[50] }
def F39:FA:= { n:=27,sh:=[vl,vi,vj,vj,vi,vi,vi,vl,vi,vi,vi,vb,vi,vl,vi,vb,vi,vi,vl,vi,y18,y2,vi,vi,vi,vb,vi],obs:=[],tk:=[6,16,22,26],keep:=[(0,[0,1]),(1,[0,1]),(2,[0,1,11]),(3,[4]),(4,[0,1,5]),(5,[0,1,5,15]),(6,[0,1,5]),(7,[0,1,5]),(8,[0,1,5,25]),(9,[4]),(10,[4])] }
def F40:FA:= { n:=27,sh:=[vl,vi,vj,vj,vi,vi,vi,vl,vi,vi,vi,vb,vi,vl,vi,vb,vi,vi,vl,vi,y29,y21,vi,vi,vi,vb,vi],obs:=[],tk:=[6,16,22,26],keep:=[(0,[0,1]),(1,[0,1]),(2,[0,1,11]),(3,[4]),(4,[0,1,5]),(5,[0,1,5,15]),(6,[0,1,5]),(7,[0,1,5]),(8,[0,1,5,25]),(9,[4]),(10,[4])] }
def F41:FA:= { n:=19,sh:=[y0,vi,y5,vj,vi,vi,y10,vs,vi,vi,vi,vb,y19,vl,vi,vi,vi,vb,vi],obs:=[(2,tl0)],tk:=[5,7,13,14,18],keep:=[(0,[1,2]),(1,[1,2]),(2,[1,2,11]),(3,[4]),(4,[1]),(5,[1,17]),(6,[4]),(7,[4])] }
def F43:FA:= { n:=11,sh:=[y2,y7,vb,y2,vi,vb,vb,y2,vl,vb,vb],obs:=[(1,tl1)],tk:=[6,7],keep:=[(0,[1]),(1,[2])] }
def F44:FA:= { n:=6,sh:=[y0,y7,vb,y0,vi,vb],obs:=[(1,tl0)],tk:=[3],keep:=[(0,[1]),(1,[2])] }
def F46:FA:= { n:=23,sh:=[vl,vj,vl,vl,vi,vl,vi,vl,vi,vl,vi,vb,vi,vi,y30,vi,vl,vi,y18,y2,y2,y24,vl],obs:=[],al:=[14],tk:=[12,22],keep:=[(0,[0]),(1,[0,3]),(2,[0,3,4]),(3,[0,3,4,11]),(4,[0,3,4]),(5,[0,3,4]),(6,[2])] }
def F47:FA:= { n:=23,sh:=[vl,vj,vl,vl,vi,vl,vi,vl,vi,vl,vi,vb,vi,vi,y30,vi,vl,vi,y29,y21,y21,y24,vl],obs:=[],al:=[14],tk:=[12,22],keep:=[(0,[0]),(1,[0,3]),(2,[0,3,4]),(3,[0,3,4,11]),(4,[0,3,4]),(5,[0,3,4]),(6,[2])] }
def F48:FA:= { n:=18,sh:=[y0,y7,y5,y8,y7,vi,y8,y15,vi,y31,y13,vs,y39,y9,vl,vl,y22,y0],obs:=[(1,tl0),(2,tl0),(3,tl0)],tk:=[5,8,11,14,17],keep:=[(0,[1,2]),(1,[1,2,3]),(2,[1,2,3]),(3,[1,2,3]),(4,[1,2,3]),(5,[2,3]),(6,[2])] }
def F49:FA:= { n:=19,sh:=[vl,vj,vl,vl,vj, .one (.ptr 5 0),vl,vi,vi,vb,y16,y0,vl,y0,y0,vl,vl,vi,vl],obs:=[(5,tl0)],tk:=[6,8,12,13,18],dp:=[15,16],keep:=[(0,[0]),(1,[0,3]),(2,[3,6,7,8]),(3,[3,6,7,8,9]),(4,[3,5,6,7,8]),(5,[3,6,7,8]),(6,[3,6,7,8]),(7,[2])] }
def F51:FA:= { n:=27,sh:=[vl,vl,vj,vj,vb,vi,vl,vi,vl,vi,vb,vi,vl,vi,vb,vi,vi,vl,vi,y18,y2,vl,vi,y18,y2,vb,vb],obs:=[],tk:=[15],keep:=[(0,[0,1]),(1,[0,1,10]),(2,[4]),(3,[0,1,5]),(4,[0,1,5,14]),(5,[0,1,5]),(6,[0,1,5,26]),(7,[4]),(8,[4])] }
def F52:FA:= { n:=27,sh:=[vl,vl,vj,vj,vb,vi,vl,vi,vl,vi,vb,vi,vl,vi,vb,vi,vi,vl,vi,y29,y21,vl,vi,y29,y21,vb,vb],obs:=[],tk:=[15],keep:=[(0,[0,1]),(1,[0,1,10]),(2,[4]),(3,[0,1,5]),(4,[0,1,5,14]),(5,[0,1,5]),(6,[0,1,5,26]),(7,[4]),(8,[4])] }
def F53:FA:= { n:=49,sh:=[vl,vi,vj,vj,vi,vi,vi,vl,vi,vb,vi,vi,y3,vi,vi,y1,y1,vi,vi,y3,vi,vi,y1,y12,vi,vi,y3,vi,vi,vs,y1,y26,vi,vi,y3,vi,y1,y25,y11,vi,vi,y3,vi,y1,y32,y11,vi,vi,vi],obs:=[],al:=[12,19,26,34,38,41,45],tk:=[10,17,24,32,39,46,48],keep:=[(0,[0,1]),(1,[0,1,5]),(2,[0,1,5,9]),(3,[0,1,5]),(4,[0,1,5]),(5,[0,1,5]),(6,[0,1,5]),(7,[0,1,5]),(8,[0,1,5]),(9,[0,1,5]),(10,[0,1,5]),(11,[0,1,5]),(12,[0,4])],io:=some 0,ioa:=[38,45] }
def F54:FA:= { n:=95,sh:=[vl,vi,vj,vj,vi,vi,vi,vl,vi,vb,vi,vi,y3,vi,vi,y1,y1,y1,vi,vi,y3,vi,vi,y1,y1,y12,vi,vi,y3,vi,vi,vs,y1,y1,y26,vi,vi,y3,vi,y1,y1,y25,y11,vi,vi,y3,vi,y1,y1,y32,y11,vi,vi,y3,vi,vi,y1,y17,y17,vi,vi,y3,vi,vi,y1,y17, .one (.pp (.s 0 0 0) [] 0 6),vi,vi,y3,vi,vi,vs,y1,y17, .one (.pp (.s 0 0 0) [] 0 7),vi,vi,y3,vi,y1,y17, .one (.pp (.s 0 0 0) [] 0 8),y11,vi,vi,y3,vi,y1,y17, .one (.pp (.s 0 0 0) [] 0 9),y11,vi,vi,vi],obs:=[],al:=[12,20,28,37,42,45,50,53,61,69,78,83,86,91],tk:=[10,18,26,35,43,51,59,67,76,84,92,94],keep:=[(0,[0,1]),(1,[0,1,5]),(2,[0,1,5,9]),(3,[0,1,5]),(4,[0,1,5]),(5,[0,1,5]),(6,[0,1,5]),(7,[0,1,5]),(8,[0,1,5]),(9,[0,1,5]),(10,[0,1,5]),(11,[0,1,5]),(12,[0,1,5]),(13,[0,1,5]),(14,[0,1,5]),(15,[0,1,5]),(16,[0,1,5]),(17,[0,1,5]),(18,[0,1,5]),(19,[0,1,5]),(20,[0,4])],io:=some 0,ioa:=[42,50,83,91] }
def F55:FA:= { n:=20,sh:=[vi,vj,vs,vs,vi,vb,vi,vb,vi,vi,vi,vy,vl,vs,vs,vs,vi,vi,vs,vs],obs:=[],tk:=[14,16,18],dp:=[12],keep:=[(0,[0]),(1,[0,5]),(2,[2]),(3,[0,3]),(4,[0,3,7]),(5,[0,3]),(6,[0,3]),(7,[2])] }
def F62:FA:= { n:=6,sh:=[y2,y7,vb,y8,y2,vb],obs:=[(1,tl1),(3,[.int .i64 0, .sl []])],tk:=[4],keep:=[(0,[1]),(1,[1,3]),(2,[2])] }
def F63:FA:= { n:=6,sh:=[y0,y7,vb,y0,vi,vb],obs:=[(1,tl0)],tk:=[3],keep:=[(0,[1]),(1,[2])] }
def F65:FA:= { n:=19,sh:=[y20,vi,y5,vj,vi,vi,y5,vs,vi,vi,vi,vb,y23,y0,vi,vi,vi,vb,vi],obs:=[(2,tl3)],tk:=[5,7,13,14,18],keep:=[(0,[1,2]),(1,[1,2]),(2,[1,2,11]),(3,[4]),(4,[1]),(5,[1,17]),(6,[4]),(7,[4])] }
def F66:FA:= { n:=83,sh:=[y2,vl,y5,vj,y14,vb,y34,vi,y33,vb,y5,vi,vb,vb,y23,vi,y0,vb,vb,y10,vs,y0,vb,vb,vl,y10,vs,y4,y0,vb,y0,y5,vi,vb,y34,vi,y19,vl,vi,vb,vi,vi,y4,y19,vl,vi,y18,y2,vl,y4,y0,vb,vb,vb,y0,y5,vi,vb,vb,vi,y19,vl,vi,vi,vb,vb,y37,vl, .one (.ptr 8 3),vl,vl,y37,y0,y33,vi,vb,y37,vl,y0,vl,vl,y37,y0],obs:=[(2,tl1),(4,tl0),(6,tl0),(8,tl0)],tk:=[15,20,24,26,40,42,52,54,58,67,69,72,74,77,78,82],dp:=[70,79,80],keep:=[(0,[1,2,4]),(1,[1,2,4,11]),(2,[1,2,4,11,12]),(3,[4,5]),(4,[1,2,4,11,17]),(5,[4,5]),(6,[1,2,4,22]),(7,[4,5]),(8,[1,2,4,6]),(9,[1,2,4,6,33]),(10,[1,2,4,6]),(11,[1,2,4,6,7]),(12,[1,2,4,6,7,39]),(13,[1,2,4,6,7]),(14,[1,2,4,6,7,8,9]),(15,[1,2,4,6,7,8,53]),(16,[4,5]),(17,[1,2,4,6,7,8,65]),(18,[4,6,8]),(19,[4,5]),(20,[1,2,4,6,7]),(21,[4,5])] }
def F67:FA:= { n:=12,sh:=[y20,y7,y5,y8,y7,vs,y8,y15,y0,y0,y31,y20],obs:=[(1,tl3),(2,tl3),(3,tl3)],tk:=[5,8,11],keep:=[(0,[1,2]),(1,[1,2,3]),(2,[1,2,3]),(3,[2,3]),(4,[2])] }
def F68:FA:= { n:=66,sh:=[y2,vl,y5,vj,y14,vb,vl,vj,y33, .one (.ptr 9 0),vb,y5,vi,vb,vb,y23,vi,y0,vb,vb,y10,vs,y0,vb,vb,vl,y10,vs,y4,y0,vb,y19,vl,vi,vi,vb,y18,y2,y4,y2,vl,y4,y0,vb,vb,vb,y0,vl,y0,vl,vl,vi,y5,vi,vb,vb,vl,y0,vb,vb,vl,y0,vl,y4,y0,vb],obs:=[(2,tl1),(4,tl0),(8,tl1),(9,tl0)],tk:=[16,21,25,27,32,34,38,39,44,47,48,53,56,60,62],dp:=[49,50],keep:=[(0,[1,2,4]),(1,[1,2,4,12]),(2,[1,2,4,12,13]),(3,[4,5]),(4,[1,2,4,12,18]),(5,[4,5]),(6,[1,2,4,23]),(7,[4,5]),(8,[1,2,4,6]),(9,[1,2,4,6,32,33,34]),(10,[1,2,4,6,32,33,34,35]),(11,[1,2,4,6,8,32,33,34]),(12,[1,2,4,6,9,10,32,33,34]),(13,[1,2,4,6,9,32,33,34,45]),(14,[4,5]),(15,[1,2,4,6,32,33,34]),(16,[1,2,4,6,32,33,34]),(17,[4,6,53]),(18,[4,6,53,54]),(19,[4,5]),(20,[4,6,58]),(21,[4,5]),(22,[4,5])] }
def F69:FA:= { n:=16,sh:=[y20,y20,y5,y8,vb,y5,vs,y8,vs,vb,y23,y0,y31,y0,vb,vb],obs:=[(2,tl3),(3,tl3)],tk:=[6,8,11,13],keep:=[(0,[2,3]),(1,[2,3,9]),(2,[4]),(3,[15]),(4,[4]),(5,[4])] }
def F74:FA:= { n:=10,sh:=[vs,vj,vb,vs,vb,vb,vs,vb,vb,vb],obs:=[],tk:=[5,6],keep:=[(0,[0]),(1,[2])] }
def F79:FA:= { n:=17,sh:=[vs,vj,vb,vs,vb,vb,vs,vb,vb,vb,vs,vb,vb,vb,vs,vb,vb],obs:=[],tk:=[5,9,13,14],keep:=[(0,[0]),(1,[2])] }
def F85:FA:= { n:=18,sh:=[y21,vi,y5,vj,vi,y5,y2,vi,vi,vi,vb, .one (.ptr 2 5),y2,vi,vi,vi,vb,vi],obs:=[(2,tl2)],tk:=[6,7,12,13,17],keep:=[(0,[1,2]),(1,[1,2]),(2,[1,2,10]),(3,[4]),(4,[1]),(5,[1,16]),(6,[4]),(7,[4])] }
def F86:FA:= { n:=27,sh:=[y0,y7,y5,y8,vi,y0,vl,y22,vi,y9,vl,vi,vb,vi,vi,y22,vl,y9,vl,vi,y16,y0,y0,vl,vl,y22,y0],obs:=[(1,tl0),(2,tl0),(3,tl0)],tk:=[13,16,26],dp:=[6,23,24],keep:=[(0,[1,2]),(1,[1,2,3]),(2,[1,2,3]),(3,[1,2,3,4]),(4,[1,2,3,4,12]),(5,[1,2,3,4]),(6,[1,2,3,4]),(7,[2])] }
def F87:FA:= { n:=89,sh:=[y2,vb,vi,vi,y14,vj,vj,vj,vi,vi,vi,vi,vb,vb,vi,vb,vb,vb,y2,vb,vb,vb,vb,vi,vi,vi,y36,vl,vi,vb,vb,vi,vb,vb,vi,vi,y36,vl,vi,y18,y2,vb,vi,vi,vi,vi,vi,y35,vl,vi,vb,vb,vi,vb,vb,vi,vi,y35,vl,vi,y29,y18,y2,vl,vb,vb,y35,vl,vi,y29,y18,y2,vi,vi,vi,vi,vi,vb,y35,vl,vi,y29,y18,y2,vi,vi,vi,vi,vi],obs:=[(4,tl1)],tk:=[13,17,23,30,34,44,51,55,74,86,88],keep:=[(0,[1,2,3,4]),(1,[1,2,3,4,22]),(2,[8]),(3,[1,2,3,4]),(4,[1,2,3,4,9]),(5,[1,2,3,4,9,33]),(6,[1,2,3,4,9]),(7,[1,2,3,4,9]),(8,[2,3,4,10]),(9,[2,3,4,10,54]),(10,[2,3,4,10]),(11,[2,3,4,10,65]),(12,[8]),(13,[2,3,4,10]),(14,[2,3,4,10,77]),(15,[2,3,4,10]),(16,[8])] }
def F88:FA:= { n:=18,sh:=[vl,vj,vb,vi,vi,vl,vi,vb,vi,vi,vl,vi,vl,vl,vi,y27,vs,vb],obs:=[],tk:=[8],keep:=[(0,[0]),(1,[0,3]),(2,[0,3,7]),(3,[0,3]),(4,[0,3,17]),(5,[2]),(6,[2])] }
def F89:FA:= { n:=34,sh:=[y2,y7,vl,vl,vi,vl,y7,vi,vb,y13,vs,vb,vl,y13,vs,vl,vl,vl,vi,y9,vl,vi,vb,vi,vi,vl,y9,vl,vi,y18,y2,vl,vl,vl],obs:=[(1,tl1)],tk:=[7,12,14,17,23,25,33],dp:=[5,15,16,32],keep:=[(0,[1]),(1,[1,3]),(2,[1,3,8]),(3,[1,3,11]),(4,[3]),(5,[2]),(6,[1,3,4]),(7,[1,3,4,22]),(8,[1,3,4]),(9,[1,3,4]),(10,[2])] }
def F90:FA:= { n:=42,sh:=[y0,vi,vi,y8,vj,vj,vi,vi,vi,vb,vb,vi,vb,vb,vb,y0,vb,vb,vb,vi,vi,vi,y22,vl,vi,vb,vb,vi,vb,vb,vi,vi,y22,vl,vi,y16,y0,vi,vi,vi,vi,vi],obs:=[(3,tl0)],tk:=[10,14,19,26,30,39,41],keep:=[(0,[1,2,3]),(1,[1,2,3,18]),(2,[6]),(3,[1,2,3]),(4,[1,2,3,7]),(5,[1,2,3,7,29]),(6,[1,2,3,7]),(7,[1,2,3,7]),(8,[6])] }
def F92:FA:= { n:=13,sh:=[y21,y7,y5,y8,y7,y2,y2,y8, .one (.ptr 1 5),y2,y2, .one (.ptr 3 5),y21],obs:=[(1,tl2),(2,tl2),(3,tl2)],tk:=[5,9,12],keep:=[(0,[1,2]),(1,[1,2,3]),(2,[1,2,3]),(3,[2,3]),(4,[2])] }
def F93:FA:= { n:=8,sh:=[y0,y7,y5,y9,vl,vl,y9,y0],obs:=[(1,tl0),(2,tl0)],tk:=[4,7],keep:=[(0,[1,2]),(1,[1,2]),(2,[2])] }
def F94:FA:= { n:=17,sh:=[y21,y21,y5,y8,vb,y5,y2,y8,y2,vb,vb, .one (.ptr 2 5),y2, .one (.ptr 3 5),y2,vb,vb],obs:=[(2,tl2),(3,tl2)],tk:=[6,8,12,14],keep:=[(0,[2,3]),(1,[2,3,10]),(2,[4]),(3,[16]),(4,[4]),(5,[4])] }
def F102:FA:= { n:=89,sh:=[y6,y2,vi,vj,y14,vj,vb,vj,y33,y6,y6,y6,vi,vi,y6,y6,vi,vb,vb,y6,y6,y6,vi,vb,vb,vb,y14,vi,vb,vb,vb,y35,vl,vi,vb,vb,vb,y14,vi, .one (.ptr 4 1),vi,y38,vs,y36,vl,vi,vb,vb,vb,y14,vi,vb,vb,y38,vs,vb,vb,y6,y6,y41,vl,y38,vs,vb,y6,y6,y6,y41,vl,y38,vs,vl,vl,y6,y41,y36,vl,vi,vi,vb,y18,y2,y6,y2,vi,vi,vb,vb,vi],obs:=[(4,tl1),(8,tl1),(1000000,[.int .i64 0, .sl []])],tk:=[12,18,25,30,32,36,40,50,52,68,70,76,78,83],dp:=[71],keep:=[(0,[0,2,4]),(1,[0,2,4]),(2,[0,2,4,48]),(3,[6]),(4,[0,2,4,56]),(5,[0,2,4,63]),(6,[6]),(7,[0,2,4]),(8,[0,2,76,77,78]),(9,[0,2,76,77,78,79]),(10,[0,2,8,76,77,78]),(11,[0,2,76,77,78,87]),(12,[6]),(13,[0,2,76,77,78]),(14,[6])] }
def F103:FA:= { n:=32,sh:=[y0,vi,y5,vj,vi,vi,vj,y42,vi,vb,vb,y0,vb,vb,vb,y19,vl,vi,vi,vb,y16,y0,vi,y0,vi,vi,vi,vi,vi,vb,vi,vi],obs:=[(2,tl0),(7,tl0)],tk:=[10,16,18,22,23,31],keep:=[(0,[1,2]),(1,[1,2,14]),(2,[4]),(3,[1,2,5]),(4,[1,5,16,17,18]),(5,[1,5,16,17,18,19]),(6,[1,5,7,16,17,18]),(7,[1,5,16,17,18]),(8,[1,5,16,17,18,29]),(9,[4]),(10,[1,5,16,17,18]),(11,[4])] }
def F105:FA:= { n:=27,sh:=[vl,vs,vj,vj,y14,vb,vi,vi,vl,vi,vb,vi,vi,vl,vi,y28,y27,vs,vs,vb,vl,vi,y28,y16,y0,y0,y0],obs:=[(4,tl0)],tk:=[11,20,21],keep:=[(0,[0,1,4]),(1,[0,1,4,6]),(2,[0,1,4,6,10]),(3,[0,1,4,6]),(4,[0,1,4,6,19]),(5,[4,5]),(6,[4,5])] }
def F106:FA:= { n:=23,sh:=[vl,vs,vj,vj,y14,vb,vj,y42,vl,vi,vi,vb,y28,y20,y42,vs,vs,vb, .one (.ptr 7 1),y0,y0,vi,y0],obs:=[(4,tl0),(7,tl3)],tk:=[8,10,15,19],keep:=[(0,[0,1,4]),(1,[1,4,8,9,10]),(2,[1,4,8,9,10,11]),(3,[1,4,7,8,9,10]),(4,[1,4,7,8,9,10,17]),(5,[4,5]),(6,[1,4,8,9,10]),(7,[4,5])] }
def F107:FA:= { n:=25,sh:=[vl,vj,y5,vb,y14,y3,vl,vi,vi,y1,y0,y14,vi,vb,y0,vl,vl,vi,vi,vl,y36,vl,vl,vl,y0],obs:=[(2,tl0),(4,tl0)],al:=[5],tk:=[10,12,15,19,21],dp:=[22],keep:=[(0,[0,2]),(1,[0,2,4]),(2,[0,2,4,13]),(3,[2,3]),(4,[2,3])] }
def F112:FA:= { n:=18,sh:=[vl,vs,vj,vj,vb,vi,vi,vl,vi,vb,vi,vi,vl,vi,y27,vs,vs,vb],obs:=[],tk:=[10],keep:=[(0,[0,1]),(1,[0,1,5]),(2,[0,1,5,9]),(3,[0,1,5]),(4,[0,1,5,17]),(5,[4]),(6,[4])] }
def F114:FA:= { n:=36,sh:=[vs,vj,vb,vi,vi,vb,vi,vs,vi,vb,vi,vi,vs,vi,vy,vi,vi,vb,vb,vb,vb,vi,vb,vb,vi,vb,vb,vb,vi,vb,vb,vb,vb,vs,vi,vb],obs:=[],tk:=[10,18,20,23,27,28,33],keep:=[(0,[0]),(1,[0,3]),(2,[0,3,9]),(3,[0,3]),(4,[0,3,4]),(5,[0,3,4,5]),(6,[0,3,32]),(7,[2]),(8,[2])] }
def F115:FA:= { n:=13,sh:=[vs,vj,vb,vs,vb,vb,vs,vb,vb,vb,vs,vb,vb],obs:=[],tk:=[5,9,10],keep:=[(0,[0]),(1,[2])] }
def F120:FA:= { n:=35,sh:=[vs,vj,vb,vi,vi,vs,vi,vb,vi,vi,vs,vi,vy,vb,vb,vb,vi,vb,vb,vs,vi,vy,vb,vb,vb,vs,vi,vy,vb,vb,vb,vb,vs,vi,vb],obs:=[],tk:=[8,15,18,24,32],keep:=[(0,[0]),(1,[0,3]),(2,[0,3,7]),(3,[0,3]),(4,[0,3,31]),(5,[2]),(6,[2])] }
def F128:FA:= { n:=134,sh:=[y2,vb,y5,vj,vb,vi,y19,vl,vi,y5,vi,vb,vb,y40,vl,vi,vb,vb,vb,y5,vi,vb,vb,y23,vi,vb,vb,vb,y5,vi,vb,vb,y23,vi,vb,vb,y10,vs,vb,vb,vb,vi,vb,vb,vb,vb,y10,vs,vb,vb,vi,vb,vb,vb,vb,y10,vs,vb,vb,vi,vb,vb,vb,vb,vb,y10,vs,vb,vb,vb,vb,vb,vb,y10,vs,vb,vb,vi,vb,vb,vb,vb,y10,vs,vb,vb,vi,vb,vb,vb,vb,vb,vb,vb,y10,vs,vb,vb,vb,vi,vb,vb,vb,vb,vb,vb,vb,y10,vs,vb,vb,vb,vi,vb,vb,vb,vb,vb,vb,vb,y10,vs,vb,vb,vb,vi,vb,vb,vb,y40,vl,vi,vb,vb],obs:=[(2,tl1)],tk:=[7,12,18,22,29,33,35,37,40,41,47,49,50,58,59,62,63,64,66,74,76,77,83,85,86,91,93,95,98,99,104,106,108,111,112,117,119,121,124,125,128,130],keep:=[(0,[1,2]),(1,[1,2,5]),(2,[1,2,5,27]),(3,[4]),(4,[1,2,5,29]),(5,[1,2,5,29,30]),(6,[4]),(7,[1,2,5,29,44]),(8,[4]),(9,[1,2,5,29,53]),(10,[4]),(11,[1,2,5,29,70]),(12,[1,2,5,29,70]),(13,[4]),(14,[1,2,5,29,80]),(15,[4]),(16,[1,2,5,29,89]),(17,[4]),(18,[1,2,5,29,102]),(19,[4]),(20,[1,2,5,115]),(21,[4]),(22,[4])] }
def F129:FA:= { n:=85,sh:=[y0,y7,vb,y7,vi,vb,vb,y15,vi,vb,vb,y13,vs,vb,vb,vb,y9,vl,vi,vb,vb,vb,vb,y13,vs,vb,vb,y15,vi,vb,vb,vb,y9,vl,vi,vb,vb,vb,vb,y15,vi,vb,vb,y13,vs,vb,vb,vb,y9,vl,vi,vb,vb,vb,vb,y15,vi,vb,vb,y13,vs,vb,vb,vb,y9,vl,vi,vb,vb,vb,vb,y15,vi,vb,vb,y13,vs,vb,vb,vb,y9,vl,vi,vb,vb],obs:=[(1,tl0)],tk:=[4,8,10,12,15,17,24,26,28,31,33,40,42,44,47,49,56,58,60,63,65,72,74,76,79,81],keep:=[(0,[1]),(1,[1,4]),(2,[1,4,5]),(3,[2]),(4,[1,4,21]),(5,[2]),(6,[1,4,37]),(7,[2]),(8,[1,4,53]),(9,[2]),(10,[1,69]),(11,[2]),(12,[2])] }
def F135:FA:= { n:=107,sh:=[vi,vi,vs,vi,vj,vj,vj,vj,vb,vi,vb,vb,vi,vb,vb,vs,vb,vb,vb,vi,vb,vb,vb,vb,vi,vb,vb,vs,vb,vb,vb,vi,vb,vb,vb,vb,vi,vb,vb,vs,vb,vb,vb,vi,vb,vb,vb,vb,vb,vi,vb,vb,vs,vb,vb,vb,vi,vb,vb,vb,vb,vi,vb,vb,vs,vb,vb,vb,vi,vb,vb,vb,vb,vi,vb,vb,vs,vb,vb,vb,vi,vb,vb,vb,vb,vi,vb,vb,vs,vb,vb,vb,vi,vb,vb,vb,vb,vi,vb,vb,vs,vb,vb,vb,vi,vb,vb],obs:=[],tk:=[9,12,14,15,18,19,24,26,27,30,31,36,38,39,42,43,49,51,52,55,56,61,63,64,67,68,73,75,76,79,80,85,87,88,91,92,97,99,100,103,104],keep:=[(0,[0,1,2,3]),(1,[1,2,3,9]),(2,[1,2,3,9,10]),(3,[8]),(4,[1,2,3,9,22]),(5,[8]),(6,[1,2,3,9,34]),(7,[8]),(8,[1,2,3,9,46]),(9,[1,2,3,9,46]),(10,[8]),(11,[1,2,3,9,59]),(12,[8]),(13,[1,2,3,9,71]),(14,[8]),(15,[1,2,3,9,83]),(16,[8]),(17,[1,2,3,95]),(18,[8]),(19,[8])] }
def F136:FA:= { n:=9,sh:=[vl,vs,vj,vj,vb,vl,vs,vi,vb],obs:=[],tk:=[5,6],keep:=[(0,[0,1]),(1,[4])] }
def F137:FA:= { n:=85,sh:=[y0,y7,vb,y7,vi,vb,vb,y15,vi,vb,vb,y13,vs,vb,vb,vb,y9,vl,vi,vb,vb,vb,vb,y15,vi,vb,vb,y13,vs,vb,vb,vb,y9,vl,vi,vb,vb,vb,vb,y15,vi,vb,vb,y13,vs,vb,vb,vb,y9,vl,vi,vb,vb,vb,vb,y15,vi,vb,vb,y13,vs,vb,vb,vb,y9,vl,vi,vb,vb,vb,vb,y15,vi,vb,vb,y13,vs,vb,vb,vb,y9,vl,vi,vb,vb],obs:=[(1,tl0)],tk:=[4,8,10,12,15,17,24,26,28,31,33,40,42,44,47,49,56,58,60,63,65,72,74,76,79,81],keep:=[(0,[1]),(1,[1,4]),(2,[1,4,5]),(3,[2]),(4,[1,4,21]),(5,[2]),(6,[1,4,37]),(7,[2]),(8,[1,4,53]),(9,[2]),(10,[1,69]),(11,[2]),(12,[2])] }
def F138:FA:= { n:=36,sh:=[vl,vj,vl,vi,vj,vl,vl,vj,vl,vl,vi,vi,vb, .one (.cp [.sl []]),vl,vi,vl,vi,vi,vi,vb, .one (.ifc true),vi,vi,vl,y3,vi,vi,vb,y1,vl,vl,vl,vl,vi,vl],obs:=[],al:=[25],tk:=[11,15,16,23,27,30,31,32,35],dp:=[33],keep:=[(0,[0]),(1,[0,3]),(2,[0,3,9,10,11]),(3,[0,3,9,10,11,12]),(4,[0,3,5,9,10,11]),(5,[0,3,9,10,11]),(6,[0,3,9,10,11,20]),(7,[]),(8,[0,3,9,10,11]),(9,[0,6]),(10,[0,6,25,26,27]),(11,[0,6,25,26,27,28]),(12,[0,6,8,25,26,27]),(13,[0,6,25,26,27]),(14,[0,6,25,26,27]),(15,[2])] }
def F142:FA:= { n:=15,sh:=[vi,vi,vi,vj,vj,vj,vb,vi,vi,vb,vb,vi,vi,vb,vb],obs:=[],tk:=[8,10,11,12],keep:=[(0,[0,1,2]),(1,[6])] }
def F144:FA:= { n:=9,sh:=[vy,vj,vb,vy,vb,vb,vy,vb,vb],obs:=[],tk:=[5,6],keep:=[(0,[0]),(1,[2])] }
def F145:FA:= { n:=9,sh:=[vy,vj,vb,vy,vb,vb,vy,vb,vb],obs:=[],tk:=[5,6],keep:=[(0,[0]),(1,[2])] }
def F146:FA:= { n:=15,sh:=[vi,vi,vi,vj,vj,vj,vb,vi,vi,vb,vb,vi,vi,vb,vb],obs:=[],tk:=[8,10,11,12],keep:=[(0,[0,1,2]),(1,[6])] }
def F148:FA:= { n:=19,sh:=[vl,vs,vj,vj,vi,vi,vl,vi,vi,vb,vi,vs,vl,vi,y27,vs,vb,vi,vi],obs:=[],tk:=[8,17],keep:=[(0,[0,1]),(1,[0,1,7,8]),(2,[0,1,7,8,9]),(3,[0,1,5,7,8]),(4,[0,1,5,7,8,16]),(5,[4]),(6,[0,1,7,8]),(7,[4])] }
def F153:FA:= { n:=36,sh:=[vs,vj,vb,vi,vi,vs,vi,vb,vi,vi,vs,vi,vy,vb,vb,vb,vi,vb,vb,vs,vi,vy,vb,vb,vb,vs,vi,vy,vb,vb,vb,vb,vb,vs,vi,vb],obs:=[],tk:=[8,15,18,24,33],keep:=[(0,[0]),(1,[0,3]),(2,[0,3,7]),(3,[0,3]),(4,[0,3,32]),(5,[2]),(6,[2])] }
def F154:FA:= { n:=21,sh:=[vs,vj,vb,vs,vb,vb,vs,vb,vb,vb,vs,vb,vb,vb,vs,vb,vb,vb,vs,vb,vb],obs:=[],tk:=[5,9,13,17,18],keep:=[(0,[0]),(1,[2])] }
def F156:FA:= { n:=23,sh:=[vs,vj,vb,vi,vi,vs,vi,vb,vi,vi,vs,vi,vy,vb,vb,vs,vi,vb,vb,vs,vy,vb,vb],obs:=[],tk:=[8,18,19],keep:=[(0,[0]),(1,[0,3]),(2,[0,3,7]),(3,[0,3]),(4,[0,3,14]),(5,[2]),(6,[2])] }
def F157:FA:= { n:=10,sh:=[vs,vj,vb,vs,vb,vb,vb,vb,vb,vb],obs:=[],tk:=[3],keep:=[(0,[0]),(1,[3]),(2,[3,4]),(3,[3,4]),(4,[3,4]),(5,[3,4]),(6,[4]),(7,[2]),(8,[2])] }
def F158:FA:= { n:=0,sh:=[],obs:=[],lb:=some ([[[.N]],[[.S]]],[[.U 4]],true) }
def F163:FA:= { n:=10,sh:=[vy,vj,vb,vy,vi,vb,vb,vy,vb,vb],obs:=[],tk:=[6,7],keep:=[(0,[0]),(1,[2])] }
def F164:FA:= { n:=6,sh:=[vy,vj,vb,vy,vi,vb],obs:=[],tk:=[3],keep:=[(0,[0]),(1,[2])] }
def F165:FA:= { n:=6,sh:=[vy,vj,vb,vy,vi,vb],obs:=[],tk:=[3],keep:=[(0,[0]),(1,[2])] }
def F167:FA:= { n:=13,sh:=[vy,vj,vb,vy,vb,vb,vy,vb,vb,vb,vy,vb,vb],obs:=[],tk:=[5,9,10],keep:=[(0,[0]),(1,[2])] }
def F168:FA:= { n:=13,sh:=[vy,vj,vb,vy,vb,vb,vy,vb,vb,vb,vy,vb,vb],obs:=[],tk:=[5,9,10],keep:=[(0,[0]),(1,[2])] }
def An:FuncId→FA
  | 5=>F5
  | 7=>F7
  | 8=>F8
  | 10=>F10
  | 11=>F11
  | 13=>F13
  | 14=>F14
  | 15=>F15
  | 17=>F17
  | 19=>F19
  | 20=>F20
  | 26=>F26
  | 27=>F27
  | 28=>F28
  | 29=>F29
  | 30=>F30
  | 31=>F31
  | 39=>F39
  | 40=>F40
  | 41=>F41
  | 43=>F43
  | 44=>F44
  | 46=>F46
  | 47=>F47
  | 48=>F48
  | 49=>F49
  | 51=>F51
  | 52=>F52
  | 53=>F53
  | 54=>F54
  | 55=>F55
  | 62=>F62
  | 63=>F63
  | 65=>F65
  | 66=>F66
  | 67=>F67
  | 68=>F68
  | 69=>F69
  | 74=>F74
  | 79=>F79
  | 85=>F85
  | 86=>F86
  | 87=>F87
  | 88=>F88
  | 89=>F89
  | 90=>F90
  | 92=>F92
  | 93=>F93
  | 94=>F94
  | 102=>F102
  | 103=>F103
  | 105=>F105
  | 106=>F106
  | 107=>F107
  | 112=>F112
  | 114=>F114
  | 115=>F115
  | 120=>F120
  | 128=>F128
  | 129=>F129
  | 135=>F135
  | 136=>F136
  | 137=>F137
  | 138=>F138
  | 142=>F142
  | 144=>F144
  | 145=>F145
  | 146=>F146
  | 148=>F148
  | 153=>F153
  | 154=>F154
  | 156=>F156
  | 157=>F157
  | 158=>F158
  | 163=>F163
  | 164=>F164
  | 165=>F165
  | 167=>F167
  | 168=>F168
  | _=> { n:=0,sh:=[],obs:=[] }
abbrev sg5:Sg:= { bi:=x3,bo:=x0,np:=2,ext:=false }
abbrev sg7:Sg:= { bi:=x13,bo:=x0,np:=2,ext:=false }
abbrev sg8:Sg:= { bi:=x1,bo:=x0,np:=2,ext:=false }
abbrev sg10:Sg:= { bi:=x5,bo:=⟨[(0,[[.S, .S, .S, .U 5, .U 10]])],[]⟩,np:=1,ext:=false }
abbrev sg11:Sg:= { bi:=x10,bo:=x11,np:=1,ext:=false }
abbrev sg13:Sg:= { bi:=⟨[(0,[[.S, .S, .S, .F]]),(1,[[.S, .S, .S, .F]])],[]⟩,bo:=x0,np:=2,ext:=false }
abbrev sg14:Sg:= { bi:=x8,bo:=x0,np:=2,ext:=false }
abbrev sg15:Sg:= { bi:=⟨[(0,[[.S, .S, .S, .F, .F]]),(1,[[.S, .S, .S, .F, .F]])],[]⟩,bo:=x0,np:=2,ext:=false }
abbrev sg17:Sg:= { bi:=x6,bo:=x7,np:=2,io:=some 0 }
abbrev sg19:Sg:= { bi:=x9,bo:=x0,np:=2,ext:=false }
abbrev sg20:Sg:= { bi:=x1,bo:=x0,np:=2,ext:=false }
abbrev sg26:Sg:= { bi:=x1,bo:=x0,np:=2,ext:=false }
abbrev sg27:Sg:= { bi:=x3,bo:=x2,np:=2,ext:=false }
abbrev sg28:Sg:= { bi:=x10,bo:=⟨[(0,[[.U 5]])],[]⟩,np:=1,ext:=false }
abbrev sg29:Sg:= { bi:=x3,bo:=x2,np:=2,ext:=false }
abbrev sg30:Sg:= { bi:=x8,bo:=x0,np:=2,ext:=false }
abbrev sg31:Sg:= { bi:=x6,bo:=x7,np:=2,io:=some 0 }
abbrev sg39:Sg:= { bi:=x1,bo:=x0,np:=2,ext:=false }
abbrev sg40:Sg:= { bi:=x1,bo:=x0,np:=2,ext:=false }
abbrev sg41:Sg:= { bi:=x9,bo:=x0,np:=2,ext:=false }
abbrev sg43:Sg:= { bi:=x5,bo:=x0,np:=1,ext:=false }
abbrev sg44:Sg:= { bi:=x4,bo:=x0,np:=1,ext:=false }
abbrev sg46:Sg:= { bi:=x10,bo:=⟨[(0,[[.U 5]])],[]⟩,np:=1,ext:=false }
abbrev sg47:Sg:= { bi:=x10,bo:=⟨[(0,[[.U 10]])],[]⟩,np:=1,ext:=false }
abbrev sg48:Sg:= { bi:=x4,bo:=x12,np:=1,ext:=false }
abbrev sg49:Sg:= { bi:=x10,bo:=x11,np:=1,ext:=false }
abbrev sg51:Sg:= { bi:=x8,bo:=x0,np:=2,ext:=false }
abbrev sg52:Sg:= { bi:=x8,bo:=x0,np:=2,ext:=false }
abbrev sg53:Sg:= { bi:=x6,bo:=x7,np:=2,io:=some 0 }
abbrev sg54:Sg:= { bi:=x6,bo:=x7,np:=2,io:=some 0 }
abbrev sg55:Sg:= { bi:=x0,bo:=x0,np:=1,ext:=false }
abbrev sg62:Sg:= { bi:=x5,bo:=x0,np:=1,ext:=false }
abbrev sg63:Sg:= { bi:=x4,bo:=x0,np:=1,ext:=false }
abbrev sg65:Sg:= { bi:=⟨[(0,[[.S, .S, .S, .S, .F]]),(1,[[.S]])],[]⟩,bo:=x0,np:=2,ext:=false }
abbrev sg66:Sg:= { bi:=x3,bo:=x2,np:=2,ext:=false }
abbrev sg67:Sg:= { bi:=⟨[(0,[[.S, .S, .S, .S, .F]])],[]⟩,bo:=⟨[(0,[[.S, .S, .S, .S, .U 4]])],[]⟩,np:=1,ext:=false }
abbrev sg68:Sg:= { bi:=x3,bo:=x2,np:=2,ext:=false }
abbrev sg69:Sg:= { bi:=⟨[(0,[[.S, .S, .S, .S, .F]]),(1,[[.S, .S, .S, .S, .F]])],[]⟩,bo:=x0,np:=2,ext:=false }
abbrev sg74:Sg:= { bi:=x0,bo:=x0,np:=1,ext:=false }
abbrev sg79:Sg:= { bi:=x0,bo:=x0,np:=1,ext:=false }
abbrev sg85:Sg:= { bi:=⟨[(0,[[.S, .S, .S, .F, .F, .S, .S, .S, .F, .F]]),(1,[[.S]])],[]⟩,bo:=x0,np:=2,ext:=false }
abbrev sg86:Sg:= { bi:=x4,bo:=x12,np:=1,ext:=false }
abbrev sg87:Sg:= { bi:=⟨[(0,[[.S, .S, .S, .F, .F]]),(1,[[.S]]),(2,[[.S]]),(3,[[.S]])],[]⟩,bo:=x0,np:=4,ext:=false }
abbrev sg88:Sg:= { bi:=x10,bo:=x0,np:=1,ext:=false }
abbrev sg89:Sg:= { bi:=x5,bo:=⟨[(0,[[.U 1]])],[]⟩,np:=1,ext:=false }
abbrev sg90:Sg:= { bi:=⟨[(0,[[.S, .S, .S, .F]]),(1,[[.S]]),(2,[[.S]])],[]⟩,bo:=x0,np:=3,ext:=false }
abbrev sg92:Sg:= { bi:=⟨[(0,[[.S, .S, .S, .F, .F, .S, .S, .S, .F, .F]])],[]⟩,bo:=⟨[(0,[[.S, .S, .S, .U 5, .U 10, .S, .S, .S, .U 5, .U 10]])],[]⟩,np:=1,ext:=false }
abbrev sg93:Sg:= { bi:=x4,bo:=x12,np:=1,ext:=false }
abbrev sg94:Sg:= { bi:=⟨[(0,[[.S, .S, .S, .F, .F, .S, .S, .S, .F, .F]]),(1,[[.S, .S, .S, .F, .F, .S, .S, .S, .F, .F]])],[]⟩,bo:=x0,np:=2,ext:=false }
abbrev VW:Sg:= { bi:=⟨[(0,[[.S]]),(1,[[.S, .S, .S, .F, .F]]),(2,[[.S]])],[(1000000,[.S, .A 1])]⟩,bo:=⟨[(0,[[.S]])],[(1000000,[.S, .A 1])]⟩,np:=3,no:=1 }
abbrev VV:Sg:= { bi:=x9,bo:=x0,np:=2,ext:=false }
abbrev VU:Sg:= { bi:=x1,bo:=x2,np:=2,ext:=false }
abbrev VT:Sg:= { bi:=x1,bo:=x2,np:=2,ext:=false }
abbrev VS:Sg:= { bi:=x11,bo:=x2,np:=1 }
abbrev VR:Sg:= { bi:=x1,bo:=x0,np:=2,ext:=false }
abbrev VQ:Sg:= { bi:=x0,bo:=x0,np:=1,ext:=false }
abbrev VP:Sg:= { bi:=x0,bo:=x0,np:=1,ext:=false }
abbrev VO:Sg:= { bi:=x0,bo:=x0,np:=1,ext:=false }
abbrev VN:Sg:= { bi:=x13,bo:=x0,np:=2,ext:=false }
abbrev VM:Sg:= { bi:=x4,bo:=x0,np:=1,ext:=false }
abbrev VL:Sg:= { bi:=⟨[(0,[[.S]]),(1,[[.S]]),(2,[[.S]]),(3,[[.S]])],[]⟩,bo:=x0,np:=4,ext:=false }
abbrev VK:Sg:= { bi:=x1,bo:=x0,np:=2,ext:=false }
abbrev VJ:Sg:= { bi:=x4,bo:=x0,np:=1,ext:=false }
abbrev VI:Sg:= { bi:=⟨[(0,[[.U 1]])],[]⟩,bo:=x11,np:=1 }
abbrev VH:Sg:= { bi:=x14,bo:=x0,np:=3,ext:=false }
abbrev VG:Sg:= { bi:=x0,bo:=x0,np:=1,ext:=false }
abbrev VF:Sg:= { bi:=x0,bo:=x0,np:=1,ext:=false }
abbrev VE:Sg:= { bi:=x14,bo:=x0,np:=3,ext:=false }
abbrev VD:Sg:= { bi:=x1,bo:=x0,np:=2,ext:=false }
abbrev VC:Sg:= { bi:=x0,bo:=x0,np:=1,ext:=false }
abbrev VB:Sg:= { bi:=x0,bo:=x0,np:=1,ext:=false }
abbrev VA:Sg:= { bi:=x0,bo:=x0,np:=1,ext:=false }
abbrev Uz:Sg:= { bi:=x0,bo:=x0,np:=1,ext:=false }
abbrev Uy:Sg:= { bi:=⟨[(0,[[.N]]),(1,[[.S]])],[]⟩,bo:=x11,np:=2 }
abbrev Ux:Sg:= { bi:=x0,bo:=x0,np:=1,ext:=false }
abbrev Uw:Sg:= { bi:=x0,bo:=x0,np:=1,ext:=false }
abbrev Uv:Sg:= { bi:=x0,bo:=x0,np:=1,ext:=false }
abbrev Uu:Sg:= { bi:=x0,bo:=x0,np:=1,ext:=false }
abbrev Ut:Sg:= { bi:=x0,bo:=x0,np:=1,ext:=false }
def Sgs:FuncId→List Sg
  | 5=> [sg5]
  | 7=> [sg7]
  | 8=> [sg8]
  | 10=> [sg10]
  | 11=> [sg11]
  | 13=> [sg13]
  | 14=> [sg14]
  | 15=> [sg15]
  | 17=> [sg17]
  | 19=> [sg19]
  | 20=> [sg20]
  | 26=> [sg26]
  | 27=> [sg27]
  | 28=> [sg28]
  | 29=> [sg29]
  | 30=> [sg30]
  | 31=> [sg31]
  | 39=> [sg39]
  | 40=> [sg40]
  | 41=> [sg41]
  | 43=> [sg43]
  | 44=> [sg44]
  | 46=> [sg46]
  | 47=> [sg47]
  | 48=> [sg48]
  | 49=> [sg49]
  | 51=> [sg51]
  | 52=> [sg52]
  | 53=> [sg53]
  | 54=> [sg54]
  | 55=> [sg55]
  | 62=> [sg62]
  | 63=> [sg63]
  | 65=> [sg65]
  | 66=> [sg66]
  | 67=> [sg67]
  | 68=> [sg68]
  | 69=> [sg69]
  | 74=> [sg74]
  | 79=> [sg79]
  | 85=> [sg85]
  | 86=> [sg86]
  | 87=> [sg87]
  | 88=> [sg88]
  | 89=> [sg89]
  | 90=> [sg90]
  | 92=> [sg92]
  | 93=> [sg93]
  | 94=> [sg94]
  | 102=> [VW]
  | 103=> [VV]
  | 105=> [VU]
  | 106=> [VT]
  | 107=> [VS]
  | 112=> [VR]
  | 114=> [VQ]
  | 115=> [VP]
  | 120=> [VO]
  | 128=> [VN]
  | 129=> [VM]
  | 135=> [VL]
  | 136=> [VK]
  | 137=> [VJ]
  | 138=> [VI]
  | 142=> [VH]
  | 144=> [VG]
  | 145=> [VF]
  | 146=> [VE]
  | 148=> [VD]
  | 153=> [VC]
  | 154=> [VB]
  | 156=> [VA]
  | 157=> [Uz]
  | 158=> [Uy]
  | 163=> [Ux]
  | 164=> [Uw]
  | 165=> [Uv]
  | 167=> [Uu]
  | 168=> [Ut]
  | _=> []
end Go.Own
