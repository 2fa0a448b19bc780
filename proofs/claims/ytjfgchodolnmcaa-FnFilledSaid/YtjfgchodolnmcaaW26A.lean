/- What is told of the functions: shapes and kinds. No conditions. -/
import Derived.Test.YtjfgchodolnmcaaProg
import Derived.KernelRfl
import Derived.WalkKit
import Derived.Lib.Walk
import Derived.Lib.SliceRun
import Derived.Lib.AppendZerosOnto
import Derived.Shelf.RegionOpenPlain
import Derived.Test.YtjfgchodolnmcaaOwn4
set_option linter.unusedVariables false
set_option linter.unusedSimpArgs false
set_option linter.unnecessarySimpa false
namespace Go.Own
open Go Go.Proofs
def τ:TypeId→Option TI
  | 3=>some { size:=1,bytes:=8,zero:=[.int .i64 0],agg:=false,kind:= .int .i64 }
  | 4=>some { size:=1,bytes:=1,zero:=[.bool false],agg:=false,kind:= .bool }
  | 5=>some { size:=1,bytes:=1,zero:=[.int .u8 0],agg:=false,kind:= .int .u8 }
  | 9=>some { size:=1,bytes:=16,zero:=[.str []],agg:=false,kind:= .str }
  | 29=>some { size:=1,bytes:=24,zero:=[.sl []],agg:=false,kind:= .sl 31 }
  | 31=>some { size:=4,bytes:=56,zero:=[.int .i64 0, .int .i64 0, .str [], .sl []],agg:=true,kind:= .struct [(0,1,false),(1,1,false),(2,1,false),(3,1,false)] }
  | 34=>some { size:=1,bytes:=24,zero:=[.sl []],agg:=false,kind:= .sl 37 }
  | 35=>some { size:=1,bytes:=24,zero:=[.sl []],agg:=false,kind:= .sl 215 }
  | 37=>some { size:=5,bytes:=80,zero:=[.int .i64 0, .int .i64 0, .str [], .sl [], .sl []],agg:=true,kind:= .struct [(0,1,false),(1,1,false),(2,1,false),(3,1,false),(4,1,false)] }
  | 39=>some { size:=1,bytes:=24,zero:=[.sl []],agg:=false,kind:= .sl 57 }
  | 48=>some { size:=1,bytes:=24,zero:=[.sl []],agg:=false,kind:= .sl 5 }
  | 57=>some { size:=5,bytes:=72,zero:=[.str [], .int .i64 0, .int .i64 0, .str [], .sl []],agg:=true,kind:= .struct [(0,1,false),(1,4,true)] }
  | 85=>some { size:=1,bytes:=24,zero:=[.sl []],agg:=false,kind:= .sl 9 }
  | 174=>some { size:=1,bytes:=24,zero:=[.sl []],agg:=false,kind:= .sl 3 }
  | 215=>some { size:=10,bytes:=160,zero:=[.int .i64 0, .int .i64 0, .str [], .sl [], .sl [], .int .i64 0, .int .i64 0, .str [], .sl [], .sl []],agg:=true,kind:= .struct [(0,5,true),(5,5,true)] }
  | 219=>some { size:=2,bytes:=32,zero:=[.int .i64 0, .sl []],agg:=true,kind:= .struct [(0,1,false),(1,1,false)] }
  | 224=>some { size:=3,bytes:=40,zero:=[.sl [], .int .i64 0, .int .i64 0],agg:=true,kind:= .struct [(0,1,false),(1,1,false),(2,1,false)] }
  | 318=>some { size:=1,bytes:=24,zero:=[.sl []],agg:=false,kind:= .sl 29 }
  | _=>none
set_option maxRecDepth 100000 in
theorem PK:aY Try.prog τ:=by
  intro t i h; unfold τ at h; split at h<;>(try cases h)
  · exact⟨_,_,_,rfl,rfl,rfl,rfl,rfl,rfl,rfl,by decide,rfl,rfl,nofun⟩
  · exact⟨_,_,_,rfl,rfl,rfl,rfl,rfl,rfl,rfl,by decide,rfl,rfl,nofun⟩
  · exact⟨_,_,_,rfl,rfl,rfl,rfl,rfl,rfl,rfl,by decide,rfl,rfl,nofun⟩
  · exact⟨_,_,_,rfl,rfl,rfl,rfl,rfl,rfl,rfl,by decide,rfl,rfl,nofun⟩
  · exact⟨_,_,_,rfl,rfl,rfl,rfl,rfl,rfl,rfl,by decide,rfl,rfl,nofun⟩
  · refine⟨_,_,_,rfl,rfl,rfl,rfl,rfl,rfl,rfl,by decide,rfl,⟨_,rfl,rfl,fun j f hf=> ?_⟩,nofun⟩
    match j with
    | 0=>simp at hf; subst hf; exact⟨_,_,rfl,rfl,rfl,rfl,by decide,rfl,rfl⟩
    | 1=>simp at hf; subst hf; exact⟨_,_,rfl,rfl,rfl,rfl,by decide,rfl,rfl⟩
    | 2=>simp at hf; subst hf; exact⟨_,_,rfl,rfl,rfl,rfl,by decide,rfl,rfl⟩
    | 3=>simp at hf; subst hf; exact⟨_,_,rfl,rfl,rfl,rfl,by decide,rfl,rfl⟩
    | j+4=>simp at hf
  · exact⟨_,_,_,rfl,rfl,rfl,rfl,rfl,rfl,rfl,by decide,rfl,rfl,nofun⟩
  · exact⟨_,_,_,rfl,rfl,rfl,rfl,rfl,rfl,rfl,by decide,rfl,rfl,nofun⟩
  · refine⟨_,_,_,rfl,rfl,rfl,rfl,rfl,rfl,rfl,by decide,rfl,⟨_,rfl,rfl,fun j f hf=> ?_⟩,nofun⟩
    match j with
    | 0=>simp at hf; subst hf; exact⟨_,_,rfl,rfl,rfl,rfl,by decide,rfl,rfl⟩
    | 1=>simp at hf; subst hf; exact⟨_,_,rfl,rfl,rfl,rfl,by decide,rfl,rfl⟩
    | 2=>simp at hf; subst hf; exact⟨_,_,rfl,rfl,rfl,rfl,by decide,rfl,rfl⟩
    | 3=>simp at hf; subst hf; exact⟨_,_,rfl,rfl,rfl,rfl,by decide,rfl,rfl⟩
    | 4=>simp at hf; subst hf; exact⟨_,_,rfl,rfl,rfl,rfl,by decide,rfl,rfl⟩
    | j+5=>simp at hf
  · exact⟨_,_,_,rfl,rfl,rfl,rfl,rfl,rfl,rfl,by decide,rfl,rfl,nofun⟩
  · exact⟨_,_,_,rfl,rfl,rfl,rfl,rfl,rfl,rfl,by decide,rfl,rfl,nofun⟩
  · refine⟨_,_,_,rfl,rfl,rfl,rfl,rfl,rfl,rfl,by decide,rfl,⟨_,rfl,rfl,fun j f hf=> ?_⟩,nofun⟩
    match j with
    | 0=>simp at hf; subst hf; exact⟨_,_,rfl,rfl,rfl,rfl,by decide,rfl,rfl⟩
    | 1=>simp at hf; subst hf; exact⟨_,_,rfl,rfl,rfl,rfl,by decide,rfl,rfl⟩
    | j+2=>simp at hf
  · exact⟨_,_,_,rfl,rfl,rfl,rfl,rfl,rfl,rfl,by decide,rfl,rfl,nofun⟩
  · exact⟨_,_,_,rfl,rfl,rfl,rfl,rfl,rfl,rfl,by decide,rfl,rfl,nofun⟩
  · refine⟨_,_,_,rfl,rfl,rfl,rfl,rfl,rfl,rfl,by decide,rfl,⟨_,rfl,rfl,fun j f hf=> ?_⟩,nofun⟩
    match j with
    | 0=>simp at hf; subst hf; exact⟨_,_,rfl,rfl,rfl,rfl,by decide,rfl,rfl⟩
    | 1=>simp at hf; subst hf; exact⟨_,_,rfl,rfl,rfl,rfl,by decide,rfl,rfl⟩
    | j+2=>simp at hf
  · refine⟨_,_,_,rfl,rfl,rfl,rfl,rfl,rfl,rfl,by decide,rfl,⟨_,rfl,rfl,fun j f hf=> ?_⟩,nofun⟩
    match j with
    | 0=>simp at hf; subst hf; exact⟨_,_,rfl,rfl,rfl,rfl,by decide,rfl,rfl⟩
    | 1=>simp at hf; subst hf; exact⟨_,_,rfl,rfl,rfl,rfl,by decide,rfl,rfl⟩
    | j+2=>simp at hf
  · refine⟨_,_,_,rfl,rfl,rfl,rfl,rfl,rfl,rfl,by decide,rfl,⟨_,rfl,rfl,fun j f hf=> ?_⟩,nofun⟩
    match j with
    | 0=>simp at hf; subst hf; exact⟨_,_,rfl,rfl,rfl,rfl,by decide,rfl,rfl⟩
    | 1=>simp at hf; subst hf; exact⟨_,_,rfl,rfl,rfl,rfl,by decide,rfl,rfl⟩
    | 2=>simp at hf; subst hf; exact⟨_,_,rfl,rfl,rfl,rfl,by decide,rfl,rfl⟩
    | j+3=>simp at hf
  · exact⟨_,_,_,rfl,rfl,rfl,rfl,rfl,rfl,rfl,by decide,rfl,rfl,nofun⟩
end Go.Own
namespace Go.Proofs
open Go.RowKit Go.Lib
set_option linter.unusedVariables false
set_option linter.unusedSimpArgs false
set_option maxHeartbeats 4000000 in
set_option maxRecDepth 100000 in
theorem Oj(base:Option Addr)(w:World):Calls Try.prog 287 #[.slice base 0 0, .int .i64 0] w fun e w'=>e= .returned (.slice base 0 0)∧w'=w:=by
  have h2:wrap64 ((0:Int) - (0:Int))=0:=by unfold wrap64; omega
  go_enter Try.func287,Try.ntmps287
  go_wp2
  all_goals (go_ret; exact⟨rfl,rfl⟩)
set_option maxHeartbeats 4000000 in
set_option maxRecDepth 100000 in
theorem Ok(base:Option Addr)(n:Nat)(w:World)(i0:TypeInfo)(z:Value)(hi0:Try.prog.info? 31=some i0)(hz0:i0.zero=some z)(hs0:0<i0.size)(hu:Try.prog.underlying 29=some (.slice 31))(hu3:Try.prog.underlying 3=some (.int .i64))(hn:0<n)(hbig:n*i0.bytes≤140737488355328)(h63:n≤4611686018427387904):
    Calls Try.prog 287 #[.slice base 0 0, .int .i64 n] w fun e w'=>
      e= .returned (.slice (some ⟨w.heap.size,0,none⟩) 0 (grownCap w n 0 31))∧
      w'=w.drew.alloc (.cells (#[]++Builtin.zeroCells z.cells n++Builtin.zeroCells z.cells (grownCap w n 0 31 - n)) 31):=by
  have h1: ¬ ((n:Int)<0):=by omega
  have h2:wrap64 ((0:Int) - (0:Int))=0:=by unfold wrap64; omega
  have h3:wrap64 ((n:Int) - 0)=(n:Int):=by unfold wrap64; omega
  have h4:(n:Int) > 0:=by omega
  have hold:(Builtin.firstCells i0.size 0 (.slice base 0 0)).run Try.prog w.drew= .ok #[] w.drew:=by
    cases base with
    | none=>exact run_firstCells_none w.drew i0.size 0 0 0
    | some a=>exact run_firstCells_some w.drew i0.size 0 a 0 0 [] (by simp) (fun j v hj=>by simp at hj)
  have hrz: ∀ty,(Builtin.append_ #[29,3] ty #[.slice base 0 0, .int .i64 (n:Int)]).run Try.prog w=
      .ok (.slice (some ⟨w.heap.size,0,none⟩) n (grownCap w n 0 31)) (w.drew.alloc (.cells (#[]++Builtin.zeroCells z.cells n++Builtin.zeroCells z.cells (grownCap w n 0 31 - n)) 31)):=fun ty=>by
    have h:=Lib.run_append_grow_zeros w 29 3 ty 31 i0 z .i64 .i64 hu hu3 hi0 hz0 base 0 0 [] hold n hn hs0 (by omega) (by omega) (by omega) (by
      rw[Go.Own.z32]; exact @growslice_fits n 0 i0.bytes (by omega) hbig)
    rw[Go.Own.z32]at h; exact h
  have hGn:n≤grownCap w n 0 31:=grownCap_ge w _ _ _; obtain⟨G,hG⟩: ∃G,G=grownCap w n 0 31:=⟨_,rfl⟩; rw[←hG]at hrz hGn ⊢; have hG63:G≤9223372036854775807:=by
    have:=grownCap_le_maxLen w n 0 31 (by unfold maxLen; omega)
    rw[←hG]at this; unfold maxLen at this; omega
  clear hold hG; go_enter Try.func287,Try.ntmps287
  cases base with
  | none=>
    go_wp2_with (at_builtin; refine Lib.wpList_append_run _ rfl _ _ _ _ rfl _ _ rfl rfl _ _ (hrz _) ?_)
    all_goals (go_ret; exact⟨rfl,rfl⟩)
  | some a=>
    obtain⟨ab,ao,asp⟩:=a
    go_wp2_with (at_builtin; refine Lib.wpList_append_run _ rfl _ _ _ _ rfl _ _ rfl rfl _ _ (hrz _) ?_)
    all_goals (go_ret; exact⟨rfl,rfl⟩)
end Go.Proofs
namespace Go.Own
open Go Go.Proofs
set_option maxRecDepth 100000 in
theorem Qv{τ:TypeId→Option TI}(hT:aY Try.prog τ){e3:TI}{ei es:TI}(h3:τ 3=some e3)(k3:e3.kind= .int .i64)(hS:τ 29=some es)(kS:es.kind= .sl 31)(hE:τ 31=some ei){s:Nat}(hs:ei.size=s){n:Int}{ext:Bool}(h0:0≤n)(hb:n*ei.bytes≤140737488355328)(h63:n≤4611686018427387904):
    TC Try.prog 287 (NW ([[[.N]],[[.S]]],[[.A s]],ext)) [.one (.c (.sl [])), .one (.c (.int .i64 n))] [] (.one (.c (.sl []))) none [] none:=by
  obtain⟨info,de,z0,q1,q2,q3,q4,q5,q6,q7,q8,q9⟩:=hT.get hE; obtain⟨dS,hdS,rfl⟩:=jI hT (show tk τ 29=some (.sl 31)by unfold tk; rw[hS]; exact congrArg some kS)
  obtain⟨d3,hd3,rfl⟩:=jI hT (show tk τ 3=some (.int .i64)by unfold tk; rw[h3]; exact congrArg some k3)
  obtain⟨ze,_⟩:=gK q6; refine UF Try.func287 rfl (by decide) (fun base w=> ?_)
  by_cases hz:n=0
  · subst hz
    exact(Oj base w).mono fun e w' h=> .inl h
  · obtain⟨k,rfl⟩: ∃k:Nat,n=k:=⟨n.toNat,by omega⟩
    refine(Ok base k w info z0 q1 q5 (by rw[q3]; exact q8) hdS hd3 (by omega) (by rw[q4]; exact Int.ofNat_le.1 (by rw[Int.natCast_mul]; exact hb)) (by omega)).mono ?_
    rintro e w' ⟨rfl,rfl⟩
    have hG:=grownCap_ge w k 0 31; refine .inr ⟨_,_,_,rfl,grownCap_le_maxLen w k 0 31 (by simp only[maxLen]; omega), ?_,rfl⟩
    have hzs:z0.cells.size=s:=by
      simp only[z47]at ze; omega
    simp only[Array.size_append,size_zeroCells,hzs,z88,z27,z32]; rw[←z81]; congr 1
    omega
end Go.Own
namespace Go.Own
open Go Go.Proofs
abbrev vi:V:= .one (.c (.int .i64 0))
abbrev vy:V:= .one (.c (.int .u8 0))
abbrev vb:V:= .one (.c (.bool false))
abbrev vl:V:= .one (.c (.sl []))
abbrev vs:V:= .one (.c (.str []))
abbrev vj:V:= .one .junk
abbrev tl0:List T:=[.int .i64 0, .int .i64 0, .str [], .sl [], .sl []]
abbrev tl1:List T:=[.int .i64 0, .int .i64 0, .str [], .sl []]
abbrev tl2:List T:=[.int .i64 0, .int .i64 0, .str [], .sl [], .sl [], .int .i64 0, .int .i64 0, .str [], .sl [], .sl []]
abbrev tl3:List T:=[.sl [], .int .i64 0, .int .i64 0]
abbrev tl4:List T:=[.str [], .int .i64 0, .int .i64 0, .str [], .sl []]
abbrev x0:B:=⟨[(0,[[.S]])],[]⟩
abbrev x1:B:=⟨[(0,[[.S]])],[(1000000,[.F, .S, .S])]⟩
abbrev x2:B:=⟨[(0,[[.S, .S, .S, .U 5, .U 10]])],[(1000000,[.F, .S, .S])]⟩
abbrev x3:B:=⟨[(0,[[.S, .S, .S, .F]])],[]⟩
abbrev x4:B:=⟨[(0,[[.S, .S, .S, .U 4]])],[(1000000,[.F, .S, .S])]⟩
abbrev x5:B:=⟨[(0,[[.S, .S, .S, .F, .F]]),(1,[[.F]])],[]⟩
abbrev x6:B:=⟨[(0,[[.S, .S, .S, .F, .F]])],[]⟩
abbrev x7:B:=⟨[(0,[[.F]])],[]⟩
abbrev x8:B:=⟨[(0,[[.F]]),(1,[[.S]])],[]⟩
abbrev x9:B:=⟨[(0,[[.S, .S, .S, .U 4],[.S]])],[]⟩
abbrev x10:B:=⟨[(0,[[.S]]),(1,[[.S]])],[(1000000,[.F, .S, .S])]⟩
abbrev x11:B:=⟨[(0,[[.S]]),(1,[[.F]])],[(1000000,[.F, .S, .S])]⟩
abbrev x12:B:=⟨[(0,[[.S, .S, .S, .A 4],[.S]])],[]⟩
abbrev x13:B:=⟨[(0,[[.S]]),(1,[[.S, .S, .S, .F, .F]])],[(1000000,[.F, .S, .S])]⟩
abbrev x14:B:=⟨[(0,[[.S, .S, .S, .F, .F]]),(1,[[.S, .S, .S, .F]])],[]⟩
abbrev x15:B:=⟨[(0,[[.U 5],[.S]])],[]⟩
abbrev x16:B:=⟨[(0,[[.S]]),(1,[[.S]]),(2,[[.S]])],[]⟩
abbrev x17:B:=⟨[(0,[[.S]])],[(1000000,[.A 5])]⟩
abbrev x18:B:=⟨[(0,[[.S, .S, .S, .N, .N]])],[]⟩
abbrev x19:B:=⟨[(0,[[.S, .S, .S, .U 4]])],[]⟩
abbrev y0:V:= .one (.ptr 1000000 0)
abbrev y1:V:= .one (.ag tl0)
abbrev y2:V:= .one (.ag tl1)
abbrev y3:V:= .tup [.ag tl1, .c (.bool false)]
abbrev y4:V:= .tup [.c (.sl []), .c (.bool false)]
abbrev y5:V:= .one (.ptr 4 0)
abbrev y6:V:= .one (.ptr 3 3)
abbrev y7:V:= .one (.ptr 2 0)
abbrev y8:V:= .one (.ptr 3 0)
abbrev y9:V:= .one (.ptr 4 3)
abbrev y10:V:= .one (.ptr 1 3)
abbrev y11:V:= .one (.ptr 1 0)
abbrev y12:V:= .one (.cp tl0)
abbrev y13:V:= .one (.ptr 2 2)
abbrev y14:V:= .one (.ptr 1 2)
abbrev y15:V:= .one (.ptr 1000001 0)
abbrev y16:V:= .one (.ptr 1 1)
abbrev y17:V:= .one (.cp tl1)
abbrev y18:V:= .one (.ptr 3 2)
abbrev y19:V:= .one (.ptr 1000000 1)
abbrev y20:V:= .one (.cp [.str []])
abbrev y21:V:= .one (.ptr 9 0)
abbrev y22:V:= .one (.ptr 6 0)
abbrev y23:V:= .one (.ptr 5 0)
abbrev y24:V:= .one (.ptr 8 0)
abbrev y25:V:= .one (.ptr 7 0)
abbrev y26:V:= .one (.ptr 10 0)
abbrev y27:V:= .one (.ptr 8 3)
abbrev y28:V:= .one (.ptr 3 4)
abbrev y29:V:= .one (.ptr 2 3)
abbrev y30:V:= .one (.ptr 5 3)
abbrev y31:V:= .one (.ptr 4 2)
abbrev y32:V:= .one (.ptr 3 1)
abbrev y33:V:= .one (.ptr 1000000 2)
abbrev y34:V:= .one (.ptr 4 4)
abbrev y35:V:= .one (.ptr 2 1)
abbrev y36:V:= .one (.cp tl4)
abbrev y37:V:= .one (.cp tl2)
abbrev y38:V:= .one (.ptr 13 4)
abbrev y39:V:= .one (.ptr 6 3)
abbrev y40:V:= .one (.ag tl4)
abbrev y41:V:= .one (.ag tl2)
abbrev y42:V:= .tup [.ag tl0, .c (.sl [])]
abbrev y43:V:= .one (.ptr 4 1)
abbrev y44:V:= .one (.ptr 1 4)
abbrev y45:V:= .one (.pp (.oc 3 4) [] 0 0)
def F4:FA:= { n:=88,sh:=[vl,vj,vb,y8,vl,y23,vb,y25,vb,vl,vb,vi, .one (.ptr 12 0),vb,vl,vb,y42,vl,y42,y1,vl,y3,y1,vl,y3,y2,vb,y3,y1,vl,y3,y2,vb,vb,vb,vb,vb,vb,vb,vb,vb,vb,vb,vb,y2,vb,vb,y4,y1,y2,y4,vl,vb,vb,vb,vb,y2,vb,vb,vb,vi,vl,vi,vb,vi,vi,y3,vl,vl,vi,y36,y20,vs,y3,y2,vb,vb,vb,vb,y2,vl,vi,y36,y17,y2,vb,vb,vb],obs:=[(3,tl0),(5,tl1),(7,tl1),(12,tl1)],tk:=[16,17,21,27,36,40,41,43,44,47,48,53,55,56,64,66,76,78,79],keep:=[(0,[0]),(1,[0,15]),(2,[2]),(3,[3,4]),(4,[3,4,5,6]),(5,[3,4,5,6,8]),(6,[3,4,5,6,8,39]),(7,[2]),(8,[4,5,9,10]),(9,[4,9,59]),(10,[2]),(11,[4,9,11]),(12,[4,9,11,63]),(13,[4,9,11]),(14,[4,9,11,12,13]),(15,[4,9,11,87]),(16,[2]),(17,[2])] }
def F13:FA:= { n:=27,sh:=[y1,vl,y7,vj,y5,vb,y22,vb,y1,vb,vb,y2,y3,y1,vl,y3,y2,vb,vb,vb,vb,y2,vb,vb,vb,y2,y2],obs:=[(2,tl0),(4,tl1),(6,tl1)],tk:=[12,13,14,18,20,26],keep:=[(0,[1,2,4]),(1,[1,2,4,10]),(2,[4,5]),(3,[4,6,7]),(4,[4,6,24]),(5,[4,5]),(6,[4,5])] }
def F16:FA:= { n:=27,sh:=[y1,vl,y7,vj,y5,vb,y22,vb,y1,vb,vb,y2,y3,y1,vl,y3,y2,vb,vb,vb,vb,y2,vb,vb,vb,y2,y2],obs:=[(2,tl0),(4,tl1),(6,tl1)],tk:=[12,13,14,18,20,26],keep:=[(0,[1,2,4]),(1,[1,2,4,10]),(2,[4,5]),(3,[4,6,7]),(4,[4,6,24]),(5,[4,5]),(6,[4,5])] }
def F24:FA:= { n:=6,sh:=[vl,vj,vb,vl,vi,vb],obs:=[],tk:=[3],keep:=[(0,[0]),(1,[2])] }
def F25:FA:= { n:=41,sh:=[vl,vj,y7,vl,y26,y23,y22,vl,vb,vl,y26, .tup [.ag tl0, .ag tl1],vl, .tup [.ag tl0, .ag tl1],y1,y2,y4,y1,y2,y4,vl,vb,y26,vb,vl,y26,y2,y40,vl,vl,vl,vi,vb,vb,y26,vb,vb,vl,vl,y1,vl],obs:=[(2,tl0),(5,tl0),(6,tl1),(10,tl3)],tk:=[11,12,16,18,24,33,34,37,39,40],dp:=[28],fz:=[18],nw:=[10],fx:=[(33,7)],keep:=[(0,[0,2]),(1,[0,2,4]),(2,[2,4,5,6]),(3,[2,4,5,7]),(4,[2,4,5,7,23]),(5,[2,4,5,7]),(6,[2,5,7,36]),(7,[2,5,7]),(8,[2,3])] }
def F26:FA:= { n:=22,sh:=[y2,y11,vb,y11,vi,vb,vb,y16,vi,vb,vb,vb,y14,vs,vb,vb,vb,y10,vl,vi,vb,vb],obs:=[(1,tl1)],tk:=[4,6,8,11,13,16,18],keep:=[(0,[1]),(1,[2])] }
def F27:FA:= { n:=25,sh:=[y1,y2,y7,y8,vl,vb,vl,vb,y1,vb,vb,vb,y2,vb,vb,vb,y4,y1,y2,y4,vl,vb,vb,vb,vl],obs:=[(2,tl0),(3,tl1)],tk:=[11,16,17,18,22,24],keep:=[(0,[2,3]),(1,[2,3,15]),(2,[4,5]),(3,[6,7]),(4,[6,23]),(5,[4,5]),(6,[4,5])] }
def F28:FA:= { n:=6,sh:=[y2,y11,vb,y2,vi,vb],obs:=[(1,tl1)],tk:=[3],keep:=[(0,[1]),(1,[2])] }
def F29:FA:= { n:=23,sh:=[vl,vs,vj,vj,y5,vb,vj,y25,vl,vi,vi,vb,y36,y40,y25,vs,vs,vb, .one (.ptr 7 1),y2,y2,vi,y2],obs:=[(4,tl1),(7,tl4)],tk:=[8,10,15,19],keep:=[(0,[0,1,4]),(1,[1,4,8,9,10]),(2,[1,4,8,9,10,11]),(3,[1,4,7,8,9,10]),(4,[1,4,7,8,9,10,17]),(5,[4,5]),(6,[1,4,8,9,10]),(7,[4,5])] }
def F30:FA:= { n:=31,sh:=[y2,y2,y7,y8,vb,y7,vi,y8,vi,vb,vb,y35,vi,y32,vi,vb,vb,vb,y13,vs,y18,vs,vb,vb,vb,y29,vl,y6,vl,vb,vb],obs:=[(2,tl1),(3,tl1)],tk:=[6,8,10,12,14,17,19,21,24,26,28],keep:=[(0,[2,3]),(1,[4])] }
def F74:FA:= { n:=11,sh:=[y1,y11,vb,y1,vi,vb,vb,y1,vl,vb,vb],obs:=[(1,tl0)],tk:=[6,7],keep:=[(0,[1]),(1,[2])] }
def F75:FA:= { n:=83,sh:=[y1,vl,y7,vj,y5,vb,y22,vi,y24,vb,y7,vi,vb,vb,y35,vi,y2,vb,vb,y13,vs,y2,vb,vb,vl,y13,vs,y3,y2,vb,y2,y7,vi,vb,y22,vi,y29,vl,vi,vb,vi,vi,y3,y29,vl,vi,y12,y1,vl,y3,y2,vb,vb,vb,y2,y7,vi,vb,vb,vi,y29,vl,vi,vi,vb,vb,y39,vl,y27,vl,vl,y39,y2,y24,vi,vb,y39,vl,y2,vl,vl,y39,y2],obs:=[(2,tl0),(4,tl1),(6,tl1),(8,tl1)],tk:=[15,20,24,26,40,42,52,54,58,67,69,72,74,77,78,82],dp:=[70,79,80],keep:=[(0,[1,2,4]),(1,[1,2,4,11]),(2,[1,2,4,11,12]),(3,[4,5]),(4,[1,2,4,11,17]),(5,[4,5]),(6,[1,2,4,22]),(7,[4,5]),(8,[1,2,4,6]),(9,[1,2,4,6,33]),(10,[1,2,4,6]),(11,[1,2,4,6,7]),(12,[1,2,4,6,7,39]),(13,[1,2,4,6,7]),(14,[1,2,4,6,7,8,9]),(15,[1,2,4,6,7,8,53]),(16,[4,5]),(17,[1,2,4,6,7,8,65]),(18,[4,6,8]),(19,[4,5]),(20,[1,2,4,6,7]),(21,[4,5])] }
def F76:FA:= { n:=6,sh:=[y2,y11,vb,y2,vi,vb],obs:=[(1,tl1)],tk:=[3],keep:=[(0,[1]),(1,[2])] }
def F80:FA:= { n:=6,sh:=[y1,y11,vb,y8,y1,vb],obs:=[(1,tl0),(3,[.int .i64 0, .sl []])],tk:=[4],keep:=[(0,[1]),(1,[1,3]),(2,[2])] }
def F81:FA:= { n:=66,sh:=[y1,vl,y7,vj,y5,vb,vl,vj,y24,y21,vb,y7,vi,vb,vb,y35,vi,y2,vb,vb,y13,vs,y2,vb,vb,vl,y13,vs,y3,y2,vb,y29,vl,vi,vi,vb,y12,y1,y3,y1,vl,y3,y2,vb,vb,vb,y2,vl,y2,vl,vl,vi,y7,vi,vb,vb,vl,y2,vb,vb,vl,y2,vl,y3,y2,vb],obs:=[(2,tl0),(4,tl1),(8,tl0),(9,tl1)],tk:=[16,21,25,27,32,34,38,39,44,47,48,53,56,60,62],fz:=[62],keep:=[(0,[1,2,4]),(1,[1,2,4,12]),(2,[1,2,4,12,13]),(3,[4,5]),(4,[1,2,4,12,18]),(5,[4,5]),(6,[1,2,4,23]),(7,[4,5]),(8,[1,2,4,6]),(9,[1,2,4,6,32,33,34]),(10,[1,2,4,6,32,33,34,35]),(11,[1,2,4,6,8,32,33,34]),(12,[1,2,4,6,9,10,32,33,34]),(13,[1,2,4,6,9,32,33,34,45]),(14,[4,5]),(15,[1,2,4,6,32,33,34]),(16,[1,2,4,6,32,33,34]),(17,[4,6,53]),(18,[4,6,53,54]),(19,[4,5]),(20,[4,6,58]),(21,[4,5]),(22,[4,5])] }
def F91:FA:= { n:=32,sh:=[vl,vj, .one (.ptr 31 0),vi,vi,vl,vi,vi,vi,vl,vi,vb,vb,vi,vb,vb,vi,vi,vi,vi,vl,vi, .one (.cp [.int .u8 0]),vy,vi,vi,vi,vi,vl,vi, .one (.ag tl3), .one (.ptr 31 0)],obs:=[(31,tl3)],tk:=[12,16,18,28,29],keep:=[(0,[0]),(1,[0,3]),(2,[0,3,4]),(3,[0,3,4,15]),(4,[0,3,4]),(5,[0,3,4]),(6,[2])],n0:=some 31 }
def F92:FA:= { n:=28,sh:=[vl,vj,y7,y8,y21,y23,y22,y25,vl,y21,vl,y21,y1,y21,y1,y2,y21,vi,vb,vb,y21,y2,vb,vb,y21,y1,y1,y2],obs:=[(2,tl0),(3,tl1),(5,[.sl []]),(6,tl0),(7,tl1),(9,tl3)],tk:=[8,20,24,26,27],dp:=[10],fz:=[12,25],nw:=[9],keep:=[(0,[0,2,3]),(1,[2,3,4]),(2,[2,3,4,5]),(3,[2,3,4,6]),(4,[2,3,4,6,7]),(5,[2,3,4,6,7,17]),(6,[2,3,4,6,7,17,18]),(7,[2,3,6,7]),(8,[2,3,4,6,7,22]),(9,[2,3,6,7]),(10,[2,3])] }
def F93:FA:= { n:=24,sh:=[y1,y2,y7,y8,vl,vb,y22,vl,y1,vb,vb,vb,y2,vb,vb,vb,vb,y1,y2,vb,vb,vb,vl,vl],obs:=[(2,tl0),(3,tl1),(6,[.sl []])],tk:=[11,16,17,18,23],dp:=[7,22],keep:=[(0,[2,3]),(1,[2,3,6]),(2,[6,21]),(3,[4,5]),(4,[4,5])] }
def F94:FA:= { n:=9,sh:=[y0,vi,vj,vj,vb,y0,vi,vi,vb],obs:=[(1000000,tl3)],tk:=[5,6],keep:=[(0,[0,1]),(1,[4])] }
def F95:FA:= { n:=12,sh:=[y0,vj,y7,y8,y0,y2,y0,vb,y0,y2,y2,y2],obs:=[(2,tl1),(3,tl1),(1000000,tl3)],tk:=[8,9,11],fz:=[9],keep:=[(0,[0,2]),(1,[0,2,3]),(2,[0,2,3,7]),(3,[2,3]),(4,[2])] }
def F96:FA:= { n:=143,sh:=[y1,y2,vl,y8,y5,vj,vl,vb,vi,vb,y8,vi,vb,vb,vl,y5,vi,vb,vb,y43,vi,y32,vi,vb,vb,vb,vb,vl,y5,vi,vb,vb,y31,vs,y18,vs,vb,vb,vb,vb,y18,vs,vb,vl,y18,vs,y2,y2,y40,vl,vl,vl,vb,vb,y5,vi,vb,vb,y9,vl,vi,y6,vl,vi,vb,vb,vl,y6,vl,y9,vl,vl,y4,vl,vb,vb,vb,y5,vi,vb,vb,y9,vl,vi,y6,vl,vi,vb,vb,vl,y6,vl,y9,vl,vl,y4,vl,vb,y6,vl,vi,vi,y5,vi,vb,vb,y9,vl,vi,vi,vb,vb,vl,y4,y6,vl,vi,vl,y9,vl,vi,vl,vl,y4,vl,vb,vb,vb,vl,y6,vl,vi,y12,y1,y9,vl,vi,vl,y2,vl,y4,vl,vb],obs:=[(3,tl0),(4,tl1)],tk:=[11,14,16,18,20,22,27,29,31,33,35,43,45,46,51,55,57,66,68,70,71,78,80,89,91,93,94,103,105,112,113,122,126,128,130,135,136,139],dp:=[49,50],keep:=[(0,[2,3,4]),(1,[2,3,4,11]),(2,[2,3,4,11,12]),(3,[6,7]),(4,[2,3,4,11,25]),(5,[6,7]),(6,[2,3,4,11,38]),(7,[2,3,4,42]),(8,[2]),(9,[6,7]),(10,[2,3,4,11,52]),(11,[2,3,4,65]),(12,[6,7]),(13,[6,7]),(14,[2,3,4,75]),(15,[2,3,4,88]),(16,[6,7]),(17,[6,7]),(18,[2,3,4,8]),(19,[2,3,4,8,111]),(20,[6,7]),(21,[2,3,4,8,9]),(22,[2,3,4,8,127]),(23,[6,7]),(24,[6,7])] }
def F97:FA:= { n:=32,sh:=[y2,vi,y7,vj,vi,vi,vj,y25,vi,vb,vb,y2,vb,vb,vb,y29,vl,vi,vi,vb,y17,y2,vi,y2,vi,vi,vi,vi,vi,vb,vi,vi],obs:=[(2,tl1),(7,tl1)],tk:=[10,16,18,22,23,31],keep:=[(0,[1,2]),(1,[1,2,14]),(2,[4]),(3,[1,2,5]),(4,[1,5,16,17,18]),(5,[1,5,16,17,18,19]),(6,[1,5,7,16,17,18]),(7,[1,5,16,17,18]),(8,[1,5,16,17,18,29]),(9,[4]),(10,[1,5,16,17,18]),(11,[4])] }
def F98:FA:= { n:=8,sh:=[y2,y11,y7,y10,vl,vl,y10,y2],obs:=[(1,tl1),(2,tl1)],tk:=[4,7],keep:=[(0,[1,2]),(1,[1,2]),(2,[2])] }
def F99:FA:= { n:=32,sh:=[vl,vl, .one (.fn 30 []),vj,vj,vj,vb,vi,y24,y21,vl,vi,vl,vi,vb,vl,vi,vi,vb,vi,y17,y2,vl,vi,y17,y2, .one (.fn 30 []),y2,y2,vb,vb,vi],obs:=[(8,tl1),(9,tl1)],tk:=[15,17,23,27,28],keep:=[(0,[0,1,2]),(1,[0,1,2,14]),(2,[6]),(3,[1,2,15,16,17]),(4,[1,2,15,16,17,18]),(5,[1,2,7,8,15,16,17]),(6,[1,2,8,9,15,16,17]),(7,[1,2,15,16,17,30]),(8,[6]),(9,[1,2,15,16,17]),(10,[6])] }
def F123:FA:= { n:=18,sh:=[vl,vs,vj,vj,vb,vi,vi,vl,vi,vb,vi,vi,vl,vi,y20,vs,vs,vb],obs:=[],tk:=[10],keep:=[(0,[0,1]),(1,[0,1,5]),(2,[0,1,5,9]),(3,[0,1,5]),(4,[0,1,5,17]),(5,[4]),(6,[4])] }
def F124:FA:= { n:=18,sh:=[vl,vj,vb,vi,vi,vl,vi,vb,vi,vi,vl,vi,vl,vl,vi,y20,vs,vb],obs:=[],tk:=[8],keep:=[(0,[0]),(1,[0,3]),(2,[0,3,7]),(3,[0,3]),(4,[0,3,17]),(5,[2]),(6,[2])] }
def F130:FA:= { n:=15,sh:=[vi,vi,vi,vj,vj,vj,vb,vi,vi,vb,vb,vi,vi,vb,vb],obs:=[],tk:=[8,10,11,12],keep:=[(0,[0,1,2]),(1,[6])] }
def F134:FA:= { n:=10,sh:=[vs,vj,vb,vs,vb,vb,vs,vb,vb,vb],obs:=[],tk:=[5,6],keep:=[(0,[0]),(1,[2])] }
def F138:FA:= { n:=17,sh:=[vs,vj,vb,vs,vb,vb,vs,vb,vb,vb,vs,vb,vb,vb,vs,vb,vb],obs:=[],tk:=[5,9,13,14],keep:=[(0,[0]),(1,[2])] }
def F155:FA:= { n:=36,sh:=[vs,vj,vb,vi,vi,vb,vi,vs,vi,vb,vi,vi,vs,vi,vy,vi,vi,vb,vb,vb,vb,vi,vb,vb,vi,vb,vb,vb,vi,vb,vb,vb,vb,vs,vi,vb],obs:=[],tk:=[10,18,20,23,27,28,33],keep:=[(0,[0]),(1,[0,3]),(2,[0,3,9]),(3,[0,3]),(4,[0,3,4]),(5,[0,3,4,5]),(6,[0,3,32]),(7,[2]),(8,[2])] }
def F159:FA:= { n:=35,sh:=[vs,vj,vb,vi,vi,vs,vi,vb,vi,vi,vs,vi,vy,vb,vb,vb,vi,vb,vb,vs,vi,vy,vb,vb,vb,vs,vi,vy,vb,vb,vb,vb,vs,vi,vb],obs:=[],tk:=[8,15,18,24,32],keep:=[(0,[0]),(1,[0,3]),(2,[0,3,7]),(3,[0,3]),(4,[0,3,31]),(5,[2]),(6,[2])] }
def F172:FA:= { n:=89,sh:=[y1,vb,vi,vi,y5,vj,vj,vj,vi,vi,vi,vi,vb,vb,vi,vb,vb,vb,y1,vb,vb,vb,vb,vi,vi,vi,y9,vl,vi,vb,vb,vi,vb,vb,vi,vi,y9,vl,vi,y12,y1,vb,vi,vi,vi,vi,vi,y34,vl,vi,vb,vb,vi,vb,vb,vi,vi,y34,vl,vi,y37,y12,y1,vl,vb,vb,y34,vl,vi,y37,y12,y1,vi,vi,vi,vi,vi,vb,y34,vl,vi,y37,y12,y1,vi,vi,vi,vi,vi],obs:=[(4,tl0)],tk:=[13,17,23,30,34,44,51,55,74,86,88],keep:=[(0,[1,2,3,4]),(1,[1,2,3,4,22]),(2,[8]),(3,[1,2,3,4]),(4,[1,2,3,4,9]),(5,[1,2,3,4,9,33]),(6,[1,2,3,4,9]),(7,[1,2,3,4,9]),(8,[2,3,4,10]),(9,[2,3,4,10,54]),(10,[2,3,4,10]),(11,[2,3,4,10,65]),(12,[8]),(13,[2,3,4,10]),(14,[2,3,4,10,77]),(15,[2,3,4,10]),(16,[8])] }
def F173:FA:= { n:=34,sh:=[y1,y11,vl,vl,vi,vl,y11,vi,vb,y14,vs,vb,vl,y14,vs,vl,vl,vl,vi,y10,vl,vi,vb,vi,vi,vl,y10,vl,vi,y12,y1,vl,vl,vl],obs:=[(1,tl0)],tk:=[7,12,14,17,23,25,33],dp:=[5,15,16,32],keep:=[(0,[1]),(1,[1,3]),(2,[1,3,8]),(3,[1,3,11]),(4,[3]),(5,[2]),(6,[1,3,4]),(7,[1,3,4,22]),(8,[1,3,4]),(9,[1,3,4]),(10,[2])] }
def F174:FA:= { n:=27,sh:=[vl,vs,vj,vj,y5,vb,vi,vi,vl,vi,vb,vi,vi,vl,vi,y36,y20,vs,vs,vb,vl,vi,y36,y17,y2,y2,y2],obs:=[(4,tl1)],tk:=[11,20,21],keep:=[(0,[0,1,4]),(1,[0,1,4,6]),(2,[0,1,4,6,10]),(3,[0,1,4,6]),(4,[0,1,4,6,19]),(5,[4,5]),(6,[4,5])] }
def F175:FA:= { n:=42,sh:=[y2,vi,vi,y8,vj,vj,vi,vi,vi,vb,vb,vi,vb,vb,vb,y2,vb,vb,vb,vi,vi,vi,y6,vl,vi,vb,vb,vi,vb,vb,vi,vi,y6,vl,vi,y17,y2,vi,vi,vi,vi,vi],obs:=[(3,tl1)],tk:=[10,14,19,26,30,39,41],keep:=[(0,[1,2,3]),(1,[1,2,3,18]),(2,[6]),(3,[1,2,3]),(4,[1,2,3,7]),(5,[1,2,3,7,29]),(6,[1,2,3,7]),(7,[1,2,3,7]),(8,[6])] }
def F178:FA:= { n:=89,sh:=[y0,y1,vi,vj,y5,vj,vb,vj,y24,y0,y0,y0,vi,vi,y0,y0,vi,vb,vb,y0,y0,y0,vi,vb,vb,vb,y5,vi,vb,vb,vb,y34,vl,vi,vb,vb,vb,y5,vi,y43,vi,y31,vs,y9,vl,vi,vb,vb,vb,y5,vi,vb,vb,y31,vs,vb,vb,y0,y0,y19,vl,y31,vs,vb,y0,y0,y0,y19,vl,y31,vs,vl,vl,y0,y19,y9,vl,vi,vi,vb,y12,y1,y0,y1,vi,vi,vb,vb,vi],obs:=[(4,tl0),(8,tl0),(1000000,[.int .i64 0, .sl []])],tk:=[12,18,25,30,32,36,40,50,52,68,70,76,78,83],dp:=[71],keep:=[(0,[0,2,4]),(1,[0,2,4]),(2,[0,2,4,48]),(3,[6]),(4,[0,2,4,56]),(5,[0,2,4,63]),(6,[6]),(7,[0,2,4]),(8,[0,2,76,77,78]),(9,[0,2,76,77,78,79]),(10,[0,2,8,76,77,78]),(11,[0,2,76,77,78,87]),(12,[6]),(13,[0,2,76,77,78]),(14,[6])] }
def F179:FA:= { n:=25,sh:=[vl,vj,y7,vb,y5,vl,vl,vi,vi,y17,y2,y5,vi,vb,y2,vl,vl,vi,vi,vl,y9,vl,vl,vl,y2],obs:=[(2,tl1),(4,tl1)],tk:=[12,16,21],fz:=[22],keep:=[(0,[0,2]),(1,[0,2,4]),(2,[0,2,4,13]),(3,[2,3]),(4,[2,3])] }
def F181:FA:= { n:=83,sh:=[y0,vi,y15,vj,vj,vj,y22,vs,y24,vi,vi,y0,vi,vb,vb,y0,vi,y1,vb,vb,y0,vl,vs,y1,vb,vb,y1,vb,vb,vb,vb,y0,vl,vs,y15,y15,vl,vs,vb,y1,y15,y15,y15,vl,vs,vl,vl,y15,vs,y1,y0,vl,vi,y1,y0,vi,y24,vi,vb,vi,vi,vb,vi,vi,vi,vb,y27,vl,y0,vi,vi,y15,y1,vl,vl,y27,y27,vl,y1,vl,vl,y27,y1],obs:=[(6,tl0),(8,tl0),(1000000,tl3),(1000001,[.sl []])],tk:=[15,20,31,41,43,48,62,67,77,82],dp:=[21,32,45,51,73,74,79,80],fz:=[21,32,51],keep:=[(0,[0,1,2,6]),(1,[0,1,2,6,12]),(2,[0,1,2,6,12,13]),(3,[6]),(4,[0,1,2,6,12,18]),(5,[6]),(6,[0,1,2,6,12,24]),(7,[6]),(8,[0,1,2,6,12,27]),(9,[0,1,2,6,12,27]),(10,[0,1,2,6,27]),(11,[2,6,7]),(12,[2,6,7,38]),(13,[6]),(14,[6,7]),(15,[6]),(16,[0,1,2,6,8]),(17,[0,1,2,6,8,9]),(18,[0,1,2,6,8,9,58]),(19,[0,1,2,6,8,9]),(20,[0,1,2,6,8,9,10]),(21,[0,1,2,6,8,9,10,61]),(22,[0,1,2,6,8,9,10]),(23,[0,1,2,6,8,9,10,65]),(24,[0,1,2,6,8,9,10]),(25,[0,1,2,6,8,9,10]),(26,[6])] }
def F182:FA:= { n:=74,sh:=[y0,y1,vj,y8,y5,y23,vi,y25,y8,vi,vb,vb,y32,vi,y2,vb,vb,y18,vs,y2,vb,vb,vb,vb,y2,y8,vi,vb,y23,vi,y6,vl,vi,vb,vi,vi,y0,y6,vl,vi,y12,y1,y2,y8,vi,vb,vb,vi,y6,vl,vi,vi,vb,vb,y25,vi,vb,y2,y30,vl, .one (.ptr 7 3),vl,vl,y30,y2,y30,vl,y2,vl,vl,y30,y2,y0,y2],obs:=[(3,tl0),(4,tl1),(5,tl1),(7,tl1),(1000000,tl3)],tk:=[13,18,34,46,55,59,61,64,66,67,71,72],dp:=[62,68,69],keep:=[(0,[0,3,4]),(1,[0,3,4,9]),(2,[0,3,4,9,10]),(3,[4]),(4,[0,3,4,9,15]),(5,[4]),(6,[0,3,4,9,20]),(7,[0,3,4,9,20]),(8,[0,3,4,20]),(9,[0,3,4,5]),(10,[0,3,4,5,27]),(11,[0,3,4,5]),(12,[0,3,4,5,6]),(13,[0,3,4,5,6,33]),(14,[0,3,4,5,6]),(15,[0,3,4,5,6,7]),(16,[0,3,4,5,6,7,53]),(17,[4,5,7,56]),(18,[4,5,7]),(19,[4,5]),(20,[4]),(21,[0,3,4,5,6]),(22,[4]),(23,[4])] }
def F183:FA:= { n:=31,sh:=[y0,vi,vj,vj,vi,vi,vi,vi,vi,vb,vi,vb,y0,vi,vi,vi,y0,vi,y0,vi,y0,vi,vi,vi,vi,vi,vi,vi,vi,vi,vi],obs:=[(1000000,tl3)],tk:=[12,14,20,22,24,27,29],keep:=[(0,[0,1]),(1,[0,1,9]),(2,[4]),(3,[0,1,11]),(4,[4]),(5,[0,1,5]),(6,[0,1,5,6]),(7,[1,5,6,7]),(8,[4])] }
def F184:FA:= { n:=27,sh:=[y0,vj,y7,y8,y5,vl,y0,y1,y0,vi,vb,vb,y0,y1,y1,vb,vb,y1,y1,y1,vl,y1,vb,vb,y0,y1,y1],obs:=[(2,tl0),(3,[.sl []]),(4,tl0),(1000000,tl3)],tk:=[12,13,18,24,26],dp:=[5],fz:=[7,13,14,21,25],keep:=[(0,[0,2]),(1,[0,2,3]),(2,[0,2,4]),(3,[0,2,4,9]),(4,[0,2,4,9,10]),(5,[2,4]),(6,[0,2,4,9,15]),(7,[2,4]),(8,[0,2,4,22]),(9,[2,4]),(10,[2])] }
def F185:FA:= { n:=132,sh:=[y1,y2,y0,y8,y5,vj,vb,vi,y8,vi,vb,vb,y5,vi,vb,vb,y43,vi,y32,vi,vb,vb,vb,vb,y5,vi,vb,vb,y31,vs,y18,vs,vb,vb,vb,vb,y18,vs,vb,y0,y0,y0,vl,y18,vs,y2,y2,y40,vl,vl,y0,vb,vb,y5,vi,vb,vb,y9,vl,vi,y6,vl,vi,vb,vb,vb,y6,vl,y9,vl,y0,vb,vb,vb,vb,y5,vi,vb,vb,y9,vl,vi,y6,vl,vi,vb,vb,vb,y6,vl,y9,vl,y0,vb,vb,y6,vl,vi,vi,y5,vi,vb,vb,y9,vl,vi,vi,vb,vb,vb,y6,vl,vi,vl,y9,vl,y0,vb,vb,vb,y6,vl,vi,y12,y1,y9,vl,vi,vl,y2,y0,vb],obs:=[(3,tl0),(4,tl1),(1000000,[.sl []])],tk:=[9,13,15,17,19,25,27,29,31,40,42,44,45,54,56,65,67,69,70,76,78,87,89,91,92,100,102,109,121,126,127,130],dp:=[48],keep:=[(0,[2,3,4]),(1,[2,3,4,9]),(2,[2,3,4,9,10]),(3,[6]),(4,[2,3,4,9,22]),(5,[6]),(6,[2,3,4,9,34]),(7,[2,3,4,38]),(8,[]),(9,[6]),(10,[2,3,4,9,51]),(11,[6]),(12,[2,3,4,73]),(13,[6]),(14,[2,3,4,7]),(15,[2,3,4,7,119]),(16,[6]),(17,[6])] }
def F186:FA:= { n:=55,sh:=[y0,vi,vj,vj,y5,y23,vi,y0,vi,vb,vb,vb,vb,y0,y0,vi,vl,vi,y2,vb,vb,vb,y0,vl,vs,y2,vb,vb,y0,vi,y2,y0,vl,vi,y2,y0,vi,vi,vb,vb,vi,vb,vb,vi,vi,y30,vl,y0,vi,vi,y2,vl,vl,y30,y2],obs:=[(4,tl1),(5,tl1),(1000000,tl3)],tk:=[14,22,28,39,43,46,54],dp:=[16,23,32,51,52],fz:=[16,23,32],keep:=[(0,[0,1,4]),(1,[0,1,4,8]),(2,[0,1,4,8,9]),(3,[0,1,4,8,9]),(4,[0,1,4,8,9]),(5,[4]),(6,[0,1,4,8,19]),(7,[0,1,4,8,19]),(8,[4]),(9,[0,1,4,26]),(10,[4]),(11,[0,1,4,5]),(12,[0,1,4,5,6]),(13,[0,1,4,5,6,42]),(14,[0,1,4,5,6]),(15,[0,1,4,5,6]),(16,[4])] }
def F187:FA:= { n:=45,sh:=[y0,y2,vj,y8,y5,vi,y2,y2,y0,vi,vb,vb,y0,vi,y8,vb,vb,y0,vl,vi,y32,vb,vb,y0,vl,vs,y18,vb,vb,y6,vl,y2,vl,vl,y6,vb,vb,vi,vb,vi,vi,y2,vl,y2,y2],obs:=[(3,tl1),(4,tl1),(1000000,tl3)],tk:=[6,12,17,23,30,39,41,44],dp:=[18,24,32,33,42],fz:=[18,24],keep:=[(0,[0,3,4]),(1,[0,3,4]),(2,[0,3,4,9]),(3,[0,3,4,9,10]),(4,[3,4]),(5,[0,3,4,9,15]),(6,[3,4]),(7,[0,3,4,9,21]),(8,[3,4]),(9,[3,4,9,27]),(10,[3,4]),(11,[3,4,35]),(12,[3,4,5]),(13,[3,4,5,38]),(14,[3,4,5]),(15,[3,4,5]),(16,[4])] }
def F188:FA:= { n:=33,sh:=[vl,vl,vl,vj,vj,vj,vl,vb,vb,vi,y26,vl,vi,vi,vb,vi,y12,y1,y4,y1,vl,vi,y17,y2,vl,y4,vl,vb,vb,vb,vl,vi,vl],obs:=[(10,tl0)],tk:=[11,13,18,19,21,24,28,30,32],keep:=[(0,[0,1,2]),(1,[0,1,2]),(2,[1,2,11,12,13]),(3,[1,2,11,12,13,14]),(4,[1,2,9,10,11,12,13]),(5,[1,2,8,11,12,13]),(6,[1,2,11,12,13,29]),(7,[6,7]),(8,[1,2,11,12,13]),(9,[6,7])] }
def F189:FA:= { n:=85,sh:=[y2,y11,vb,y11,vi,vb,vb,y16,vi,vb,vb,y14,vs,vb,vb,vb,y10,vl,vi,vb,vb,vb,vb,y16,vi,vb,vb,y14,vs,vb,vb,vb,y10,vl,vi,vb,vb,vb,vb,y16,vi,vb,vb,y14,vs,vb,vb,vb,y10,vl,vi,vb,vb,vb,vb,y16,vi,vb,vb,y14,vs,vb,vb,vb,y10,vl,vi,vb,vb,vb,vb,y16,vi,vb,vb,y14,vs,vb,vb,vb,y10,vl,vi,vb,vb],obs:=[(1,tl1)],tk:=[4,8,10,12,15,17,24,26,28,31,33,40,42,44,47,49,56,58,60,63,65,72,74,76,79,81],keep:=[(0,[1]),(1,[1,4]),(2,[1,4,5]),(3,[2]),(4,[1,4,21]),(5,[2]),(6,[1,4,37]),(7,[2]),(8,[1,4,53]),(9,[2]),(10,[1,69]),(11,[2]),(12,[2])] }
def F190:FA:= { n:=19,sh:=[vl,vj,vl,vl,vj,y23,vl,vi,vi,vb,y17,y2,vl,y2,y2,vl,vl,vi,vl],obs:=[(5,tl1)],tk:=[6,8,12,13,18],dp:=[15,16],keep:=[(0,[0]),(1,[0,3]),(2,[3,6,7,8]),(3,[3,6,7,8,9]),(4,[3,5,6,7,8]),(5,[3,6,7,8]),(6,[3,6,7,8]),(7,[2])] }
def F201:FA:= { n:=12,sh:=[y0,vl,vj,vj,vs,vl,y0,vl,vi,vi,y20,vs],obs:=[(1000000,tl3)],tk:=[6,7],keep:=[(0,[0,1]),(1,[4])] }
def F202:FA:= { n:=13,sh:=[y0,vj,y7,y8,y0,vl,y1,y0,vb,y0,y1,y1,y1],obs:=[(2,tl0),(3,tl0),(1000000,tl3)],tk:=[9,10,12],dp:=[5],fz:=[5,10],keep:=[(0,[0,2]),(1,[0,2,3]),(2,[0,2,3,8]),(3,[2,3]),(4,[2])] }
def F208:FA:= { n:=19,sh:=[vl,vs,vj,vj,vi,vi,vl,vi,vi,vb,vi,vs,vl,vi,y20,vs,vb,vi,vi],obs:=[],tk:=[8,17],keep:=[(0,[0,1]),(1,[0,1,7,8]),(2,[0,1,7,8,9]),(3,[0,1,5,7,8]),(4,[0,1,5,7,8,16]),(5,[4]),(6,[0,1,7,8]),(7,[4])] }
def F210:FA:= { n:=9,sh:=[vl,vs,vj,vj,vb,vl,vs,vi,vb],obs:=[],tk:=[5,6],keep:=[(0,[0,1]),(1,[4])] }
def F217:FA:= { n:=107,sh:=[vi,vi,vs,vi,vj,vj,vj,vj,vb,vi,vb,vb,vi,vb,vb,vs,vb,vb,vb,vi,vb,vb,vb,vb,vi,vb,vb,vs,vb,vb,vb,vi,vb,vb,vb,vb,vi,vb,vb,vs,vb,vb,vb,vi,vb,vb,vb,vb,vb,vi,vb,vb,vs,vb,vb,vb,vi,vb,vb,vb,vb,vi,vb,vb,vs,vb,vb,vb,vi,vb,vb,vb,vb,vi,vb,vb,vs,vb,vb,vb,vi,vb,vb,vb,vb,vi,vb,vb,vs,vb,vb,vb,vi,vb,vb,vb,vb,vi,vb,vb,vs,vb,vb,vb,vi,vb,vb],obs:=[],tk:=[9,12,14,15,18,19,24,26,27,30,31,36,38,39,42,43,49,51,52,55,56,61,63,64,67,68,73,75,76,79,80,85,87,88,91,92,97,99,100,103,104],keep:=[(0,[0,1,2,3]),(1,[1,2,3,9]),(2,[1,2,3,9,10]),(3,[8]),(4,[1,2,3,9,22]),(5,[8]),(6,[1,2,3,9,34]),(7,[8]),(8,[1,2,3,9,46]),(9,[1,2,3,9,46]),(10,[8]),(11,[1,2,3,9,59]),(12,[8]),(13,[1,2,3,9,71]),(14,[8]),(15,[1,2,3,9,83]),(16,[8]),(17,[1,2,3,95]),(18,[8]),(19,[8])] }
def F219:FA:= { n:=57,sh:=[y1,y11,y7,y8,vi,vi,y1,vl,y6,vl,y28,vi,y10,vl,vi,vb,vi,vi,y6,vl,y10,vl,vi,y12,y1,y1,vl,vl,y6,vi,y44,vl,vi,vb,vi,vi,y28,vl,y44,vl,vi,y37,y12,y1,y1,y44,vl,vi,y37,y12,y1,y1,y41,vl,vl,y28,y1],obs:=[(1,tl0),(2,tl0),(3,tl0)],tk:=[16,19,34,37,56],dp:=[7,9,26,27,53,54],keep:=[(0,[1,2]),(1,[1,2,3]),(2,[1,2,3]),(3,[1,2,3]),(4,[1,2,3,4]),(5,[1,2,3,4,15]),(6,[1,2,3,4]),(7,[1,2,3,4]),(8,[1,2,3,5]),(9,[1,2,3,5,33]),(10,[1,2,3,5]),(11,[1,2,3,5]),(12,[2])] }
def F220:FA:= { n:=13,sh:=[vs,vj,vb,vs,vb,vb,vs,vb,vb,vb,vs,vb,vb],obs:=[],tk:=[5,9,10],keep:=[(0,[0]),(1,[2])] }
def F230:FA:= { n:=15,sh:=[vi,vi,vi,vj,vj,vj,vb,vi,vi,vb,vb,vi,vi,vb,vb],obs:=[],tk:=[8,10,11,12],keep:=[(0,[0,1,2]),(1,[6])] }
def F237:FA:= { n:=9,sh:=[vy,vj,vb,vy,vb,vb,vy,vb,vb],obs:=[],tk:=[5,6],keep:=[(0,[0]),(1,[2])] }
def F238:FA:= { n:=9,sh:=[vy,vj,vb,vy,vb,vb,vy,vb,vb],obs:=[],tk:=[5,6],keep:=[(0,[0]),(1,[2])] }
def F245:FA:= { n:=134,sh:=[y1,vb,y7,vj,vb,vi,y29,vl,vi,y7,vi,vb,vb, .one (.ptr 2 4),vl,vi,vb,vb,vb,y7,vi,vb,vb,y35,vi,vb,vb,vb,y7,vi,vb,vb,y35,vi,vb,vb,y13,vs,vb,vb,vb,vi,vb,vb,vb,vb,y13,vs,vb,vb,vi,vb,vb,vb,vb,y13,vs,vb,vb,vi,vb,vb,vb,vb,vb,y13,vs,vb,vb,vb,vb,vb,vb,y13,vs,vb,vb,vi,vb,vb,vb,vb,y13,vs,vb,vb,vi,vb,vb,vb,vb,vb,vb,vb,y13,vs,vb,vb,vb,vi,vb,vb,vb,vb,vb,vb,vb,y13,vs,vb,vb,vb,vi,vb,vb,vb,vb,vb,vb,vb,y13,vs,vb,vb,vb,vi,vb,vb,vb, .one (.ptr 2 4),vl,vi,vb,vb],obs:=[(2,tl0)],tk:=[7,12,18,22,29,33,35,37,40,41,47,49,50,58,59,62,63,64,66,74,76,77,83,85,86,91,93,95,98,99,104,106,108,111,112,117,119,121,124,125,128,130],keep:=[(0,[1,2]),(1,[1,2,5]),(2,[1,2,5,27]),(3,[4]),(4,[1,2,5,29]),(5,[1,2,5,29,30]),(6,[4]),(7,[1,2,5,29,44]),(8,[4]),(9,[1,2,5,29,53]),(10,[4]),(11,[1,2,5,29,70]),(12,[1,2,5,29,70]),(13,[4]),(14,[1,2,5,29,80]),(15,[4]),(16,[1,2,5,29,89]),(17,[4]),(18,[1,2,5,29,102]),(19,[4]),(20,[1,2,5,115]),(21,[4]),(22,[4])] }
def F246:FA:= { n:=27,sh:=[y2,y11,y7,y8,vi,y2,vl,y6,vi,y10,vl,vi,vb,vi,vi,y6,vl,y10,vl,vi,y17,y2,y2,vl,vl,y6,y2],obs:=[(1,tl1),(2,tl1),(3,tl1)],tk:=[13,16,26],dp:=[6,23,24],keep:=[(0,[1,2]),(1,[1,2,3]),(2,[1,2,3]),(3,[1,2,3,4]),(4,[1,2,3,4,12]),(5,[1,2,3,4]),(6,[1,2,3,4]),(7,[2])] }
def F247:FA:= { n:=85,sh:=[y2,y11,vb,y11,vi,vb,vb,y16,vi,vb,vb,y14,vs,vb,vb,vb,y10,vl,vi,vb,vb,vb,vb,y14,vs,vb,vb,y16,vi,vb,vb,vb,y10,vl,vi,vb,vb,vb,vb,y16,vi,vb,vb,y14,vs,vb,vb,vb,y10,vl,vi,vb,vb,vb,vb,y16,vi,vb,vb,y14,vs,vb,vb,vb,y10,vl,vi,vb,vb,vb,vb,y16,vi,vb,vb,y14,vs,vb,vb,vb,y10,vl,vi,vb,vb],obs:=[(1,tl1)],tk:=[4,8,10,12,15,17,24,26,28,31,33,40,42,44,47,49,56,58,60,63,65,72,74,76,79,81],keep:=[(0,[1]),(1,[1,4]),(2,[1,4,5]),(3,[2]),(4,[1,4,21]),(5,[2]),(6,[1,4,37]),(7,[2]),(8,[1,4,53]),(9,[2]),(10,[1,69]),(11,[2]),(12,[2])] }
def F249:FA:= { n:=36,sh:=[vl,vj,vl,vi,vj,vl,vl,vj,vl,vl,vi,vi,vb, .one (.cp [.sl []]),vl,vi,vl,vi,vi,vi,vb, .one (.ifc true),vi,vi,vl,vl,vi,vi,vb, .one (.cp [.sl []]),vl,vl,vl,vl,vi,vl],obs:=[],tk:=[11,15,16,23,25,27,31,32,35],keep:=[(0,[0]),(1,[0,3]),(2,[0,3,9,10,11]),(3,[0,3,9,10,11,12]),(4,[0,3,5,9,10,11]),(5,[0,3,9,10,11]),(6,[0,3,9,10,11,20]),(7,[]),(8,[0,3,9,10,11]),(9,[0,6]),(10,[6,25,26,27]),(11,[6,25,26,27,28]),(12,[6,8,25,26,27]),(13,[6,25,26,27]),(14,[6,25,26,27]),(15,[2])] }
def F250:FA:= { n:=5,sh:=[vi,vj,y7,vi,y1],obs:=[(2,tl0)],tk:=[3],keep:=[(0,[0,2]),(1,[2])] }
def F251:FA:= { n:=5,sh:=[vs,vj,y7,vs,y1],obs:=[(2,tl0)],tk:=[3],keep:=[(0,[0,2]),(1,[2])] }
def F252:FA:= { n:=12,sh:=[y0,vl,vj,vj,vi,vl,y0,vl,vi,vi, .one (.cp [.int .i64 0]),vi],obs:=[(1000000,tl3)],tk:=[6,7],keep:=[(0,[0,1]),(1,[4])] }
def F253:FA:= { n:=58,sh:=[y0,vj,vi,vi,y0,y0,y0,y33,vi,vi,vi,y0,y33,y0,y0,y33,vi,vi,y0,y0,y33,vi,vi,vi,vi,y0,y0,y19,vi,y0,y0,y0,vl,vi,vb,vi,y0,y0,y0,vl,y0,y0,y19,vi, .one (.cp [.int .u8 0]),vy,vi,vi,vi,y0,y0,y0,y19,vi,vi,y0,y19,vi],obs:=[(1000000,tl3)],tk:=[8,35,50,53,57],keep:=[(0,[0]),(1,[0]),(2,[0,3]),(3,[0,3,34]),(4,[0,3]),(5,[3]),(6,[2])] }
def F254:FA:= { n:=74,sh:=[y0,y1,vj,y8,y5,y23,vi,y25,y1,y1,y0,vi,vb,vb,y0,vi,y8,vb,vb,y0,vl,vi,y32,vb,vb,y0,vl,vs,y18,vb,vb,y6,vl,y1,vl,vl,y6,vb,vb,y1,y1,y28,vl,y1,y1,y41,vl,vl,y28,vb,vb,vi,vb,vi,vi,y1,y1,vl,y1,vb,vb,y28,vl,vi,vb,y28, .one (.al (.oc 3 4) []),y1,y1,vl,y1,y45,y45,y1],obs:=[(3,tl0),(4,tl0),(5,tl0),(7,tl0),(1000000,tl3)],al:=[66],tk:=[8,14,19,25,32,42,44,53,55,56,73],dp:=[20,26,34,35,46,47,57,69],fz:=[20,26],keep:=[(0,[0,3,4]),(1,[0,3,4]),(2,[0,3,4,11]),(3,[0,3,4,11,12]),(4,[3,4]),(5,[0,3,4,11,17]),(6,[3,4]),(7,[0,3,4,11,23]),(8,[3,4]),(9,[3,4,11,29]),(10,[3,4]),(11,[3,4,11,37]),(12,[3,4,5]),(13,[3,4]),(14,[3,4,11,49]),(15,[3,4,6]),(16,[3,4,6,52]),(17,[3,4,6]),(18,[3,4,6,7]),(19,[3,4,6]),(20,[3,4,59]),(21,[3,4,64]),(22,[3,4]),(23,[4])] }
def F255:FA:= { n:=25,sh:=[vl,vl,y0,vj,vj,vj,vb,vi,vi,vl,vi,vb,vi,vi,vl,vi,y12,y1,vl,vi,y17,y2,y0,vb,vb],obs:=[(1000000,[.sl []])],tk:=[12],keep:=[(0,[0,1,2]),(1,[0,1,2,7]),(2,[0,1,2,7,11]),(3,[0,1,2,7]),(4,[0,1,2,7,24]),(5,[6]),(6,[6])] }
def F264:FA:= { n:=14,sh:=[y0,vl,vj,vj,y5,y23,y0,vl,y1,y1,vb,vb,y1,y1],obs:=[(4,tl0),(5,tl0),(1000000,tl3)],tk:=[6,7,13],keep:=[(0,[0,1,4]),(1,[4,5]),(2,[4,5,11]),(3,[4]),(4,[4])] }
def F266:FA:= { n:=36,sh:=[vs,vj,vb,vi,vi,vs,vi,vb,vi,vi,vs,vi,vy,vb,vb,vb,vi,vb,vb,vs,vi,vy,vb,vb,vb,vs,vi,vy,vb,vb,vb,vb,vb,vs,vi,vb],obs:=[],tk:=[8,15,18,24,33],keep:=[(0,[0]),(1,[0,3]),(2,[0,3,7]),(3,[0,3]),(4,[0,3,32]),(5,[2]),(6,[2])] }
def F267:FA:= { n:=6,sh:=[y1,y11,vb,y1,vi,vb],obs:=[(1,tl0)],tk:=[3],keep:=[(0,[1]),(1,[2])] }
def F268:FA:= { n:=23,sh:=[vs,vj,vb,vi,vi,vs,vi,vb,vi,vi,vs,vi,vy,vb,vb,vs,vi,vb,vb,vs,vy,vb,vb],obs:=[],tk:=[8,18,19],keep:=[(0,[0]),(1,[0,3]),(2,[0,3,7]),(3,[0,3]),(4,[0,3,14]),(5,[2]),(6,[2])] }
def F271:FA:= { n:=10,sh:=[vs,vj,vb,vs,vb,vb,vb,vb,vb,vb],obs:=[],tk:=[3],keep:=[(0,[0]),(1,[3]),(2,[3,4]),(3,[3,4]),(4,[3,4]),(5,[3,4]),(6,[4]),(7,[2]),(8,[2])] }
def F286:FA:= { n:=21,sh:=[vs,vj,vb,vs,vb,vb,vs,vb,vb,vb,vs,vb,vb,vb,vs,vb,vb,vb,vs,vb,vb],obs:=[],tk:=[5,9,13,17,18],keep:=[(0,[0]),(1,[2])] }
def F287:FA:= { n:=0,sh:=[],obs:=[],lb:=some ([[[.N]],[[.S]]],[[.A 4]],true) }
def F294:FA:= { n:=184,sh:=[y0,vi,vl,vj,vj,vj,y22,vi,y24,vi,y26,vi,vi, .one (.ptr 13 0),vi, .one (.ptr 15 0), .one (.ptr 16 0),y0,vi,vi,vb,y0,vi,vi,vb,vb,y0,vl,vi,y1,vb,vb,y0,vl,vs,y1,vb,vb,vb,vb,vl,vi,vb,vl,y0,vl,vi,vi,y20,vs,y1,y0,vi,y1,vb,vb,vb,y0,vl,vs,y0,vi,vi,vl,y1,y0,vi,vi,vl,y1,vl,y1,vb,vb,y0,vl,vi,y1,y0,vi,vi,vb,vi,vi,y27,vl,y0,vi,vi,vl,y1,vl,vl,y27,y1,vb,vb,y0,vi,vi,vl,y1,y0,vi,vi,vl,y1,vl,y1,vl,y1,vb,vb,y0,vl,vs,y1, .one (.ptr 10 2),vs,vb,vi,vi,vb,vi,vi, .one (.ptr 10 3),vl,y0,vi,vi,vl,y1,vl,vl, .one (.ptr 10 3),y1,y0,vi,vi,vl,y1,vl,y1,y0,vi,vi,vi,vb,vi,vi,vl,y0,y1,y38,vl,y1,y0,vi,vi,vl,vl,vl,vl,vl,y1,y41,vl,vl,y38,y0,vb,y38,vl,y1,y0,vi,vi,vl,y1,y41,vl,vl,y38,y1],obs:=[(6,tl0),(8,tl0),(10,tl0),(13,tl0),(15,[.sl []]),(16,tl0),(1000000,tl3)],tk:=[23,26,32,44,45,51,65,66,68,82,85,94,102,103,105,123,126,135,148,154,155,162,172,174,175,177,183],dp:=[27,33,58,70,75,91,92,107,109,114,132,133,141,150,159,161,163,166,167,180,181],fz:=[27,33,58,75,114,163],keep:=[(0,[0,1,2,6]),(1,[0,1,2,6,7]),(2,[0,1,2,6,7,20]),(3,[0,1,2,6,7]),(4,[0,1,2,6,23]),(5,[0,1,2,6,23,24]),(6,[6]),(7,[0,1,2,6,23,30]),(8,[6]),(9,[0,1,2,6,23,36]),(10,[0,1,2,6,23,36]),(11,[0,1,2,6,23,36]),(12,[0,2,6,42]),(13,[6]),(14,[6]),(15,[0,1,2,6,23,54]),(16,[0,1,2,6,23,54]),(17,[6]),(18,[0,1,2,6,23,72]),(19,[0,1,2,6,8]),(20,[0,1,2,6,8,9]),(21,[0,1,2,6,8,9,81]),(22,[0,1,2,6,8,9]),(23,[0,1,2,6,8,9]),(24,[6]),(25,[0,1,2,6,23,95]),(26,[6]),(27,[0,1,2,6,111]),(28,[0,1,2,6,10]),(29,[0,1,2,6,10,11]),(30,[0,1,2,6,10,11,119]),(31,[0,1,2,6,10,11]),(32,[0,1,2,6,10,11,12]),(33,[0,1,2,6,10,11,12,122]),(34,[0,1,2,6,10,11,12]),(35,[0,1,2,6,10,11,12]),(36,[6]),(37,[0,1,2,6,13]),(38,[0,1,2,6,13,14]),(39,[0,1,2,6,13,14,147]),(40,[0,1,2,6,13,14]),(41,[0,1,2,6,13,14,15]),(42,[0,1,2,6,13,14,15,16]),(43,[0,1,2,6,13,14]),(44,[0,1,2,6,13,170]),(45,[6,13]),(46,[6])] }
def F295:FA:= { n:=10,sh:=[vy,vj,vb,vy,vi,vb,vb,vy,vb,vb],obs:=[],tk:=[6,7],keep:=[(0,[0]),(1,[2])] }
def F296:FA:= { n:=6,sh:=[vy,vj,vb,vy,vi,vb],obs:=[],tk:=[3],keep:=[(0,[0]),(1,[2])] }
def F297:FA:= { n:=6,sh:=[vy,vj,vb,vy,vi,vb],obs:=[],tk:=[3],keep:=[(0,[0]),(1,[2])] }
def F298:FA:= { n:=13,sh:=[vy,vj,vb,vy,vb,vb,vy,vb,vb,vb,vy,vb,vb],obs:=[],tk:=[5,9,10],keep:=[(0,[0]),(1,[2])] }
def F299:FA:= { n:=13,sh:=[vy,vj,vb,vy,vb,vb,vy,vb,vb,vb,vy,vb,vb],obs:=[],tk:=[5,9,10],keep:=[(0,[0]),(1,[2])] }
def An:FuncId→FA
  | 4=>F4
  | 13=>F13
  | 16=>F16
  | 24=>F24
  | 25=>F25
  | 26=>F26
  | 27=>F27
  | 28=>F28
  | 29=>F29
  | 30=>F30
  | 74=>F74
  | 75=>F75
  | 76=>F76
  | 80=>F80
  | 81=>F81
  | 91=>F91
  | 92=>F92
  | 93=>F93
  | 94=>F94
  | 95=>F95
  | 96=>F96
  | 97=>F97
  | 98=>F98
  | 99=>F99
  | 123=>F123
  | 124=>F124
  | 130=>F130
  | 134=>F134
  | 138=>F138
  | 155=>F155
  | 159=>F159
  | 172=>F172
  | 173=>F173
  | 174=>F174
  | 175=>F175
  | 178=>F178
  | 179=>F179
  | 181=>F181
  | 182=>F182
  | 183=>F183
  | 184=>F184
  | 185=>F185
  | 186=>F186
  | 187=>F187
  | 188=>F188
  | 189=>F189
  | 190=>F190
  | 201=>F201
  | 202=>F202
  | 208=>F208
  | 210=>F210
  | 217=>F217
  | 219=>F219
  | 220=>F220
  | 230=>F230
  | 237=>F237
  | 238=>F238
  | 245=>F245
  | 246=>F246
  | 247=>F247
  | 249=>F249
  | 250=>F250
  | 251=>F251
  | 252=>F252
  | 253=>F253
  | 254=>F254
  | 255=>F255
  | 264=>F264
  | 266=>F266
  | 267=>F267
  | 268=>F268
  | 271=>F271
  | 286=>F286
  | 287=>F287
  | 294=>F294
  | 295=>F295
  | 296=>F296
  | 297=>F297
  | 298=>F298
  | 299=>F299
  | _=> { n:=0,sh:=[],obs:=[] }
abbrev sg4:Sg:= { bi:=x7,bo:=x0,np:=1,ext:=false }
abbrev sg13:Sg:= { bi:=x5,bo:=x9,np:=2,ext:=false }
abbrev sg16:Sg:= { bi:=x5,bo:=x12,np:=2 }
abbrev sg24:Sg:= { bi:=x7,bo:=x0,np:=1,ext:=false }
abbrev sg25:Sg:= { bi:=x7,bo:=⟨[(0,[[.S, .S, .S, .F, .F],[.F]])],[]⟩,np:=1 }
abbrev sg26:Sg:= { bi:=x3,bo:=x0,np:=1,ext:=false }
abbrev sg27:Sg:= { bi:=x14,bo:=x15,np:=2,ext:=false }
abbrev sg28:Sg:= { bi:=x3,bo:=x0,np:=1,ext:=false }
abbrev sg29:Sg:= { bi:=x8,bo:=x9,np:=2,ext:=false }
abbrev sg30:Sg:= { bi:=⟨[(0,[[.S, .S, .S, .F]]),(1,[[.S, .S, .S, .F]])],[]⟩,bo:=x0,np:=2,ext:=false }
abbrev sg74:Sg:= { bi:=x6,bo:=x0,np:=1,ext:=false }
abbrev sg75:Sg:= { bi:=x5,bo:=x9,np:=2,ext:=false }
abbrev sg76:Sg:= { bi:=x3,bo:=x0,np:=1,ext:=false }
abbrev sg80:Sg:= { bi:=x6,bo:=x0,np:=1,ext:=false }
abbrev sg81:Sg:= { bi:=x5,bo:=x12,np:=2 }
abbrev sg91:Sg:= { bi:=x7,bo:=⟨[(0,[[.S]])],[(0,[.F, .S, .S])]⟩,np:=1 }
abbrev sg92:Sg:= { bi:=x7,bo:=⟨[(0,[[.S, .S, .S, .F, .F],[.S, .S, .S, .U 4]])],[]⟩,np:=1 }
abbrev sg93:Sg:= { bi:=x14,bo:=⟨[(0,[[.A 5],[.S]])],[]⟩,np:=2 }
abbrev sg94:Sg:= { bi:=x10,bo:=x1,np:=2,no:=1 }
abbrev sg95:Sg:= { bi:=x1,bo:=x4,np:=1,no:=1 }
abbrev sg96:Sg:= { bi:=⟨[(0,[[.S, .S, .S, .F, .F]]),(1,[[.S, .S, .S, .F]]),(2,[[.U 5]])],[]⟩,bo:=x15,np:=3 }
abbrev sg97:Sg:= { bi:=⟨[(0,[[.S, .S, .S, .F]]),(1,[[.S]])],[]⟩,bo:=x0,np:=2,ext:=false }
abbrev sg98:Sg:= { bi:=x3,bo:=x19,np:=1,ext:=false }
abbrev sg99:Sg:= { bi:=⟨[(0,[[.F]]),(1,[[.F]]),(2,[[.S]])],[]⟩,bo:=x0,np:=3,ext:=false }
abbrev Sr:Sg:= { bi:=x8,bo:=x0,np:=2,ext:=false }
abbrev Sq:Sg:= { bi:=x7,bo:=x0,np:=1,ext:=false }
abbrev Sp:Sg:= { bi:=x16,bo:=x0,np:=3,ext:=false }
abbrev So:Sg:= { bi:=x0,bo:=x0,np:=1,ext:=false }
abbrev Sn:Sg:= { bi:=x0,bo:=x0,np:=1,ext:=false }
abbrev Sm:Sg:= { bi:=x0,bo:=x0,np:=1,ext:=false }
abbrev Sl:Sg:= { bi:=x0,bo:=x0,np:=1,ext:=false }
abbrev Sk:Sg:= { bi:=⟨[(0,[[.S, .S, .S, .F, .F]]),(1,[[.S]]),(2,[[.S]]),(3,[[.S]])],[]⟩,bo:=x0,np:=4,ext:=false }
abbrev Sj:Sg:= { bi:=x6,bo:=⟨[(0,[[.U 1]])],[]⟩,np:=1,ext:=false }
abbrev Si:Sg:= { bi:=x8,bo:=x9,np:=2,ext:=false }
abbrev Sh:Sg:= { bi:=⟨[(0,[[.S, .S, .S, .F]]),(1,[[.S]]),(2,[[.S]])],[]⟩,bo:=x0,np:=3,ext:=false }
abbrev Sf:Sg:= { bi:=⟨[(0,[[.S]]),(1,[[.S, .S, .S, .F, .F]]),(2,[[.S]])],[(1000000,[.S, .A 1])]⟩,bo:=⟨[(0,[[.S]])],[(1000000,[.S, .A 1])]⟩,np:=3,no:=1 }
abbrev Se:Sg:= { bi:=x7,bo:=x12,np:=1 }
abbrev Sd:Sg:= { bi:=⟨[(0,[[.S]]),(1,[[.S]]),(2,[[.S]])],[(1000000,[.F, .S, .S]),(1000001,[.A 1])]⟩,bo:=⟨[(0,[[.S, .S, .S, .U 5, .N]])],[(1000000,[.F, .S, .S]),(1000001,[.A 1])]⟩,np:=3,no:=2 }
abbrev Sc:Sg:= { bi:=x13,bo:=x4,np:=2,no:=1 }
abbrev Sb:Sg:= { bi:=x10,bo:=x1,np:=2,no:=1 }
abbrev Sa:Sg:= { bi:=x1,bo:=⟨[(0,[[.S, .S, .S, .F, .F]])],[(1000000,[.F, .S, .S])]⟩,np:=1,no:=1 }
abbrev SZ:Sg:= { bi:=⟨[(0,[[.S, .S, .S, .F, .F]]),(1,[[.S, .S, .S, .F]]),(2,[[.S]])],[(1000000,[.A 5])]⟩,bo:=x17,np:=3,no:=1 }
abbrev SY:Sg:= { bi:=x10,bo:=x4,np:=2,no:=1 }
abbrev SX:Sg:= { bi:=⟨[(0,[[.S]]),(1,[[.S, .S, .S, .F]])],[(1000000,[.F, .S, .S])]⟩,bo:=x4,np:=2,no:=1 }
abbrev SW:Sg:= { bi:=⟨[(0,[[.F]]),(1,[[.F]]),(2,[[.U 5]])],[]⟩,bo:=x15,np:=3 }
abbrev SV:Sg:= { bi:=x3,bo:=x0,np:=1,ext:=false }
abbrev SU:Sg:= { bi:=x7,bo:=⟨[(0,[[.U 4]])],[]⟩,np:=1,ext:=false }
abbrev ST:Sg:= { bi:=x11,bo:=x1,np:=2,no:=1 }
abbrev SR:Sg:= { bi:=x1,bo:=x2,np:=1,no:=1 }
abbrev SQ:Sg:= { bi:=x8,bo:=x0,np:=2,ext:=false }
abbrev SP:Sg:= { bi:=x8,bo:=x0,np:=2,ext:=false }
abbrev SO:Sg:= { bi:=⟨[(0,[[.S]]),(1,[[.S]]),(2,[[.S]]),(3,[[.S]])],[]⟩,bo:=x0,np:=4,ext:=false }
abbrev SN:Sg:= { bi:=x6,bo:=⟨[(0,[[.S, .S, .S, .U 5, .U 10]])],[]⟩,np:=1,ext:=false }
abbrev SM:Sg:= { bi:=x0,bo:=x0,np:=1,ext:=false }
abbrev SL:Sg:= { bi:=x16,bo:=x0,np:=3,ext:=false }
abbrev SK:Sg:= { bi:=x0,bo:=x0,np:=1,ext:=false }
abbrev SJ:Sg:= { bi:=x0,bo:=x0,np:=1,ext:=false }
abbrev SI:Sg:= { bi:=⟨[(0,[[.S, .S, .S, .F, .F]]),(1,[[.S]])],[]⟩,bo:=x0,np:=2,ext:=false }
abbrev SH:Sg:= { bi:=x3,bo:=x19,np:=1,ext:=false }
abbrev SG:Sg:= { bi:=x3,bo:=x0,np:=1,ext:=false }
abbrev SF:Sg:= { bi:=x7,bo:=⟨[(0,[[.A 4]])],[]⟩,np:=1 }
abbrev SE:Sg:= { bi:=x0,bo:=x18,np:=1,ext:=false }
abbrev SC:Sg:= { bi:=x0,bo:=x18,np:=1,ext:=false }
abbrev SB:Sg:= { bi:=x11,bo:=x1,np:=2,no:=1 }
abbrev SA:Sg:= { bi:=x1,bo:=x1,np:=1,no:=1 }
abbrev Rz:Sg:= { bi:=x13,bo:=x2,np:=2,no:=1 }
abbrev Ry:Sg:= { bi:=⟨[(0,[[.F]]),(1,[[.F]]),(2,[[.S]])],[(1000000,[.A 5])]⟩,bo:=x17,np:=3,no:=1 }
abbrev Rx:Sg:= { bi:=x11,bo:=x2,np:=2,no:=1 }
abbrev Rw:Sg:= { bi:=x0,bo:=x0,np:=1,ext:=false }
abbrev Rv:Sg:= { bi:=x6,bo:=x0,np:=1,ext:=false }
abbrev Ru:Sg:= { bi:=x0,bo:=x0,np:=1,ext:=false }
abbrev Rt:Sg:= { bi:=x0,bo:=x0,np:=1,ext:=false }
abbrev Rs:Sg:= { bi:=x0,bo:=x0,np:=1,ext:=false }
abbrev Rr:Sg:= { bi:=⟨[(0,[[.N]]),(1,[[.S]])],[]⟩,bo:=⟨[(0,[[.A 4]])],[]⟩,np:=2 }
abbrev Rq:Sg:= { bi:=⟨[(0,[[.S]]),(1,[[.S]]),(2,[[.F]])],[(1000000,[.F, .S, .S])]⟩,bo:=x2,np:=3,no:=1 }
abbrev Rp:Sg:= { bi:=x0,bo:=x0,np:=1,ext:=false }
abbrev Ro:Sg:= { bi:=x0,bo:=x0,np:=1,ext:=false }
abbrev Rn:Sg:= { bi:=x0,bo:=x0,np:=1,ext:=false }
abbrev Rm:Sg:= { bi:=x0,bo:=x0,np:=1,ext:=false }
abbrev Rl:Sg:= { bi:=x0,bo:=x0,np:=1,ext:=false }
def Sgs:FuncId→List Sg
  | 4=> [sg4]
  | 13=> [sg13]
  | 16=> [sg16]
  | 24=> [sg24]
  | 25=> [sg25]
  | 26=> [sg26]
  | 27=> [sg27]
  | 28=> [sg28]
  | 29=> [sg29]
  | 30=> [sg30]
  | 74=> [sg74]
  | 75=> [sg75]
  | 76=> [sg76]
  | 80=> [sg80]
  | 81=> [sg81]
  | 91=> [sg91]
  | 92=> [sg92]
  | 93=> [sg93]
  | 94=> [sg94]
  | 95=> [sg95]
  | 96=> [sg96]
  | 97=> [sg97]
  | 98=> [sg98]
  | 99=> [sg99]
  | 123=> [Sr]
  | 124=> [Sq]
  | 130=> [Sp]
  | 134=> [So]
  | 138=> [Sn]
  | 155=> [Sm]
  | 159=> [Sl]
  | 172=> [Sk]
  | 173=> [Sj]
  | 174=> [Si]
  | 175=> [Sh]
  | 178=> [Sf]
  | 179=> [Se]
  | 181=> [Sd]
  | 182=> [Sc]
  | 183=> [Sb]
  | 184=> [Sa]
  | 185=> [SZ]
  | 186=> [SY]
  | 187=> [SX]
  | 188=> [SW]
  | 189=> [SV]
  | 190=> [SU]
  | 201=> [ST]
  | 202=> [SR]
  | 208=> [SQ]
  | 210=> [SP]
  | 217=> [SO]
  | 219=> [SN]
  | 220=> [SM]
  | 230=> [SL]
  | 237=> [SK]
  | 238=> [SJ]
  | 245=> [SI]
  | 246=> [SH]
  | 247=> [SG]
  | 249=> [SF]
  | 250=> [SE]
  | 251=> [SC]
  | 252=> [SB]
  | 253=> [SA]
  | 254=> [Rz]
  | 255=> [Ry]
  | 264=> [Rx]
  | 266=> [Rw]
  | 267=> [Rv]
  | 268=> [Ru]
  | 271=> [Rt]
  | 286=> [Rs]
  | 287=> [Rr]
  | 294=> [Rq]
  | 295=> [Rp]
  | 296=> [Ro]
  | 297=> [Rn]
  | 298=> [Rm]
  | 299=> [Rl]
  | _=> []
end Go.Own
