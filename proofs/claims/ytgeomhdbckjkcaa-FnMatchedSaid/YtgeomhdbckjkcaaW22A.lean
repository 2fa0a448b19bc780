/- What is told of the functions: shapes and kinds. No conditions. -/
import Derived.Test.YtgeomhdbckjkcaaProg
import Derived.KernelRfl
import Derived.WalkKit
import Derived.Lib.Walk
import Derived.Lib.SliceRun
import Derived.Lib.AppendZerosOnto
import Derived.Shelf.RegionOpenPlain
import Derived.Test.YtgeomhdbckjkcaaOwn4
set_option linter.unusedVariables false
set_option linter.unusedSimpArgs false
set_option linter.unnecessarySimpa false
namespace Go.Own
open Go Go.Proofs
def τ:TypeId→Option TI
  | 3=>some { size:=1,bytes:=8,zero:=[.int .i64 0],agg:=false,kind:= .int .i64 }
  | 4=>some { size:=1,bytes:=1,zero:=[.bool false],agg:=false,kind:= .bool }
  | 5=>some { size:=1,bytes:=1,zero:=[.int .u8 0],agg:=false,kind:= .int .u8 }
  | 9=>some { size:=1,bytes:=16,zero:=[.str []],agg:=false,kind:= .str }
  | 62=>some { size:=1,bytes:=24,zero:=[.sl []],agg:=false,kind:= .sl 64 }
  | 64=>some { size:=4,bytes:=56,zero:=[.int .i64 0, .int .i64 0, .str [], .sl []],agg:=true,kind:= .struct [(0,1,false),(1,1,false),(2,1,false),(3,1,false)] }
  | 67=>some { size:=1,bytes:=24,zero:=[.sl []],agg:=false,kind:= .sl 70 }
  | 68=>some { size:=1,bytes:=24,zero:=[.sl []],agg:=false,kind:= .sl 223 }
  | 70=>some { size:=5,bytes:=80,zero:=[.int .i64 0, .int .i64 0, .str [], .sl [], .sl []],agg:=true,kind:= .struct [(0,1,false),(1,1,false),(2,1,false),(3,1,false),(4,1,false)] }
  | 80=>some { size:=1,bytes:=24,zero:=[.sl []],agg:=false,kind:= .sl 5 }
  | 84=>some { size:=1,bytes:=24,zero:=[.sl []],agg:=false,kind:= .sl 103 }
  | 98=>some { size:=1,bytes:=24,zero:=[.sl []],agg:=false,kind:= .sl 9 }
  | 103=>some { size:=5,bytes:=72,zero:=[.str [], .int .i64 0, .int .i64 0, .str [], .sl []],agg:=true,kind:= .struct [(0,1,false),(1,4,true)] }
  | 112=>some { size:=1,bytes:=24,zero:=[.sl []],agg:=false,kind:= .sl 3 }
  | 223=>some { size:=10,bytes:=160,zero:=[.int .i64 0, .int .i64 0, .str [], .sl [], .sl [], .int .i64 0, .int .i64 0, .str [], .sl [], .sl []],agg:=true,kind:= .struct [(0,5,true),(5,5,true)] }
  | 238=>some { size:=3,bytes:=40,zero:=[.sl [], .int .i64 0, .int .i64 0],agg:=true,kind:= .struct [(0,1,false),(1,1,false),(2,1,false)] }
  | 243=>some { size:=2,bytes:=32,zero:=[.int .i64 0, .sl []],agg:=true,kind:= .struct [(0,1,false),(1,1,false)] }
  | 305=>some { size:=1,bytes:=24,zero:=[.sl []],agg:=false,kind:= .sl 62 }
  | _=>none
set_option maxRecDepth 100000 in
theorem Qs:aY Try.prog τ:=by
  intro t i h
  unfold τ at h
  split at h<;>(try cases h)
  · exact⟨_,_,_,rfl,rfl,rfl,rfl,rfl,rfl,rfl,by decide,rfl,rfl⟩
  · exact⟨_,_,_,rfl,rfl,rfl,rfl,rfl,rfl,rfl,by decide,rfl,rfl⟩
  · exact⟨_,_,_,rfl,rfl,rfl,rfl,rfl,rfl,rfl,by decide,rfl,rfl⟩
  · exact⟨_,_,_,rfl,rfl,rfl,rfl,rfl,rfl,rfl,by decide,rfl,rfl⟩
  · exact⟨_,_,_,rfl,rfl,rfl,rfl,rfl,rfl,rfl,by decide,rfl,rfl⟩
  · refine⟨_,_,_,rfl,rfl,rfl,rfl,rfl,rfl,rfl,by decide,rfl,_,rfl,rfl,fun j f hf=> ?_⟩
    match j with
    | 0=>simp at hf; subst hf; exact⟨_,_,rfl,rfl,rfl,rfl,by decide,rfl,rfl⟩
    | 1=>simp at hf; subst hf; exact⟨_,_,rfl,rfl,rfl,rfl,by decide,rfl,rfl⟩
    | 2=>simp at hf; subst hf; exact⟨_,_,rfl,rfl,rfl,rfl,by decide,rfl,rfl⟩
    | 3=>simp at hf; subst hf; exact⟨_,_,rfl,rfl,rfl,rfl,by decide,rfl,rfl⟩
    | j+4=>simp at hf
  · exact⟨_,_,_,rfl,rfl,rfl,rfl,rfl,rfl,rfl,by decide,rfl,rfl⟩
  · exact⟨_,_,_,rfl,rfl,rfl,rfl,rfl,rfl,rfl,by decide,rfl,rfl⟩
  · refine⟨_,_,_,rfl,rfl,rfl,rfl,rfl,rfl,rfl,by decide,rfl,_,rfl,rfl,fun j f hf=> ?_⟩
    match j with
    | 0=>simp at hf; subst hf; exact⟨_,_,rfl,rfl,rfl,rfl,by decide,rfl,rfl⟩
    | 1=>simp at hf; subst hf; exact⟨_,_,rfl,rfl,rfl,rfl,by decide,rfl,rfl⟩
    | 2=>simp at hf; subst hf; exact⟨_,_,rfl,rfl,rfl,rfl,by decide,rfl,rfl⟩
    | 3=>simp at hf; subst hf; exact⟨_,_,rfl,rfl,rfl,rfl,by decide,rfl,rfl⟩
    | 4=>simp at hf; subst hf; exact⟨_,_,rfl,rfl,rfl,rfl,by decide,rfl,rfl⟩
    | j+5=>simp at hf
  · exact⟨_,_,_,rfl,rfl,rfl,rfl,rfl,rfl,rfl,by decide,rfl,rfl⟩
  · exact⟨_,_,_,rfl,rfl,rfl,rfl,rfl,rfl,rfl,by decide,rfl,rfl⟩
  · exact⟨_,_,_,rfl,rfl,rfl,rfl,rfl,rfl,rfl,by decide,rfl,rfl⟩
  · refine⟨_,_,_,rfl,rfl,rfl,rfl,rfl,rfl,rfl,by decide,rfl,_,rfl,rfl,fun j f hf=> ?_⟩
    match j with
    | 0=>simp at hf; subst hf; exact⟨_,_,rfl,rfl,rfl,rfl,by decide,rfl,rfl⟩
    | 1=>simp at hf; subst hf; exact⟨_,_,rfl,rfl,rfl,rfl,by decide,rfl,rfl⟩
    | j+2=>simp at hf
  · exact⟨_,_,_,rfl,rfl,rfl,rfl,rfl,rfl,rfl,by decide,rfl,rfl⟩
  · refine⟨_,_,_,rfl,rfl,rfl,rfl,rfl,rfl,rfl,by decide,rfl,_,rfl,rfl,fun j f hf=> ?_⟩
    match j with
    | 0=>simp at hf; subst hf; exact⟨_,_,rfl,rfl,rfl,rfl,by decide,rfl,rfl⟩
    | 1=>simp at hf; subst hf; exact⟨_,_,rfl,rfl,rfl,rfl,by decide,rfl,rfl⟩
    | j+2=>simp at hf
  · refine⟨_,_,_,rfl,rfl,rfl,rfl,rfl,rfl,rfl,by decide,rfl,_,rfl,rfl,fun j f hf=> ?_⟩
    match j with
    | 0=>simp at hf; subst hf; exact⟨_,_,rfl,rfl,rfl,rfl,by decide,rfl,rfl⟩
    | 1=>simp at hf; subst hf; exact⟨_,_,rfl,rfl,rfl,rfl,by decide,rfl,rfl⟩
    | 2=>simp at hf; subst hf; exact⟨_,_,rfl,rfl,rfl,rfl,by decide,rfl,rfl⟩
    | j+3=>simp at hf
  · refine⟨_,_,_,rfl,rfl,rfl,rfl,rfl,rfl,rfl,by decide,rfl,_,rfl,rfl,fun j f hf=> ?_⟩
    match j with
    | 0=>simp at hf; subst hf; exact⟨_,_,rfl,rfl,rfl,rfl,by decide,rfl,rfl⟩
    | 1=>simp at hf; subst hf; exact⟨_,_,rfl,rfl,rfl,rfl,by decide,rfl,rfl⟩
    | j+2=>simp at hf
  · exact⟨_,_,_,rfl,rfl,rfl,rfl,rfl,rfl,rfl,by decide,rfl,rfl⟩
end Go.Own
namespace Go.Proofs
open Go.RowKit Go.Lib
set_option linter.unusedVariables false
set_option linter.unusedSimpArgs false
set_option maxHeartbeats 4000000 in
set_option maxRecDepth 100000 in
theorem QU(base:Option Addr)(w:World):Calls Try.prog 266 #[.slice base 0 0, .int .i64 0] w fun e w'=>e= .returned (.slice base 0 0)∧w'=w:=by
  have h2:wrap64 ((0:Int) - (0:Int))=0:=by unfold wrap64; omega
  go_enter Try.func266,Try.ntmps266
  go_wp2
  all_goals (go_ret; exact⟨rfl,rfl⟩)
set_option maxHeartbeats 4000000 in
set_option maxRecDepth 100000 in
theorem QV(base:Option Addr)(n:Nat)(w:World)(i0:TypeInfo)(z:Value)(hi0:Try.prog.info? 64=some i0)(hz0:i0.zero=some z)(hs0:0<i0.size)(hu:Try.prog.underlying 62=some (.slice 64))(hu3:Try.prog.underlying 3=some (.int .i64))(hn:0<n)(hbig:n*i0.bytes≤140737488355328)(h63:n≤4611686018427387904):
    Calls Try.prog 266 #[.slice base 0 0, .int .i64 n] w fun e w'=>
      e= .returned (.slice (some ⟨w.heap.size,0,none⟩) 0 (grownCap w n 0 64))∧
      w'=w.drew.alloc (.cells (#[]++Builtin.zeroCells z.cells n++Builtin.zeroCells z.cells (grownCap w n 0 64 - n)) 64):=by
  have h1: ¬ ((n:Int)<0):=by omega
  have h2:wrap64 ((0:Int) - (0:Int))=0:=by unfold wrap64; omega
  have h3:wrap64 ((n:Int) - 0)=(n:Int):=by unfold wrap64; omega
  have h4:(n:Int) > 0:=by omega
  have hold:(Builtin.firstCells i0.size 0 (.slice base 0 0)).run Try.prog w.drew= .ok #[] w.drew:=by
    cases base with
    | none=>exact run_firstCells_none w.drew i0.size 0 0 0
    | some a=>exact run_firstCells_some w.drew i0.size 0 a 0 0 [] (by simp) (fun j v hj=>by simp at hj)
  have hrz: ∀ty,(Builtin.append_ #[62,3] ty #[.slice base 0 0, .int .i64 (n:Int)]).run Try.prog w=
      .ok (.slice (some ⟨w.heap.size,0,none⟩) n (grownCap w n 0 64)) (w.drew.alloc (.cells (#[]++Builtin.zeroCells z.cells n++Builtin.zeroCells z.cells (grownCap w n 0 64 - n)) 64)):=fun ty=>by
    have h:=Lib.run_append_grow_zeros w 62 3 ty 64 i0 z .i64 .i64 hu hu3 hi0 hz0 base 0 0 [] hold n hn hs0 (by omega) (by omega) (by omega) (by
      rw[Nat.zero_add]
      exact @growslice_fits n 0 i0.bytes (by omega) hbig)
    rw[Nat.zero_add]at h
    exact h
  have hGn:n≤grownCap w n 0 64:=grownCap_ge w _ _ _
  obtain⟨G,hG⟩: ∃G,G=grownCap w n 0 64:=⟨_,rfl⟩
  rw[←hG]at hrz hGn ⊢
  have hG63:G≤9223372036854775807:=by
    have:=grownCap_le_maxLen w n 0 64 (by unfold maxLen; omega)
    rw[←hG]at this
    unfold maxLen at this
    omega
  clear hold hG
  go_enter Try.func266,Try.ntmps266
  cases base with
  | none=>
    go_wp2_with (at_builtin; refine Lib.wpList_append_run _ rfl _ _ _ _ rfl _ _ rfl rfl _ _ (hrz _) ?_)
    all_goals (go_ret; exact⟨rfl,rfl⟩)
  | some a=>
    obtain⟨ab,ao,asp⟩:=a
    go_wp2_with (at_builtin; refine Lib.wpList_append_run _ rfl _ _ _ _ rfl _ _ rfl rfl _ _ (hrz _) ?_)
    all_goals (go_ret; exact⟨rfl,rfl⟩)
end Go.Proofs
namespace Go.Own
open Go Go.Proofs
set_option maxRecDepth 100000 in
theorem UH{τ:TypeId→Option TI}(hT:aY Try.prog τ){e3:TI}{ei es:TI}(h3:τ 3=some e3)(k3:e3.kind= .int .i64)(hS:τ 62=some es)(kS:es.kind= .sl 64)(hE:τ 64=some ei){s:Nat}(hs:ei.size=s){n:Int}{ext:Bool}(h0:0≤n)(hb:n*ei.bytes≤140737488355328)(h63:n≤4611686018427387904):
    TC Try.prog 266 (PK ([[[.N]],[[.S]]],[[.A s]],ext)) [.one (.c (.sl [])), .one (.c (.int .i64 n))] [] (.one (.c (.sl []))) none [] none:=by
  obtain⟨info,de,z0,q1,q2,q3,q4,q5,q6,q7,q8,q9⟩:=hT.get hE
  obtain⟨dS,hdS,rfl⟩:=jI hT (show tk τ 62=some (.sl 64)by unfold tk; rw[hS]; exact congrArg some kS)
  obtain⟨d3,hd3,rfl⟩:=jI hT (show tk τ 3=some (.int .i64)by unfold tk; rw[h3]; exact congrArg some k3)
  obtain⟨ze,_⟩:=iR q6
  refine aAT Try.func266 rfl (by decide) (fun base w=> ?_)
  by_cases hz:n=0
  · subst hz
    exact(QU base w).mono fun e w' h=> .inl h
  · obtain⟨k,rfl⟩: ∃k:Nat,n=k:=⟨n.toNat,by omega⟩
    refine(QV base k w info z0 q1 q5 (by rw[q3]; exact q8) hdS hd3 (by omega) (by rw[q4]; exact Int.ofNat_le.1 (by rw[Int.natCast_mul]; exact hb)) (by omega)).mono ?_
    rintro e w' ⟨rfl,rfl⟩
    have hG:=grownCap_ge w k 0 64
    refine .inr ⟨_,_,_,rfl,grownCap_le_maxLen w k 0 64 (by simp only[maxLen]; omega), ?_,rfl⟩
    have hzs:z0.cells.size=s:=by
      simp only[Array.length_toList]at ze
      omega
    simp only[Array.size_append,size_zeroCells,hzs,List.size_toArray,List.length_nil,Nat.zero_add]
    rw[←Nat.add_mul]
    congr 1
    omega
end Go.Own
namespace Go.Own
open Go Go.Proofs
abbrev vi:V:= .one (.c (.int .i64 0))
abbrev vy:V:= .one (.c (.int .u8 0))
abbrev vb:V:= .one (.c (.bool false))
abbrev vl:V:= .one (.c (.sl []))
abbrev vs:V:= .one (.c (.str []))
abbrev vj:V:= .one .junk
abbrev tl0:List T:=[.int .i64 0, .int .i64 0, .str [], .sl [], .sl []]
abbrev tl1:List T:=[.int .i64 0, .int .i64 0, .str [], .sl []]
abbrev tl2:List T:=[.int .i64 0, .int .i64 0, .str [], .sl [], .sl [], .int .i64 0, .int .i64 0, .str [], .sl [], .sl []]
abbrev tl3:List T:=[.sl [], .int .i64 0, .int .i64 0]
abbrev tl4:List T:=[.str [], .int .i64 0, .int .i64 0, .str [], .sl []]
def F10:FA:= { n:=114,sh:=[vl,vj,vb, .one (.ptr 3 0), .one (.ptr 4 0),vl,vb,vl,vb,vl,vi, .one (.ptr 11 0),vb, .one (.ptr 13 0),vb,vl,vb, .tup [.ag tl0, .ag tl1],vl, .tup [.ag tl0, .ag tl1], .one (.ag tl0), .one (.ag tl1), .tup [.c (.sl []), .c (.bool false)], .one (.ag tl0), .one (.ag tl1), .tup [.c (.sl []), .c (.bool false)],vl,vb, .tup [.c (.sl []), .c (.bool false)], .one (.ag tl0), .one (.ag tl1), .tup [.c (.sl []), .c (.bool false)],vl,vb,vb,vb,vb,vb,vb,vb,vb,vb,vb,vb,vb,vl,vi,vb,vb, .one (.ag tl0),vl,vl,vi,vl,vi,vb,vi,vl,vi,vb,vi,vi, .tup [.ag tl1, .c (.bool false)],vl,vl,vi, .one (.cp tl4), .one (.cp [.str []]),vs, .tup [.ag tl1, .c (.bool false)], .one (.ag tl1),vb,vl,vi, .one (.cp tl4), .one (.cp [.str []]),vs,vl,vi, .one (.cp [.str []]),vs,vb,vb,vb,vb,vb,vb, .one (.ag tl1),vl,vi, .one (.cp tl4), .one (.cp tl1), .one (.ag tl1),vb,vb,vb,vb, .one (.ag tl1),vb,vb,vb, .tup [.ag tl1, .c (.bool false)], .one (.ag tl0),vl, .tup [.ag tl1, .c (.bool false)], .one (.ag tl1),vb,vb,vb,vb, .one (.ag tl1), .one (.ag tl1),vb,vb],obs:=[(3,tl0),(4,tl1),(11,tl1),(13,tl1)],tk:=[17,18,22,28,37,41,42,44,45,60,62,82,83,86,96,97,101,102,103,107,109,110,111],fz:=[103],keep:=[(0,[0]),(1,[0,16]),(2,[2]),(3,[3,4]),(4,[3,4,5,6]),(5,[3,4,5,6,8]),(6,[3,4,5,6,8,40]),(7,[2]),(8,[3,4,5,9]),(9,[3,4,5,9,55]),(10,[2]),(11,[3,4,5,9,10]),(12,[3,4,5,9,10,59]),(13,[3,4,5,9,10]),(14,[3,4,5,9,10,11,12]),(15,[3,4,5,9,10,100]),(16,[2]),(17,[4,13,14]),(18,[2])] }
def F45:FA:= { n:=6,sh:=[vl,vj,vb,vl,vi,vb],obs:=[],tk:=[3],keep:=[(0,[0]),(1,[2])] }
def F48:FA:= { n:=31,sh:=[.one (.ag tl1), .one (.ag tl1), .one (.ptr 2 0), .one (.ptr 3 0),vb, .one (.ptr 2 0),vi, .one (.ptr 3 0),vi,vb,vb, .one (.ptr 2 1),vi, .one (.ptr 3 1),vi,vb,vb,vb, .one (.ptr 2 2),vs, .one (.ptr 3 2),vs,vb,vb,vb, .one (.ptr 2 3),vl, .one (.ptr 3 3),vl,vb,vb],obs:=[(2,tl1),(3,tl1)],tk:=[6,8,10,12,14,17,19,21,24,26,28],keep:=[(0,[2,3]),(1,[4])] }
def F49:FA:= { n:=25,sh:=[.one (.ag tl0), .one (.ag tl1), .one (.ptr 2 0), .one (.ptr 3 0),vl,vb,vl,vb, .one (.ag tl0),vb,vb,vb, .one (.ag tl1),vb,vb,vb, .tup [.c (.sl []), .c (.bool false)], .one (.ag tl0), .one (.ag tl1), .tup [.c (.sl []), .c (.bool false)],vl,vb,vb,vb,vl],obs:=[(2,tl0),(3,tl1)],tk:=[11,16,17,18,22,24],keep:=[(0,[2,3]),(1,[2,3,15]),(2,[4,5]),(3,[6,7]),(4,[6,23]),(5,[4,5]),(6,[4,5])] }
def F51:FA:= { n:=24,sh:=[.one (.ag tl0), .one (.ag tl1), .one (.ptr 2 0), .one (.ptr 3 0),vl,vb, .one (.ptr 6 0),vl, .one (.ag tl0),vb,vb,vb, .one (.ag tl1),vb,vb,vb,vb, .one (.ag tl0), .one (.ag tl1),vb,vb,vb,vl,vl],obs:=[(2,tl0),(3,tl1),(6,[.sl []])],tk:=[11,16,17,18,23],dp:=[7,22],keep:=[(0,[2,3]),(1,[2,3,6]),(2,[6,21]),(3,[4,5]),(4,[4,5])] }
def F58:FA:= { n:=28,sh:=[vl,vj, .one (.ptr 2 0), .one (.ptr 3 0), .one (.ptr 9 0), .one (.ptr 5 0), .one (.ptr 6 0), .one (.ptr 7 0),vl, .one (.ptr 9 0),vl, .one (.ptr 9 0), .one (.ag tl0), .one (.ptr 9 0), .one (.ag tl0), .one (.ag tl1), .one (.ptr 9 0),vi,vb,vb, .one (.ptr 9 0), .one (.ag tl1),vb,vb, .one (.ptr 9 0), .one (.ag tl0), .one (.ag tl0), .one (.ag tl1)],obs:=[(2,tl0),(3,tl1),(5,[.sl []]),(6,tl0),(7,tl1),(9,tl3)],tk:=[8,20,24,26,27],dp:=[10],fz:=[12,15,21,25],nw:=[9],keep:=[(0,[0,2,3]),(1,[2,3,4]),(2,[2,3,4,5]),(3,[2,3,4,6]),(4,[2,3,4,6,7]),(5,[2,3,4,6,7,17]),(6,[2,3,4,6,7,17,18]),(7,[2,3,6,7]),(8,[2,3,4,6,7,22]),(9,[2,3,6,7]),(10,[2,3])] }
def F59:FA:= { n:=33,sh:=[.one (.ag tl0), .one (.ptr 1 0),vl,vl,vj, .one (.ptr 5 0), .one (.ptr 1 0),vi,vb,vb, .one (.ptr 1 2),vs,vb,vb, .one (.ptr 1 2),vs,vl, .one (.ptr 1 0),vi,vb, .one (.ptr 1 3),vl,vi,vi,vb, .one (.cp tl0), .one (.ag tl0),vl, .one (.ag tl0),vl,vl,vi,vl],obs:=[(1,tl0),(5,tl0)],tk:=[9,15,18,21,23,27,28,32],dp:=[16,30],keep:=[(0,[1]),(1,[1,13]),(2,[2]),(3,[1,19]),(4,[2]),(5,[1,3]),(6,[3,21,22,23]),(7,[3,21,22,23,24]),(8,[3,5,21,22,23]),(9,[3,21,22,23]),(10,[3,21,22,23]),(11,[2])] }
def F60:FA:= { n:=23,sh:=[vl,vs,vj,vj, .one (.ptr 4 0),vb,vj, .one (.ptr 7 0),vl,vi,vi,vb, .one (.cp tl4), .one (.ag tl4), .one (.ptr 7 0),vs,vs,vb, .one (.ptr 7 1), .one (.ag tl1), .one (.ag tl1),vi, .one (.ag tl1)],obs:=[(4,tl1),(7,tl4)],tk:=[8,10,15,19],keep:=[(0,[0,1,4]),(1,[1,4,8,9,10]),(2,[1,4,8,9,10,11]),(3,[1,4,7,8,9,10]),(4,[1,4,7,8,9,10,17]),(5,[4,5]),(6,[1,4,8,9,10]),(7,[4,5])] }
def F61:FA:= { n:=6,sh:=[.one (.ag tl1), .one (.ptr 1 0),vb, .one (.ag tl1),vi,vb],obs:=[(1,tl1)],tk:=[3],keep:=[(0,[1]),(1,[2])] }
def F62:FA:= { n:=27,sh:=[.one (.ag tl0),vl, .one (.ptr 2 0),vj, .one (.ptr 4 0),vb, .one (.ptr 6 0),vb, .one (.ag tl0),vb,vb, .one (.ag tl1), .tup [.ag tl1, .c (.bool false)], .one (.ag tl0),vl, .tup [.ag tl1, .c (.bool false)], .one (.ag tl1),vb,vb,vb,vb, .one (.ag tl1),vb,vb,vb, .one (.ag tl1), .one (.ag tl1)],obs:=[(2,tl0),(4,tl1),(6,tl1)],tk:=[12,13,14,18,20,26],keep:=[(0,[1,2,4]),(1,[1,2,4,10]),(2,[4,5]),(3,[4,6,7]),(4,[4,6,24]),(5,[4,5]),(6,[4,5])] }
def F69:FA:= { n:=15,sh:=[vi,vi,vi,vj,vj,vj,vb,vi,vi,vb,vb,vi,vi,vb,vb],obs:=[],tk:=[8,10,11,12],keep:=[(0,[0,1,2]),(1,[6])] }
def F72:FA:= { n:=18,sh:=[vl,vj,vb,vi,vi,vl,vi,vb,vi,vi,vl,vi,vl,vl,vi, .one (.cp [.str []]),vs,vb],obs:=[],tk:=[8],keep:=[(0,[0]),(1,[0,3]),(2,[0,3,7]),(3,[0,3]),(4,[0,3,17]),(5,[2]),(6,[2])] }
def F75:FA:= { n:=15,sh:=[vi,vi,vi,vj,vj,vj,vb,vi,vi,vb,vb,vi,vi,vb,vb],obs:=[],tk:=[8,10,11,12],keep:=[(0,[0,1,2]),(1,[6])] }
def F77:FA:= { n:=9,sh:=[vl,vs,vj,vj,vb,vl,vs,vi,vb],obs:=[],tk:=[5,6],keep:=[(0,[0,1]),(1,[4])] }
def F96:FA:= { n:=18,sh:=[vl,vs,vj,vj,vb,vi,vi,vl,vi,vb,vi,vi,vl,vi, .one (.cp [.str []]),vs,vs,vb],obs:=[],tk:=[10],keep:=[(0,[0,1]),(1,[0,1,5]),(2,[0,1,5,9]),(3,[0,1,5]),(4,[0,1,5,17]),(5,[4]),(6,[4])] }
def F107:FA:= { n:=11,sh:=[.one (.ag tl0), .one (.ptr 1 0),vb, .one (.ag tl0),vi,vb,vb, .one (.ag tl0),vl,vb,vb],obs:=[(1,tl0)],tk:=[6,7],keep:=[(0,[1]),(1,[2])] }
def F108:FA:= { n:=6,sh:=[.one (.ag tl1), .one (.ptr 1 0),vb, .one (.ag tl1),vi,vb],obs:=[(1,tl1)],tk:=[3],keep:=[(0,[1]),(1,[2])] }
def F109:FA:= { n:=132,sh:=[.one (.ag tl0), .one (.ag tl1), .one (.ptr 1000000 0), .one (.ptr 3 0), .one (.ptr 4 0),vj,vb,vi, .one (.ptr 3 0),vi,vb,vb, .one (.ptr 4 0),vi,vb,vb, .one (.ptr 4 1),vi, .one (.ptr 3 1),vi,vb,vb,vb,vb, .one (.ptr 4 0),vi,vb,vb, .one (.ptr 4 2),vs, .one (.ptr 3 2),vs,vb,vb,vb,vb, .one (.ptr 3 2),vs,vb, .one (.ptr 1000000 0), .one (.ptr 1000000 0), .one (.ptr 1000000 0),vl, .one (.ptr 3 2),vs, .one (.ag tl1), .one (.ag tl1), .one (.ag tl4),vl,vl, .one (.ptr 1000000 0),vb,vb, .one (.ptr 4 0),vi,vb,vb, .one (.ptr 4 3),vl,vi, .one (.ptr 3 3),vl,vi,vb,vb,vb, .one (.ptr 3 3),vl, .one (.ptr 4 3),vl, .one (.ptr 1000000 0),vb,vb,vb,vb, .one (.ptr 4 0),vi,vb,vb, .one (.ptr 4 3),vl,vi, .one (.ptr 3 3),vl,vi,vb,vb,vb, .one (.ptr 3 3),vl, .one (.ptr 4 3),vl, .one (.ptr 1000000 0),vb,vb, .one (.ptr 3 3),vl,vi,vi, .one (.ptr 4 0),vi,vb,vb, .one (.ptr 4 3),vl,vi,vi,vb,vb,vb, .one (.ptr 3 3),vl,vi,vl, .one (.ptr 4 3),vl, .one (.ptr 1000000 0),vb,vb,vb, .one (.ptr 3 3),vl,vi, .one (.cp tl0), .one (.ag tl0), .one (.ptr 4 3),vl,vi,vl, .one (.ag tl1), .one (.ptr 1000000 0),vb],obs:=[(3,tl0),(4,tl1),(1000000,[.sl []])],tk:=[9,13,15,17,19,25,27,29,31,40,42,44,45,54,56,65,67,69,70,76,78,87,89,91,92,100,102,109,121,126,127,130],dp:=[48],keep:=[(0,[2,3,4]),(1,[2,3,4,9]),(2,[2,3,4,9,10]),(3,[6]),(4,[2,3,4,9,22]),(5,[6]),(6,[2,3,4,9,34]),(7,[2,3,4,38]),(8,[]),(9,[6]),(10,[2,3,4,9,51]),(11,[6]),(12,[2,3,4,73]),(13,[6]),(14,[2,3,4,7]),(15,[2,3,4,7,119]),(16,[6]),(17,[6])] }
def F112:FA:= { n:=19,sh:=[vl,vj,vl,vl,vj, .one (.ptr 5 0),vl,vi,vi,vb, .one (.cp tl1), .one (.ag tl1),vl, .one (.ag tl1), .one (.ag tl1),vl,vl,vi,vl],obs:=[(5,tl1)],tk:=[6,8,12,13,18],dp:=[15,16],keep:=[(0,[0]),(1,[0,3]),(2,[3,6,7,8]),(3,[3,6,7,8,9]),(4,[3,5,6,7,8]),(5,[3,6,7,8]),(6,[3,6,7,8]),(7,[2])] }
def F118:FA:= { n:=32,sh:=[vl,vj, .one (.ptr 31 0),vi,vi,vl,vi,vi,vi,vl,vi,vb,vb,vi,vb,vb,vi,vi,vi,vi,vl,vi, .one (.cp [.int .u8 0]),vy,vi,vi,vi,vi,vl,vi, .one (.ag tl3), .one (.ptr 31 0)],obs:=[(31,tl3)],tk:=[12,16,18,28,29],keep:=[(0,[0]),(1,[0,3]),(2,[0,3,4]),(3,[0,3,4,15]),(4,[0,3,4]),(5,[0,3,4]),(6,[2])],n0:=some 31 }
def F119:FA:= { n:=31,sh:=[.one (.ptr 1000000 0),vi,vj,vj,vi,vi,vi,vi,vi,vb,vi,vb, .one (.ptr 1000000 0),vi,vi,vi, .one (.ptr 1000000 0),vi, .one (.ptr 1000000 0),vi, .one (.ptr 1000000 0),vi,vi,vi,vi,vi,vi,vi,vi,vi,vi],obs:=[(1000000,tl3)],tk:=[12,14,20,22,24,27,29],keep:=[(0,[0,1]),(1,[0,1,9]),(2,[4]),(3,[0,1,11]),(4,[4]),(5,[0,1,5]),(6,[0,1,5,6]),(7,[1,5,6,7]),(8,[4])] }
def F120:FA:= { n:=55,sh:=[.one (.ptr 1000000 0),vi,vj,vj, .one (.ptr 4 0), .one (.ptr 5 0),vi, .one (.ptr 1000000 0),vi,vb,vb,vb,vb, .one (.ptr 1000000 0), .one (.ptr 1000000 0),vi,vl,vi, .one (.ag tl1),vb,vb,vb, .one (.ptr 1000000 0),vl,vs, .one (.ag tl1),vb,vb, .one (.ptr 1000000 0),vi, .one (.ag tl1), .one (.ptr 1000000 0),vl,vi, .one (.ag tl1), .one (.ptr 1000000 0),vi,vi,vb,vb,vi,vb,vb,vi,vi, .one (.ptr 5 3),vl, .one (.ptr 1000000 0),vi,vi, .one (.ag tl1),vl,vl, .one (.ptr 5 3), .one (.ag tl1)],obs:=[(4,tl1),(5,tl1),(1000000,tl3)],tk:=[14,22,28,39,43,46,54],dp:=[16,23,32,51,52],fz:=[16,23,32],keep:=[(0,[0,1,4]),(1,[0,1,4,8]),(2,[0,1,4,8,9]),(3,[0,1,4,8,9]),(4,[0,1,4,8,9]),(5,[4]),(6,[0,1,4,8,19]),(7,[0,1,4,8,19]),(8,[4]),(9,[0,1,4,26]),(10,[4]),(11,[0,1,4,5]),(12,[0,1,4,5,6]),(13,[0,1,4,5,6,42]),(14,[0,1,4,5,6]),(15,[0,1,4,5,6]),(16,[4])] }
def F121:FA:= { n:=9,sh:=[.one (.ptr 1000000 0),vi,vj,vj,vb, .one (.ptr 1000000 0),vi,vi,vb],obs:=[(1000000,tl3)],tk:=[5,6],keep:=[(0,[0,1]),(1,[4])] }
def F122:FA:= { n:=32,sh:=[vl,vl, .one (.fn 48 []),vj,vj,vj,vb,vi, .one (.ptr 8 0), .one (.ptr 9 0),vl,vi,vl,vi,vb,vl,vi,vi,vb,vi, .one (.cp tl1), .one (.ag tl1),vl,vi, .one (.cp tl1), .one (.ag tl1), .one (.fn 48 []), .one (.ag tl1), .one (.ag tl1),vb,vb,vi],obs:=[(8,tl1),(9,tl1)],tk:=[15,17,23,27,28],keep:=[(0,[0,1,2]),(1,[0,1,2,14]),(2,[6]),(3,[1,2,15,16,17]),(4,[1,2,15,16,17,18]),(5,[1,2,7,8,15,16,17]),(6,[1,2,8,9,15,16,17]),(7,[1,2,15,16,17,30]),(8,[6]),(9,[1,2,15,16,17]),(10,[6])] }
def F123:FA:= { n:=6,sh:=[.one (.ag tl0), .one (.ptr 1 0),vb, .one (.ptr 3 0), .one (.ag tl0),vb],obs:=[(1,tl0),(3,[.int .i64 0, .sl []])],tk:=[4],keep:=[(0,[1]),(1,[1,3]),(2,[2])] }
def F124:FA:= { n:=143,sh:=[.one (.ag tl0), .one (.ag tl1),vl, .one (.ptr 3 0), .one (.ptr 4 0),vj,vl,vb,vi,vb, .one (.ptr 3 0),vi,vb,vb,vl, .one (.ptr 4 0),vi,vb,vb, .one (.ptr 4 1),vi, .one (.ptr 3 1),vi,vb,vb,vb,vb,vl, .one (.ptr 4 0),vi,vb,vb, .one (.ptr 4 2),vs, .one (.ptr 3 2),vs,vb,vb,vb,vb, .one (.ptr 3 2),vs,vb,vl, .one (.ptr 3 2),vs, .one (.ag tl1), .one (.ag tl1), .one (.ag tl4),vl,vl,vl,vb,vb, .one (.ptr 4 0),vi,vb,vb, .one (.ptr 4 3),vl,vi, .one (.ptr 3 3),vl,vi,vb,vb,vl, .one (.ptr 3 3),vl, .one (.ptr 4 3),vl,vl, .tup [.c (.sl []), .c (.bool false)],vl,vb,vb,vb, .one (.ptr 4 0),vi,vb,vb, .one (.ptr 4 3),vl,vi, .one (.ptr 3 3),vl,vi,vb,vb,vl, .one (.ptr 3 3),vl, .one (.ptr 4 3),vl,vl, .tup [.c (.sl []), .c (.bool false)],vl,vb, .one (.ptr 3 3),vl,vi,vi, .one (.ptr 4 0),vi,vb,vb, .one (.ptr 4 3),vl,vi,vi,vb,vb,vl, .tup [.c (.sl []), .c (.bool false)], .one (.ptr 3 3),vl,vi,vl, .one (.ptr 4 3),vl,vi,vl,vl, .tup [.c (.sl []), .c (.bool false)],vl,vb,vb,vb,vl, .one (.ptr 3 3),vl,vi, .one (.cp tl0), .one (.ag tl0), .one (.ptr 4 3),vl,vi,vl, .one (.ag tl1),vl, .tup [.c (.sl []), .c (.bool false)],vl,vb],obs:=[(3,tl0),(4,tl1)],tk:=[11,14,16,18,20,22,27,29,31,33,35,43,45,46,51,55,57,66,68,70,71,78,80,89,91,93,94,103,105,112,113,122,126,128,130,135,136,139],dp:=[49,50],keep:=[(0,[2,3,4]),(1,[2,3,4,11]),(2,[2,3,4,11,12]),(3,[6,7]),(4,[2,3,4,11,25]),(5,[6,7]),(6,[2,3,4,11,38]),(7,[2,3,4,42]),(8,[2]),(9,[6,7]),(10,[2,3,4,11,52]),(11,[2,3,4,65]),(12,[6,7]),(13,[6,7]),(14,[2,3,4,75]),(15,[2,3,4,88]),(16,[6,7]),(17,[6,7]),(18,[2,3,4,8]),(19,[2,3,4,8,111]),(20,[6,7]),(21,[2,3,4,8,9]),(22,[2,3,4,8,127]),(23,[6,7]),(24,[6,7])] }
def F128:FA:= { n:=83,sh:=[.one (.ptr 1000000 0),vi, .one (.ptr 1000001 0),vj,vj,vj, .one (.ptr 6 0),vs, .one (.ptr 8 0),vi,vi, .one (.ptr 1000000 0),vi,vb,vb, .one (.ptr 1000000 0),vi, .one (.ag tl0),vb,vb, .one (.ptr 1000000 0),vl,vs, .one (.ag tl0),vb,vb, .one (.ag tl0),vb,vb,vb,vb, .one (.ptr 1000000 0),vl,vs, .one (.ptr 1000001 0), .one (.ptr 1000001 0),vl,vs,vb, .one (.ag tl0), .one (.ptr 1000001 0), .one (.ptr 1000001 0), .one (.ptr 1000001 0),vl,vs,vl,vl, .one (.ptr 1000001 0),vs, .one (.ag tl0), .one (.ptr 1000000 0),vl,vi, .one (.ag tl0), .one (.ptr 1000000 0),vi, .one (.ptr 8 0),vi,vb,vi,vi,vb,vi,vi,vi,vb, .one (.ptr 8 3),vl, .one (.ptr 1000000 0),vi,vi, .one (.ptr 1000001 0), .one (.ag tl0),vl,vl, .one (.ptr 8 3), .one (.ptr 8 3),vl, .one (.ag tl0),vl,vl, .one (.ptr 8 3), .one (.ag tl0)],obs:=[(6,tl0),(8,tl0),(1000000,tl3),(1000001,[.sl []])],tk:=[15,20,31,41,43,48,62,67,77,82],dp:=[21,32,45,51,73,74,79,80],fz:=[21,32,51],keep:=[(0,[0,1,2,6]),(1,[0,1,2,6,12]),(2,[0,1,2,6,12,13]),(3,[6]),(4,[0,1,2,6,12,18]),(5,[6]),(6,[0,1,2,6,12,24]),(7,[6]),(8,[0,1,2,6,12,27]),(9,[0,1,2,6,12,27]),(10,[0,1,2,6,27]),(11,[2,6,7]),(12,[2,6,7,38]),(13,[6]),(14,[6,7]),(15,[6]),(16,[0,1,2,6,8]),(17,[0,1,2,6,8,9]),(18,[0,1,2,6,8,9,58]),(19,[0,1,2,6,8,9]),(20,[0,1,2,6,8,9,10]),(21,[0,1,2,6,8,9,10,61]),(22,[0,1,2,6,8,9,10]),(23,[0,1,2,6,8,9,10,65]),(24,[0,1,2,6,8,9,10]),(25,[0,1,2,6,8,9,10]),(26,[6])] }
def F129:FA:= { n:=74,sh:=[.one (.ptr 1000000 0), .one (.ag tl0),vj, .one (.ptr 3 0), .one (.ptr 4 0), .one (.ptr 5 0),vi, .one (.ptr 7 0), .one (.ptr 3 0),vi,vb,vb, .one (.ptr 3 1),vi, .one (.ag tl1),vb,vb, .one (.ptr 3 2),vs, .one (.ag tl1),vb,vb,vb,vb, .one (.ag tl1), .one (.ptr 3 0),vi,vb, .one (.ptr 5 0),vi, .one (.ptr 3 3),vl,vi,vb,vi,vi, .one (.ptr 1000000 0), .one (.ptr 3 3),vl,vi, .one (.cp tl0), .one (.ag tl0), .one (.ag tl1), .one (.ptr 3 0),vi,vb,vb,vi, .one (.ptr 3 3),vl,vi,vi,vb,vb, .one (.ptr 7 0),vi,vb, .one (.ag tl1), .one (.ptr 5 3),vl, .one (.ptr 7 3),vl,vl, .one (.ptr 5 3), .one (.ag tl1), .one (.ptr 5 3),vl, .one (.ag tl1),vl,vl, .one (.ptr 5 3), .one (.ag tl1), .one (.ptr 1000000 0), .one (.ag tl1)],obs:=[(3,tl0),(4,tl1),(5,tl1),(7,tl1),(1000000,tl3)],tk:=[13,18,34,46,55,59,61,64,66,67,71,72],dp:=[62,68,69],keep:=[(0,[0,3,4]),(1,[0,3,4,9]),(2,[0,3,4,9,10]),(3,[4]),(4,[0,3,4,9,15]),(5,[4]),(6,[0,3,4,9,20]),(7,[0,3,4,9,20]),(8,[0,3,4,20]),(9,[0,3,4,5]),(10,[0,3,4,5,27]),(11,[0,3,4,5]),(12,[0,3,4,5,6]),(13,[0,3,4,5,6,33]),(14,[0,3,4,5,6]),(15,[0,3,4,5,6,7]),(16,[0,3,4,5,6,7,53]),(17,[4,5,7,56]),(18,[4,5,7]),(19,[4,5]),(20,[4]),(21,[0,3,4,5,6]),(22,[4]),(23,[4])] }
def F130:FA:= { n:=12,sh:=[.one (.ptr 1000000 0),vj, .one (.ptr 2 0), .one (.ptr 3 0), .one (.ptr 1000000 0), .one (.ag tl1), .one (.ptr 1000000 0),vb, .one (.ptr 1000000 0), .one (.ag tl1), .one (.ag tl1), .one (.ag tl1)],obs:=[(2,tl1),(3,tl1),(1000000,tl3)],tk:=[8,9,11],fz:=[5,10],keep:=[(0,[0,2]),(1,[0,2,3]),(2,[0,2,3,7]),(3,[2,3]),(4,[2])] }
def F131:FA:= { n:=27,sh:=[.one (.ptr 1000000 0),vj, .one (.ptr 2 0), .one (.ptr 3 0), .one (.ptr 4 0),vl, .one (.ptr 1000000 0), .one (.ag tl0), .one (.ptr 1000000 0),vi,vb,vb, .one (.ptr 1000000 0), .one (.ag tl0), .one (.ag tl0),vb,vb, .one (.ag tl0), .one (.ag tl0), .one (.ag tl0),vl, .one (.ag tl0),vb,vb, .one (.ptr 1000000 0), .one (.ag tl0), .one (.ag tl0)],obs:=[(2,tl0),(3,[.sl []]),(4,tl0),(1000000,tl3)],tk:=[12,13,18,24,26],dp:=[5],fz:=[7,14,21,25],keep:=[(0,[0,2]),(1,[0,2,3]),(2,[0,2,4]),(3,[0,2,4,9]),(4,[0,2,4,9,10]),(5,[2,4]),(6,[0,2,4,9,15]),(7,[2,4]),(8,[0,2,4,22]),(9,[2,4]),(10,[2])] }
def F132:FA:= { n:=8,sh:=[.one (.ag tl1), .one (.ptr 1 0), .one (.ptr 2 0), .one (.ptr 1 3),vl,vl, .one (.ptr 1 3), .one (.ag tl1)],obs:=[(1,tl1),(2,tl1)],tk:=[4,7],keep:=[(0,[1,2]),(1,[1,2]),(2,[2])] }
def F133:FA:= { n:=32,sh:=[.one (.ag tl1),vi, .one (.ptr 2 0),vj,vi,vi,vj, .one (.ptr 7 0),vi,vb,vb, .one (.ag tl1),vb,vb,vb, .one (.ptr 2 3),vl,vi,vi,vb, .one (.cp tl1), .one (.ag tl1),vi, .one (.ag tl1),vi,vi,vi,vi,vi,vb,vi,vi],obs:=[(2,tl1),(7,tl1)],tk:=[10,16,18,22,23,31],keep:=[(0,[1,2]),(1,[1,2,14]),(2,[4]),(3,[1,2,5]),(4,[1,5,16,17,18]),(5,[1,5,16,17,18,19]),(6,[1,5,7,16,17,18]),(7,[1,5,16,17,18]),(8,[1,5,16,17,18,29]),(9,[4]),(10,[1,5,16,17,18]),(11,[4])] }
def F134:FA:= { n:=66,sh:=[.one (.ag tl0),vl, .one (.ptr 2 0),vj, .one (.ptr 4 0),vb,vl,vj, .one (.ptr 8 0), .one (.ptr 9 0),vb, .one (.ptr 2 0),vi,vb,vb, .one (.ptr 2 1),vi, .one (.ag tl1),vb,vb, .one (.ptr 2 2),vs, .one (.ag tl1),vb,vb,vl, .one (.ptr 2 2),vs, .tup [.ag tl1, .c (.bool false)], .one (.ag tl1),vb, .one (.ptr 2 3),vl,vi,vi,vb, .one (.cp tl0), .one (.ag tl0), .tup [.ag tl1, .c (.bool false)], .one (.ag tl0),vl, .tup [.ag tl1, .c (.bool false)], .one (.ag tl1),vb,vb,vb, .one (.ag tl1),vl, .one (.ag tl1),vl,vl,vi, .one (.ptr 2 0),vi,vb,vb,vl, .one (.ag tl1),vb,vb,vl, .one (.ag tl1),vl, .tup [.ag tl1, .c (.bool false)], .one (.ag tl1),vb],obs:=[(2,tl0),(4,tl1),(8,tl0),(9,tl1)],tk:=[16,21,25,27,32,34,38,39,44,47,48,53,56,60,62],fz:=[62],keep:=[(0,[1,2,4]),(1,[1,2,4,12]),(2,[1,2,4,12,13]),(3,[4,5]),(4,[1,2,4,12,18]),(5,[4,5]),(6,[1,2,4,23]),(7,[4,5]),(8,[1,2,4,6]),(9,[1,2,4,6,32,33,34]),(10,[1,2,4,6,32,33,34,35]),(11,[1,2,4,6,8,32,33,34]),(12,[1,2,4,6,9,10,32,33,34]),(13,[1,2,4,6,9,32,33,34,45]),(14,[4,5]),(15,[1,2,4,6,32,33,34]),(16,[1,2,4,6,32,33,34]),(17,[4,6,53]),(18,[4,6,53,54]),(19,[4,5]),(20,[4,6,58]),(21,[4,5]),(22,[4,5])] }
def F156:FA:= { n:=19,sh:=[vl,vs,vj,vj,vi,vi,vl,vi,vi,vb,vi,vs,vl,vi, .one (.cp [.str []]),vs,vb,vi,vi],obs:=[],tk:=[8,17],keep:=[(0,[0,1]),(1,[0,1,7,8]),(2,[0,1,7,8,9]),(3,[0,1,5,7,8]),(4,[0,1,5,7,8,16]),(5,[4]),(6,[0,1,7,8]),(7,[4])] }
def F182:FA:= { n:=27,sh:=[.one (.ag tl1), .one (.ptr 1 0), .one (.ptr 2 0), .one (.ptr 3 0),vi, .one (.ag tl1),vl, .one (.ptr 3 3),vi, .one (.ptr 1 3),vl,vi,vb,vi,vi, .one (.ptr 3 3),vl, .one (.ptr 1 3),vl,vi, .one (.cp tl1), .one (.ag tl1), .one (.ag tl1),vl,vl, .one (.ptr 3 3), .one (.ag tl1)],obs:=[(1,tl1),(2,tl1),(3,tl1)],tk:=[13,16,26],dp:=[6,23,24],keep:=[(0,[1,2]),(1,[1,2,3]),(2,[1,2,3]),(3,[1,2,3,4]),(4,[1,2,3,4,12]),(5,[1,2,3,4]),(6,[1,2,3,4]),(7,[2])] }
def F183:FA:= { n:=89,sh:=[.one (.ag tl0),vb,vi,vi, .one (.ptr 4 0),vj,vj,vj,vi,vi,vi,vi,vb,vb,vi,vb,vb,vb, .one (.ag tl0),vb,vb,vb,vb,vi,vi,vi, .one (.ptr 4 3),vl,vi,vb,vb,vi,vb,vb,vi,vi, .one (.ptr 4 3),vl,vi, .one (.cp tl0), .one (.ag tl0),vb,vi,vi,vi,vi,vi, .one (.ptr 4 4),vl,vi,vb,vb,vi,vb,vb,vi,vi, .one (.ptr 4 4),vl,vi, .one (.cp tl2), .one (.cp tl0), .one (.ag tl0),vl,vb,vb, .one (.ptr 4 4),vl,vi, .one (.cp tl2), .one (.cp tl0), .one (.ag tl0),vi,vi,vi,vi,vi,vb, .one (.ptr 4 4),vl,vi, .one (.cp tl2), .one (.cp tl0), .one (.ag tl0),vi,vi,vi,vi,vi],obs:=[(4,tl0)],tk:=[13,17,23,30,34,44,51,55,74,86,88],keep:=[(0,[1,2,3,4]),(1,[1,2,3,4,22]),(2,[8]),(3,[1,2,3,4]),(4,[1,2,3,4,9]),(5,[1,2,3,4,9,33]),(6,[1,2,3,4,9]),(7,[1,2,3,4,9]),(8,[2,3,4,10]),(9,[2,3,4,10,54]),(10,[2,3,4,10]),(11,[2,3,4,10,65]),(12,[8]),(13,[2,3,4,10]),(14,[2,3,4,10,77]),(15,[2,3,4,10]),(16,[8])] }
def F184:FA:= { n:=34,sh:=[.one (.ag tl0), .one (.ptr 1 0),vl,vl,vi,vl, .one (.ptr 1 0),vi,vb, .one (.ptr 1 2),vs,vb,vl, .one (.ptr 1 2),vs,vl,vl,vl,vi, .one (.ptr 1 3),vl,vi,vb,vi,vi,vl, .one (.ptr 1 3),vl,vi, .one (.cp tl0), .one (.ag tl0),vl,vl,vl],obs:=[(1,tl0)],tk:=[7,12,14,17,23,25,33],dp:=[5,15,16,32],keep:=[(0,[1]),(1,[1,3]),(2,[1,3,8]),(3,[1,3,11]),(4,[3]),(5,[2]),(6,[1,3,4]),(7,[1,3,4,22]),(8,[1,3,4]),(9,[1,3,4]),(10,[2])] }
def F185:FA:= { n:=42,sh:=[.one (.ag tl1),vi,vi, .one (.ptr 3 0),vj,vj,vi,vi,vi,vb,vb,vi,vb,vb,vb, .one (.ag tl1),vb,vb,vb,vi,vi,vi, .one (.ptr 3 3),vl,vi,vb,vb,vi,vb,vb,vi,vi, .one (.ptr 3 3),vl,vi, .one (.cp tl1), .one (.ag tl1),vi,vi,vi,vi,vi],obs:=[(3,tl1)],tk:=[10,14,19,26,30,39,41],keep:=[(0,[1,2,3]),(1,[1,2,3,18]),(2,[6]),(3,[1,2,3]),(4,[1,2,3,7]),(5,[1,2,3,7,29]),(6,[1,2,3,7]),(7,[1,2,3,7]),(8,[6])] }
def F186:FA:= { n:=25,sh:=[vl,vl, .one (.ptr 1000000 0),vj,vj,vj,vb,vi,vi,vl,vi,vb,vi,vi,vl,vi, .one (.cp tl0), .one (.ag tl0),vl,vi, .one (.cp tl1), .one (.ag tl1), .one (.ptr 1000000 0),vb,vb],obs:=[(1000000,[.sl []])],tk:=[12],keep:=[(0,[0,1,2]),(1,[0,1,2,7]),(2,[0,1,2,7,11]),(3,[0,1,2,7]),(4,[0,1,2,7,24]),(5,[6]),(6,[6])] }
def F189:FA:= { n:=58,sh:=[.one (.ptr 1000000 0),vj,vi,vi, .one (.ptr 1000000 0), .one (.ptr 1000000 0), .one (.ptr 1000000 0), .one (.ptr 1000000 2),vi,vi,vi, .one (.ptr 1000000 0), .one (.ptr 1000000 2), .one (.ptr 1000000 0), .one (.ptr 1000000 0), .one (.ptr 1000000 2),vi,vi, .one (.ptr 1000000 0), .one (.ptr 1000000 0), .one (.ptr 1000000 2),vi,vi,vi,vi, .one (.ptr 1000000 0), .one (.ptr 1000000 0), .one (.ptr 1000000 1),vi, .one (.ptr 1000000 0), .one (.ptr 1000000 0), .one (.ptr 1000000 0),vl,vi,vb,vi, .one (.ptr 1000000 0), .one (.ptr 1000000 0), .one (.ptr 1000000 0),vl, .one (.ptr 1000000 0), .one (.ptr 1000000 0), .one (.ptr 1000000 1),vi, .one (.cp [.int .u8 0]),vy,vi,vi,vi, .one (.ptr 1000000 0), .one (.ptr 1000000 0), .one (.ptr 1000000 0), .one (.ptr 1000000 1),vi,vi, .one (.ptr 1000000 0), .one (.ptr 1000000 1),vi],obs:=[(1000000,tl3)],tk:=[8,35,50,53,57],keep:=[(0,[0]),(1,[0]),(2,[0,3]),(3,[0,3,34]),(4,[0,3]),(5,[3]),(6,[2])] }
def F190:FA:= { n:=12,sh:=[.one (.ptr 1000000 0),vl,vj,vj,vi,vl, .one (.ptr 1000000 0),vl,vi,vi, .one (.cp [.int .i64 0]),vi],obs:=[(1000000,tl3)],tk:=[6,7],keep:=[(0,[0,1]),(1,[4])] }
def F191:FA:= { n:=12,sh:=[.one (.ptr 1000000 0),vl,vj,vj,vs,vl, .one (.ptr 1000000 0),vl,vi,vi, .one (.cp [.str []]),vs],obs:=[(1000000,tl3)],tk:=[6,7],keep:=[(0,[0,1]),(1,[4])] }
def F192:FA:= { n:=89,sh:=[.one (.ptr 1000000 0), .one (.ag tl0),vi,vj, .one (.ptr 4 0),vj,vb,vj, .one (.ptr 8 0), .one (.ptr 1000000 0), .one (.ptr 1000000 0), .one (.ptr 1000000 0),vi,vi, .one (.ptr 1000000 0), .one (.ptr 1000000 0),vi,vb,vb, .one (.ptr 1000000 0), .one (.ptr 1000000 0), .one (.ptr 1000000 0),vi,vb,vb,vb, .one (.ptr 4 0),vi,vb,vb,vb, .one (.ptr 4 4),vl,vi,vb,vb,vb, .one (.ptr 4 0),vi, .one (.ptr 4 1),vi, .one (.ptr 4 2),vs, .one (.ptr 4 3),vl,vi,vb,vb,vb, .one (.ptr 4 0),vi,vb,vb, .one (.ptr 4 2),vs,vb,vb, .one (.ptr 1000000 0), .one (.ptr 1000000 0), .one (.ptr 1000000 1),vl, .one (.ptr 4 2),vs,vb, .one (.ptr 1000000 0), .one (.ptr 1000000 0), .one (.ptr 1000000 0), .one (.ptr 1000000 1),vl, .one (.ptr 4 2),vs,vl,vl, .one (.ptr 1000000 0), .one (.ptr 1000000 1), .one (.ptr 4 3),vl,vi,vi,vb, .one (.cp tl0), .one (.ag tl0), .one (.ptr 1000000 0), .one (.ag tl0),vi,vi,vb,vb,vi],obs:=[(4,tl0),(8,tl0),(1000000,[.int .i64 0, .sl []])],tk:=[12,18,25,30,32,36,40,50,52,68,70,76,78,83],dp:=[71],keep:=[(0,[0,2,4]),(1,[0,2,4]),(2,[0,2,4,48]),(3,[6]),(4,[0,2,4,56]),(5,[0,2,4,63]),(6,[6]),(7,[0,2,4]),(8,[0,2,76,77,78]),(9,[0,2,76,77,78,79]),(10,[0,2,8,76,77,78]),(11,[0,2,76,77,78,87]),(12,[6]),(13,[0,2,76,77,78]),(14,[6])] }
def F193:FA:= { n:=33,sh:=[vl,vl,vl,vj,vj,vj,vl,vb,vb,vi, .one (.ptr 10 0),vl,vi,vi,vb,vi, .one (.cp tl0), .one (.ag tl0), .tup [.c (.sl []), .c (.bool false)], .one (.ag tl0),vl,vi, .one (.cp tl1), .one (.ag tl1),vl, .tup [.c (.sl []), .c (.bool false)],vl,vb,vb,vb,vl,vi,vl],obs:=[(10,tl0)],tk:=[11,13,18,19,21,24,28,30,32],keep:=[(0,[0,1,2]),(1,[0,1,2]),(2,[1,2,11,12,13]),(3,[1,2,11,12,13,14]),(4,[1,2,9,10,11,12,13]),(5,[1,2,8,11,12,13]),(6,[1,2,11,12,13,29]),(7,[6,7]),(8,[1,2,11,12,13]),(9,[6,7])] }
def F194:FA:= { n:=36,sh:=[vs,vj,vb,vi,vi,vb,vi,vs,vi,vb,vi,vi,vs,vi,vy,vi,vi,vb,vb,vb,vb,vi,vb,vb,vi,vb,vb,vb,vi,vb,vb,vb,vb,vs,vi,vb],obs:=[],tk:=[10,18,20,23,27,28,33],keep:=[(0,[0]),(1,[0,3]),(2,[0,3,9]),(3,[0,3]),(4,[0,3,4]),(5,[0,3,4,5]),(6,[0,3,32]),(7,[2]),(8,[2])] }
def F196:FA:= { n:=35,sh:=[vs,vj,vb,vi,vi,vs,vi,vb,vi,vi,vs,vi,vy,vb,vb,vb,vi,vb,vb,vs,vi,vy,vb,vb,vb,vs,vi,vy,vb,vb,vb,vb,vs,vi,vb],obs:=[],tk:=[8,15,18,24,32],keep:=[(0,[0]),(1,[0,3]),(2,[0,3,7]),(3,[0,3]),(4,[0,3,31]),(5,[2]),(6,[2])] }
def F197:FA:= { n:=5,sh:=[vi,vj, .one (.ptr 2 0),vi, .one (.ag tl0)],obs:=[(2,tl0)],tk:=[3],keep:=[(0,[0,2]),(1,[2])] }
def F198:FA:= { n:=5,sh:=[vs,vj, .one (.ptr 2 0),vs, .one (.ag tl0)],obs:=[(2,tl0)],tk:=[3],keep:=[(0,[0,2]),(1,[2])] }
def F199:FA:= { n:=45,sh:=[.one (.ptr 1000000 0), .one (.ag tl1),vj, .one (.ptr 3 0), .one (.ptr 4 0),vi, .one (.ag tl1), .one (.ag tl1), .one (.ptr 1000000 0),vi,vb,vb, .one (.ptr 1000000 0),vi, .one (.ptr 3 0),vb,vb, .one (.ptr 1000000 0),vl,vi, .one (.ptr 3 1),vb,vb, .one (.ptr 1000000 0),vl,vs, .one (.ptr 3 2),vb,vb, .one (.ptr 3 3),vl, .one (.ag tl1),vl,vl, .one (.ptr 3 3),vb,vb,vi,vb,vi,vi, .one (.ag tl1),vl, .one (.ag tl1), .one (.ag tl1)],obs:=[(3,tl1),(4,tl1),(1000000,tl3)],tk:=[6,12,17,23,30,39,41,44],dp:=[18,24,32,33,42],fz:=[18,24],keep:=[(0,[0,3,4]),(1,[0,3,4]),(2,[0,3,4,9]),(3,[0,3,4,9,10]),(4,[3,4]),(5,[0,3,4,9,15]),(6,[3,4]),(7,[0,3,4,9,21]),(8,[3,4]),(9,[3,4,9,27]),(10,[3,4]),(11,[3,4,35]),(12,[3,4,5]),(13,[3,4,5,38]),(14,[3,4,5]),(15,[3,4,5]),(16,[4])] }
def F200:FA:= { n:=74,sh:=[.one (.ptr 1000000 0), .one (.ag tl0),vj, .one (.ptr 3 0), .one (.ptr 4 0), .one (.ptr 5 0),vi, .one (.ptr 7 0), .one (.ag tl0), .one (.ag tl0), .one (.ptr 1000000 0),vi,vb,vb, .one (.ptr 1000000 0),vi, .one (.ptr 3 0),vb,vb, .one (.ptr 1000000 0),vl,vi, .one (.ptr 3 1),vb,vb, .one (.ptr 1000000 0),vl,vs, .one (.ptr 3 2),vb,vb, .one (.ptr 3 3),vl, .one (.ag tl0),vl,vl, .one (.ptr 3 3),vb,vb, .one (.ag tl0), .one (.ag tl0), .one (.ptr 3 4),vl, .one (.ag tl0), .one (.ag tl0), .one (.ag tl2),vl,vl, .one (.ptr 3 4),vb,vb,vi,vb,vi,vi, .one (.ag tl0), .one (.ag tl0),vl, .one (.ag tl0),vb,vb, .one (.ptr 3 4),vl,vi,vb, .one (.ptr 3 4), .one (.al (.oc 3 4) []), .one (.ag tl0), .one (.ag tl0),vl, .one (.ag tl0), .one (.pp (.oc 3 4) [] 0 0), .one (.pp (.oc 3 4) [] 0 0), .one (.ag tl0)],obs:=[(3,tl0),(4,tl0),(5,tl0),(7,tl0),(1000000,tl3)],al:=[66],tk:=[8,14,19,25,32,42,44,53,55,56,73],dp:=[20,26,34,35,46,47,57,69],fz:=[20,26],keep:=[(0,[0,3,4]),(1,[0,3,4]),(2,[0,3,4,11]),(3,[0,3,4,11,12]),(4,[3,4]),(5,[0,3,4,11,17]),(6,[3,4]),(7,[0,3,4,11,23]),(8,[3,4]),(9,[3,4,11,29]),(10,[3,4]),(11,[3,4,11,37]),(12,[3,4,5]),(13,[3,4]),(14,[3,4,11,49]),(15,[3,4,6]),(16,[3,4,6,52]),(17,[3,4,6]),(18,[3,4,6,7]),(19,[3,4,6]),(20,[3,4,59]),(21,[3,4,64]),(22,[3,4]),(23,[4])] }
def F201:FA:= { n:=57,sh:=[.one (.ag tl0), .one (.ptr 1 0), .one (.ptr 2 0), .one (.ptr 3 0),vi,vi, .one (.ag tl0),vl, .one (.ptr 3 3),vl, .one (.ptr 3 4),vi, .one (.ptr 1 3),vl,vi,vb,vi,vi, .one (.ptr 3 3),vl, .one (.ptr 1 3),vl,vi, .one (.cp tl0), .one (.ag tl0), .one (.ag tl0),vl,vl, .one (.ptr 3 3),vi, .one (.ptr 1 4),vl,vi,vb,vi,vi, .one (.ptr 3 4),vl, .one (.ptr 1 4),vl,vi, .one (.cp tl2), .one (.cp tl0), .one (.ag tl0), .one (.ag tl0), .one (.ptr 1 4),vl,vi, .one (.cp tl2), .one (.cp tl0), .one (.ag tl0), .one (.ag tl0), .one (.ag tl2),vl,vl, .one (.ptr 3 4), .one (.ag tl0)],obs:=[(1,tl0),(2,tl0),(3,tl0)],tk:=[16,19,34,37,56],dp:=[7,9,26,27,53,54],keep:=[(0,[1,2]),(1,[1,2,3]),(2,[1,2,3]),(3,[1,2,3]),(4,[1,2,3,4]),(5,[1,2,3,4,15]),(6,[1,2,3,4]),(7,[1,2,3,4]),(8,[1,2,3,5]),(9,[1,2,3,5,33]),(10,[1,2,3,5]),(11,[1,2,3,5]),(12,[2])] }
def F202:FA:= { n:=13,sh:=[.one (.ptr 1000000 0),vj, .one (.ptr 2 0), .one (.ptr 3 0), .one (.ptr 1000000 0),vl, .one (.ag tl0), .one (.ptr 1000000 0),vb, .one (.ptr 1000000 0), .one (.ag tl0), .one (.ag tl0), .one (.ag tl0)],obs:=[(2,tl0),(3,tl0),(1000000,tl3)],tk:=[9,10,12],dp:=[5],fz:=[5,6,11],keep:=[(0,[0,2]),(1,[0,2,3]),(2,[0,2,3,8]),(3,[2,3]),(4,[2])] }
def F203:FA:= { n:=85,sh:=[.one (.ag tl1), .one (.ptr 1 0),vb, .one (.ptr 1 0),vi,vb,vb, .one (.ptr 1 1),vi,vb,vb, .one (.ptr 1 2),vs,vb,vb,vb, .one (.ptr 1 3),vl,vi,vb,vb,vb,vb, .one (.ptr 1 1),vi,vb,vb, .one (.ptr 1 2),vs,vb,vb,vb, .one (.ptr 1 3),vl,vi,vb,vb,vb,vb, .one (.ptr 1 1),vi,vb,vb, .one (.ptr 1 2),vs,vb,vb,vb, .one (.ptr 1 3),vl,vi,vb,vb,vb,vb, .one (.ptr 1 1),vi,vb,vb, .one (.ptr 1 2),vs,vb,vb,vb, .one (.ptr 1 3),vl,vi,vb,vb,vb,vb, .one (.ptr 1 1),vi,vb,vb, .one (.ptr 1 2),vs,vb,vb,vb, .one (.ptr 1 3),vl,vi,vb,vb],obs:=[(1,tl1)],tk:=[4,8,10,12,15,17,24,26,28,31,33,40,42,44,47,49,56,58,60,63,65,72,74,76,79,81],keep:=[(0,[1]),(1,[1,4]),(2,[1,4,5]),(3,[2]),(4,[1,4,21]),(5,[2]),(6,[1,4,37]),(7,[2]),(8,[1,4,53]),(9,[2]),(10,[1,69]),(11,[2]),(12,[2])] }
def F204:FA:= { n:=25,sh:=[vl,vj, .one (.ptr 2 0),vb, .one (.ptr 4 0),vl,vl,vi,vi, .one (.cp tl1), .one (.ag tl1), .one (.ptr 4 0),vi,vb, .one (.ag tl1),vl,vl,vi,vi,vl, .one (.ptr 4 3),vl,vl,vl, .one (.ag tl1)],obs:=[(2,tl1),(4,tl1)],tk:=[12,16,21],fz:=[22],keep:=[(0,[0,2]),(1,[0,2,4]),(2,[0,2,4,13]),(3,[2,3]),(4,[2,3])] }
def F223:FA:= { n:=36,sh:=[vs,vj,vb,vi,vi,vs,vi,vb,vi,vi,vs,vi,vy,vb,vb,vb,vi,vb,vb,vs,vi,vy,vb,vb,vb,vs,vi,vy,vb,vb,vb,vb,vb,vs,vi,vb],obs:=[],tk:=[8,15,18,24,33],keep:=[(0,[0]),(1,[0,3]),(2,[0,3,7]),(3,[0,3]),(4,[0,3,32]),(5,[2]),(6,[2])] }
def F224:FA:= { n:=10,sh:=[vs,vj,vb,vs,vb,vb,vs,vb,vb,vb],obs:=[],tk:=[5,6],keep:=[(0,[0]),(1,[2])] }
def F225:FA:= { n:=6,sh:=[.one (.ag tl0), .one (.ptr 1 0),vb, .one (.ag tl0),vi,vb],obs:=[(1,tl0)],tk:=[3],keep:=[(0,[1]),(1,[2])] }
def F227:FA:= { n:=23,sh:=[vs,vj,vb,vi,vi,vs,vi,vb,vi,vi,vs,vi,vy,vb,vb,vs,vi,vb,vb,vs,vy,vb,vb],obs:=[],tk:=[8,18,19],keep:=[(0,[0]),(1,[0,3]),(2,[0,3,7]),(3,[0,3]),(4,[0,3,14]),(5,[2]),(6,[2])] }
def F228:FA:= { n:=17,sh:=[vs,vj,vb,vs,vb,vb,vs,vb,vb,vb,vs,vb,vb,vb,vs,vb,vb],obs:=[],tk:=[5,9,13,14],keep:=[(0,[0]),(1,[2])] }
def F232:FA:= { n:=134,sh:=[.one (.ag tl0),vb, .one (.ptr 2 0),vj,vb,vi, .one (.ptr 2 3),vl,vi, .one (.ptr 2 0),vi,vb,vb, .one (.ptr 2 4),vl,vi,vb,vb,vb, .one (.ptr 2 0),vi,vb,vb, .one (.ptr 2 1),vi,vb,vb,vb, .one (.ptr 2 0),vi,vb,vb, .one (.ptr 2 1),vi,vb,vb, .one (.ptr 2 2),vs,vb,vb,vb,vi,vb,vb,vb,vb, .one (.ptr 2 2),vs,vb,vb,vi,vb,vb,vb,vb, .one (.ptr 2 2),vs,vb,vb,vi,vb,vb,vb,vb,vb, .one (.ptr 2 2),vs,vb,vb,vb,vb,vb,vb, .one (.ptr 2 2),vs,vb,vb,vi,vb,vb,vb,vb, .one (.ptr 2 2),vs,vb,vb,vi,vb,vb,vb,vb,vb,vb,vb, .one (.ptr 2 2),vs,vb,vb,vb,vi,vb,vb,vb,vb,vb,vb,vb, .one (.ptr 2 2),vs,vb,vb,vb,vi,vb,vb,vb,vb,vb,vb,vb, .one (.ptr 2 2),vs,vb,vb,vb,vi,vb,vb,vb, .one (.ptr 2 4),vl,vi,vb,vb],obs:=[(2,tl0)],tk:=[7,12,18,22,29,33,35,37,40,41,47,49,50,58,59,62,63,64,66,74,76,77,83,85,86,91,93,95,98,99,104,106,108,111,112,117,119,121,124,125,128,130],keep:=[(0,[1,2]),(1,[1,2,5]),(2,[1,2,5,27]),(3,[4]),(4,[1,2,5,29]),(5,[1,2,5,29,30]),(6,[4]),(7,[1,2,5,29,44]),(8,[4]),(9,[1,2,5,29,53]),(10,[4]),(11,[1,2,5,29,70]),(12,[1,2,5,29,70]),(13,[4]),(14,[1,2,5,29,80]),(15,[4]),(16,[1,2,5,29,89]),(17,[4]),(18,[1,2,5,29,102]),(19,[4]),(20,[1,2,5,115]),(21,[4]),(22,[4])] }
def F233:FA:= { n:=85,sh:=[.one (.ag tl1), .one (.ptr 1 0),vb, .one (.ptr 1 0),vi,vb,vb, .one (.ptr 1 1),vi,vb,vb, .one (.ptr 1 2),vs,vb,vb,vb, .one (.ptr 1 3),vl,vi,vb,vb,vb,vb, .one (.ptr 1 2),vs,vb,vb, .one (.ptr 1 1),vi,vb,vb,vb, .one (.ptr 1 3),vl,vi,vb,vb,vb,vb, .one (.ptr 1 1),vi,vb,vb, .one (.ptr 1 2),vs,vb,vb,vb, .one (.ptr 1 3),vl,vi,vb,vb,vb,vb, .one (.ptr 1 1),vi,vb,vb, .one (.ptr 1 2),vs,vb,vb,vb, .one (.ptr 1 3),vl,vi,vb,vb,vb,vb, .one (.ptr 1 1),vi,vb,vb, .one (.ptr 1 2),vs,vb,vb,vb, .one (.ptr 1 3),vl,vi,vb,vb],obs:=[(1,tl1)],tk:=[4,8,10,12,15,17,24,26,28,31,33,40,42,44,47,49,56,58,60,63,65,72,74,76,79,81],keep:=[(0,[1]),(1,[1,4]),(2,[1,4,5]),(3,[2]),(4,[1,4,21]),(5,[2]),(6,[1,4,37]),(7,[2]),(8,[1,4,53]),(9,[2]),(10,[1,69]),(11,[2]),(12,[2])] }
def F234:FA:= { n:=107,sh:=[vi,vi,vs,vi,vj,vj,vj,vj,vb,vi,vb,vb,vi,vb,vb,vs,vb,vb,vb,vi,vb,vb,vb,vb,vi,vb,vb,vs,vb,vb,vb,vi,vb,vb,vb,vb,vi,vb,vb,vs,vb,vb,vb,vi,vb,vb,vb,vb,vb,vi,vb,vb,vs,vb,vb,vb,vi,vb,vb,vb,vb,vi,vb,vb,vs,vb,vb,vb,vi,vb,vb,vb,vb,vi,vb,vb,vs,vb,vb,vb,vi,vb,vb,vb,vb,vi,vb,vb,vs,vb,vb,vb,vi,vb,vb,vb,vb,vi,vb,vb,vs,vb,vb,vb,vi,vb,vb],obs:=[],tk:=[9,12,14,15,18,19,24,26,27,30,31,36,38,39,42,43,49,51,52,55,56,61,63,64,67,68,73,75,76,79,80,85,87,88,91,92,97,99,100,103,104],keep:=[(0,[0,1,2,3]),(1,[1,2,3,9]),(2,[1,2,3,9,10]),(3,[8]),(4,[1,2,3,9,22]),(5,[8]),(6,[1,2,3,9,34]),(7,[8]),(8,[1,2,3,9,46]),(9,[1,2,3,9,46]),(10,[8]),(11,[1,2,3,9,59]),(12,[8]),(13,[1,2,3,9,71]),(14,[8]),(15,[1,2,3,9,83]),(16,[8]),(17,[1,2,3,95]),(18,[8]),(19,[8])] }
def F236:FA:= { n:=9,sh:=[vy,vj,vb,vy,vb,vb,vy,vb,vb],obs:=[],tk:=[5,6],keep:=[(0,[0]),(1,[2])] }
def F237:FA:= { n:=9,sh:=[vy,vj,vb,vy,vb,vb,vy,vb,vb],obs:=[],tk:=[5,6],keep:=[(0,[0]),(1,[2])] }
def F238:FA:= { n:=14,sh:=[.one (.ptr 1000000 0),vl,vj,vj, .one (.ptr 4 0), .one (.ptr 5 0), .one (.ptr 1000000 0),vl, .one (.ag tl0), .one (.ag tl0),vb,vb, .one (.ag tl0), .one (.ag tl0)],obs:=[(4,tl0),(5,tl0),(1000000,tl3)],tk:=[6,7,13],keep:=[(0,[0,1,4]),(1,[4,5]),(2,[4,5,11]),(3,[4]),(4,[4])] }
def F239:FA:= { n:=36,sh:=[vl,vj,vl,vi,vj,vl,vl,vj,vl,vl,vi,vi,vb, .one (.cp [.sl []]),vl,vi,vl,vi,vi,vi,vb, .one (.ifc true),vi,vi,vl,vl,vi,vi,vb, .one (.cp [.sl []]),vl,vl,vl,vl,vi,vl],obs:=[],tk:=[11,15,16,23,25,27,31,32,35],keep:=[(0,[0]),(1,[0,3]),(2,[0,3,9,10,11]),(3,[0,3,9,10,11,12]),(4,[0,3,5,9,10,11]),(5,[0,3,9,10,11]),(6,[0,3,9,10,11,20]),(7,[]),(8,[0,3,9,10,11]),(9,[0,6]),(10,[6,25,26,27]),(11,[6,25,26,27,28]),(12,[6,8,25,26,27]),(13,[6,25,26,27]),(14,[6,25,26,27]),(15,[2])] }
def F253:FA:= { n:=10,sh:=[vy,vj,vb,vy,vi,vb,vb,vy,vb,vb],obs:=[],tk:=[6,7],keep:=[(0,[0]),(1,[2])] }
def F254:FA:= { n:=6,sh:=[vy,vj,vb,vy,vi,vb],obs:=[],tk:=[3],keep:=[(0,[0]),(1,[2])] }
def F255:FA:= { n:=6,sh:=[vy,vj,vb,vy,vi,vb],obs:=[],tk:=[3],keep:=[(0,[0]),(1,[2])] }
def F256:FA:= { n:=13,sh:=[vs,vj,vb,vs,vb,vb,vs,vb,vb,vb,vs,vb,vb],obs:=[],tk:=[5,9,10],keep:=[(0,[0]),(1,[2])] }
def F257:FA:= { n:=13,sh:=[vy,vj,vb,vy,vb,vb,vy,vb,vb,vb,vy,vb,vb],obs:=[],tk:=[5,9,10],keep:=[(0,[0]),(1,[2])] }
def F258:FA:= { n:=13,sh:=[vy,vj,vb,vy,vb,vb,vy,vb,vb,vb,vy,vb,vb],obs:=[],tk:=[5,9,10],keep:=[(0,[0]),(1,[2])] }
def F260:FA:= { n:=21,sh:=[vs,vj,vb,vs,vb,vb,vs,vb,vb,vb,vs,vb,vb,vb,vs,vb,vb,vb,vs,vb,vb],obs:=[],tk:=[5,9,13,17,18],keep:=[(0,[0]),(1,[2])] }
def F261:FA:= { n:=10,sh:=[vs,vj,vb,vs,vb,vb,vb,vb,vb,vb],obs:=[],tk:=[3],keep:=[(0,[0]),(1,[3]),(2,[3,4]),(3,[3,4]),(4,[3,4]),(5,[3,4]),(6,[4]),(7,[2]),(8,[2])] }
def F265:FA:= { n:=184,sh:=[.one (.ptr 1000000 0),vi,vl,vj,vj,vj, .one (.ptr 6 0),vi, .one (.ptr 8 0),vi, .one (.ptr 10 0),vi,vi, .one (.ptr 13 0),vi, .one (.ptr 15 0), .one (.ptr 16 0), .one (.ptr 1000000 0),vi,vi,vb, .one (.ptr 1000000 0),vi,vi,vb,vb, .one (.ptr 1000000 0),vl,vi, .one (.ag tl0),vb,vb, .one (.ptr 1000000 0),vl,vs, .one (.ag tl0),vb,vb,vb,vb,vl,vi,vb,vl, .one (.ptr 1000000 0),vl,vi,vi, .one (.cp [.str []]),vs, .one (.ag tl0), .one (.ptr 1000000 0),vi, .one (.ag tl0),vb,vb,vb, .one (.ptr 1000000 0),vl,vs, .one (.ptr 1000000 0),vi,vi,vl, .one (.ag tl0), .one (.ptr 1000000 0),vi,vi,vl, .one (.ag tl0),vl, .one (.ag tl0),vb,vb, .one (.ptr 1000000 0),vl,vi, .one (.ag tl0), .one (.ptr 1000000 0),vi,vi,vb,vi,vi, .one (.ptr 8 3),vl, .one (.ptr 1000000 0),vi,vi,vl, .one (.ag tl0),vl,vl, .one (.ptr 8 3), .one (.ag tl0),vb,vb, .one (.ptr 1000000 0),vi,vi,vl, .one (.ag tl0), .one (.ptr 1000000 0),vi,vi,vl, .one (.ag tl0),vl, .one (.ag tl0),vl, .one (.ag tl0),vb,vb, .one (.ptr 1000000 0),vl,vs, .one (.ag tl0), .one (.ptr 10 2),vs,vb,vi,vi,vb,vi,vi, .one (.ptr 10 3),vl, .one (.ptr 1000000 0),vi,vi,vl, .one (.ag tl0),vl,vl, .one (.ptr 10 3), .one (.ag tl0), .one (.ptr 1000000 0),vi,vi,vl, .one (.ag tl0),vl, .one (.ag tl0), .one (.ptr 1000000 0),vi,vi,vi,vb,vi,vi,vl, .one (.ptr 1000000 0), .one (.ag tl0), .one (.ptr 13 4),vl, .one (.ag tl0), .one (.ptr 1000000 0),vi,vi,vl,vl,vl,vl,vl, .one (.ag tl0), .one (.ag tl2),vl,vl, .one (.ptr 13 4), .one (.ptr 1000000 0),vb, .one (.ptr 13 4),vl, .one (.ag tl0), .one (.ptr 1000000 0),vi,vi,vl, .one (.ag tl0), .one (.ag tl2),vl,vl, .one (.ptr 13 4), .one (.ag tl0)],obs:=[(6,tl0),(8,tl0),(10,tl0),(13,tl0),(15,[.sl []]),(16,tl0),(1000000,tl3)],tk:=[23,26,32,44,45,51,65,66,68,82,85,94,102,103,105,123,126,135,148,154,155,162,172,174,175,177,183],dp:=[27,33,58,70,75,91,92,107,109,114,132,133,141,150,159,161,163,166,167,180,181],fz:=[27,33,58,75,114,163],keep:=[(0,[0,1,2,6]),(1,[0,1,2,6,7]),(2,[0,1,2,6,7,20]),(3,[0,1,2,6,7]),(4,[0,1,2,6,23]),(5,[0,1,2,6,23,24]),(6,[6]),(7,[0,1,2,6,23,30]),(8,[6]),(9,[0,1,2,6,23,36]),(10,[0,1,2,6,23,36]),(11,[0,1,2,6,23,36]),(12,[0,2,6,42]),(13,[6]),(14,[6]),(15,[0,1,2,6,23,54]),(16,[0,1,2,6,23,54]),(17,[6]),(18,[0,1,2,6,23,72]),(19,[0,1,2,6,8]),(20,[0,1,2,6,8,9]),(21,[0,1,2,6,8,9,81]),(22,[0,1,2,6,8,9]),(23,[0,1,2,6,8,9]),(24,[6]),(25,[0,1,2,6,23,95]),(26,[6]),(27,[0,1,2,6,111]),(28,[0,1,2,6,10]),(29,[0,1,2,6,10,11]),(30,[0,1,2,6,10,11,119]),(31,[0,1,2,6,10,11]),(32,[0,1,2,6,10,11,12]),(33,[0,1,2,6,10,11,12,122]),(34,[0,1,2,6,10,11,12]),(35,[0,1,2,6,10,11,12]),(36,[6]),(37,[0,1,2,6,13]),(38,[0,1,2,6,13,14]),(39,[0,1,2,6,13,14,147]),(40,[0,1,2,6,13,14]),(41,[0,1,2,6,13,14,15]),(42,[0,1,2,6,13,14,15,16]),(43,[0,1,2,6,13,14]),(44,[0,1,2,6,13,170]),(45,[6,13]),(46,[6])] }
def F266:FA:= { n:=0,sh:=[],obs:=[],lb:=some ([[[.N]],[[.S]]],[[.A 4]],true) }
def An:FuncId→FA
  | 10=>F10
  | 45=>F45
  | 48=>F48
  | 49=>F49
  | 51=>F51
  | 58=>F58
  | 59=>F59
  | 60=>F60
  | 61=>F61
  | 62=>F62
  | 69=>F69
  | 72=>F72
  | 75=>F75
  | 77=>F77
  | 96=>F96
  | 107=>F107
  | 108=>F108
  | 109=>F109
  | 112=>F112
  | 118=>F118
  | 119=>F119
  | 120=>F120
  | 121=>F121
  | 122=>F122
  | 123=>F123
  | 124=>F124
  | 128=>F128
  | 129=>F129
  | 130=>F130
  | 131=>F131
  | 132=>F132
  | 133=>F133
  | 134=>F134
  | 156=>F156
  | 182=>F182
  | 183=>F183
  | 184=>F184
  | 185=>F185
  | 186=>F186
  | 189=>F189
  | 190=>F190
  | 191=>F191
  | 192=>F192
  | 193=>F193
  | 194=>F194
  | 196=>F196
  | 197=>F197
  | 198=>F198
  | 199=>F199
  | 200=>F200
  | 201=>F201
  | 202=>F202
  | 203=>F203
  | 204=>F204
  | 223=>F223
  | 224=>F224
  | 225=>F225
  | 227=>F227
  | 228=>F228
  | 232=>F232
  | 233=>F233
  | 234=>F234
  | 236=>F236
  | 237=>F237
  | 238=>F238
  | 239=>F239
  | 253=>F253
  | 254=>F254
  | 255=>F255
  | 256=>F256
  | 257=>F257
  | 258=>F258
  | 260=>F260
  | 261=>F261
  | 265=>F265
  | 266=>F266
  | _=> { n:=0,sh:=[],obs:=[] }
abbrev sg10:Sg:= { bi:=⟨[(0,[[.F]])],[]⟩,bo:=⟨[(0,[[.S]])],[]⟩,np:=1,ext:=false }
abbrev sg45:Sg:= { bi:=⟨[(0,[[.F]])],[]⟩,bo:=⟨[(0,[[.S]])],[]⟩,np:=1,ext:=false }
abbrev sg48:Sg:= { bi:=⟨[(0,[[.S, .S, .S, .F]]),(1,[[.S, .S, .S, .F]])],[]⟩,bo:=⟨[(0,[[.S]])],[]⟩,np:=2,ext:=false }
abbrev sg49:Sg:= { bi:=⟨[(0,[[.S, .S, .S, .F, .F]]),(1,[[.S, .S, .S, .F]])],[]⟩,bo:=⟨[(0,[[.U 5],[.S]])],[]⟩,np:=2,ext:=false }
abbrev sg51:Sg:= { bi:=⟨[(0,[[.S, .S, .S, .F, .F]]),(1,[[.S, .S, .S, .F]])],[]⟩,bo:=⟨[(0,[[.A 5],[.S]])],[]⟩,np:=2 }
abbrev sg58:Sg:= { bi:=⟨[(0,[[.F]])],[]⟩,bo:=⟨[(0,[[.S, .S, .S, .F, .F],[.S, .S, .S, .F]])],[]⟩,np:=1 }
abbrev sg59:Sg:= { bi:=⟨[(0,[[.S, .S, .S, .F, .F]])],[]⟩,bo:=⟨[(0,[[.U 1]])],[]⟩,np:=1,ext:=false }
abbrev sg60:Sg:= { bi:=⟨[(0,[[.F]]),(1,[[.S]])],[]⟩,bo:=⟨[(0,[[.S, .S, .S, .U 4],[.S]])],[]⟩,np:=2,ext:=false }
abbrev sg61:Sg:= { bi:=⟨[(0,[[.S, .S, .S, .F]])],[]⟩,bo:=⟨[(0,[[.S]])],[]⟩,np:=1,ext:=false }
abbrev sg62:Sg:= { bi:=⟨[(0,[[.S, .S, .S, .F, .F]]),(1,[[.F]])],[]⟩,bo:=⟨[(0,[[.S, .S, .S, .A 4],[.S]])],[]⟩,np:=2 }
abbrev sg69:Sg:= { bi:=⟨[(0,[[.S]]),(1,[[.S]]),(2,[[.S]])],[]⟩,bo:=⟨[(0,[[.S]])],[]⟩,np:=3,ext:=false }
abbrev sg72:Sg:= { bi:=⟨[(0,[[.F]])],[]⟩,bo:=⟨[(0,[[.S]])],[]⟩,np:=1,ext:=false }
abbrev sg75:Sg:= { bi:=⟨[(0,[[.S]]),(1,[[.S]]),(2,[[.S]])],[]⟩,bo:=⟨[(0,[[.S]])],[]⟩,np:=3,ext:=false }
abbrev sg77:Sg:= { bi:=⟨[(0,[[.F]]),(1,[[.S]])],[]⟩,bo:=⟨[(0,[[.S]])],[]⟩,np:=2,ext:=false }
abbrev sg96:Sg:= { bi:=⟨[(0,[[.F]]),(1,[[.S]])],[]⟩,bo:=⟨[(0,[[.S]])],[]⟩,np:=2,ext:=false }
abbrev Zd:Sg:= { bi:=⟨[(0,[[.S, .S, .S, .F, .F]])],[]⟩,bo:=⟨[(0,[[.S]])],[]⟩,np:=1,ext:=false }
abbrev Zc:Sg:= { bi:=⟨[(0,[[.S, .S, .S, .F]])],[]⟩,bo:=⟨[(0,[[.S]])],[]⟩,np:=1,ext:=false }
abbrev Zb:Sg:= { bi:=⟨[(0,[[.S, .S, .S, .F, .F]]),(1,[[.S, .S, .S, .F]]),(2,[[.S]])],[(1000000,[.A 5])]⟩,bo:=⟨[(0,[[.S]])],[(1000000,[.A 5])]⟩,np:=3,no:=1 }
abbrev Za:Sg:= { bi:=⟨[(0,[[.F]])],[]⟩,bo:=⟨[(0,[[.U 4]])],[]⟩,np:=1,ext:=false }
abbrev ZZ:Sg:= { bi:=⟨[(0,[[.F]])],[]⟩,bo:=⟨[(0,[[.S]])],[(0,[.F, .S, .S])]⟩,np:=1 }
abbrev ZY:Sg:= { bi:=⟨[(0,[[.S]]),(1,[[.S]])],[(1000000,[.F, .S, .S])]⟩,bo:=⟨[(0,[[.S]])],[(1000000,[.F, .S, .S])]⟩,np:=2,no:=1 }
abbrev ZX:Sg:= { bi:=⟨[(0,[[.S]]),(1,[[.S]])],[(1000000,[.F, .S, .S])]⟩,bo:=⟨[(0,[[.S, .S, .S, .U 4]])],[(1000000,[.F, .S, .S])]⟩,np:=2,no:=1 }
abbrev ZW:Sg:= { bi:=⟨[(0,[[.S]]),(1,[[.S]])],[(1000000,[.F, .S, .S])]⟩,bo:=⟨[(0,[[.S]])],[(1000000,[.F, .S, .S])]⟩,np:=2,no:=1 }
abbrev ZV:Sg:= { bi:=⟨[(0,[[.F]]),(1,[[.F]]),(2,[[.S]])],[]⟩,bo:=⟨[(0,[[.S]])],[]⟩,np:=3,ext:=false }
abbrev ZU:Sg:= { bi:=⟨[(0,[[.S, .S, .S, .F, .F]])],[]⟩,bo:=⟨[(0,[[.S]])],[]⟩,np:=1,ext:=false }
abbrev ZT:Sg:= { bi:=⟨[(0,[[.S, .S, .S, .F, .F]]),(1,[[.S, .S, .S, .F]]),(2,[[.U 5]])],[]⟩,bo:=⟨[(0,[[.U 5],[.S]])],[]⟩,np:=3 }
abbrev ZS:Sg:= { bi:=⟨[(0,[[.S]]),(1,[[.S]]),(2,[[.S]])],[(1000000,[.F, .S, .S]),(1000001,[.A 1])]⟩,bo:=⟨[(0,[[.S, .S, .S, .U 5, .N]])],[(1000000,[.F, .S, .S]),(1000001,[.A 1])]⟩,np:=3,no:=2 }
abbrev ZR:Sg:= { bi:=⟨[(0,[[.S]]),(1,[[.S, .S, .S, .F, .F]])],[(1000000,[.F, .S, .S])]⟩,bo:=⟨[(0,[[.S, .S, .S, .U 4]])],[(1000000,[.F, .S, .S])]⟩,np:=2,no:=1 }
abbrev ZQ:Sg:= { bi:=⟨[(0,[[.S]])],[(1000000,[.F, .S, .S])]⟩,bo:=⟨[(0,[[.S, .S, .S, .F]])],[(1000000,[.F, .S, .S])]⟩,np:=1,no:=1 }
abbrev ZP:Sg:= { bi:=⟨[(0,[[.S]])],[(1000000,[.F, .S, .S])]⟩,bo:=⟨[(0,[[.S, .S, .S, .F, .F]])],[(1000000,[.F, .S, .S])]⟩,np:=1,no:=1 }
abbrev ZO:Sg:= { bi:=⟨[(0,[[.S, .S, .S, .F]])],[]⟩,bo:=⟨[(0,[[.S, .S, .S, .U 4]])],[]⟩,np:=1,ext:=false }
abbrev ZN:Sg:= { bi:=⟨[(0,[[.S, .S, .S, .F]]),(1,[[.S]])],[]⟩,bo:=⟨[(0,[[.S]])],[]⟩,np:=2,ext:=false }
abbrev ZM:Sg:= { bi:=⟨[(0,[[.S, .S, .S, .F, .F]]),(1,[[.F]])],[]⟩,bo:=⟨[(0,[[.S, .S, .S, .A 4],[.S]])],[]⟩,np:=2 }
abbrev ZL:Sg:= { bi:=⟨[(0,[[.F]]),(1,[[.S]])],[]⟩,bo:=⟨[(0,[[.S]])],[]⟩,np:=2,ext:=false }
abbrev ZK:Sg:= { bi:=⟨[(0,[[.S, .S, .S, .F]])],[]⟩,bo:=⟨[(0,[[.S, .S, .S, .U 4]])],[]⟩,np:=1,ext:=false }
abbrev ZJ:Sg:= { bi:=⟨[(0,[[.S, .S, .S, .F, .F]]),(1,[[.S]]),(2,[[.S]]),(3,[[.S]])],[]⟩,bo:=⟨[(0,[[.S]])],[]⟩,np:=4,ext:=false }
abbrev ZI:Sg:= { bi:=⟨[(0,[[.S, .S, .S, .F, .F]])],[]⟩,bo:=⟨[(0,[[.U 1]])],[]⟩,np:=1,ext:=false }
abbrev ZH:Sg:= { bi:=⟨[(0,[[.S, .S, .S, .F]]),(1,[[.S]]),(2,[[.S]])],[]⟩,bo:=⟨[(0,[[.S]])],[]⟩,np:=3,ext:=false }
abbrev ZG:Sg:= { bi:=⟨[(0,[[.F]]),(1,[[.F]]),(2,[[.S]])],[(1000000,[.A 5])]⟩,bo:=⟨[(0,[[.S]])],[(1000000,[.A 5])]⟩,np:=3,no:=1 }
abbrev ZF:Sg:= { bi:=⟨[(0,[[.S]])],[(1000000,[.F, .S, .S])]⟩,bo:=⟨[(0,[[.S]])],[(1000000,[.F, .S, .S])]⟩,np:=1,no:=1 }
abbrev ZE:Sg:= { bi:=⟨[(0,[[.S]]),(1,[[.F]])],[(1000000,[.F, .S, .S])]⟩,bo:=⟨[(0,[[.S]])],[(1000000,[.F, .S, .S])]⟩,np:=2,no:=1 }
abbrev ZD:Sg:= { bi:=⟨[(0,[[.S]]),(1,[[.F]])],[(1000000,[.F, .S, .S])]⟩,bo:=⟨[(0,[[.S]])],[(1000000,[.F, .S, .S])]⟩,np:=2,no:=1 }
abbrev ZC:Sg:= { bi:=⟨[(0,[[.S]]),(1,[[.S, .S, .S, .F, .F]]),(2,[[.S]])],[(1000000,[.S, .A 1])]⟩,bo:=⟨[(0,[[.S]])],[(1000000,[.S, .A 1])]⟩,np:=3,no:=1 }
abbrev ZB:Sg:= { bi:=⟨[(0,[[.F]]),(1,[[.F]]),(2,[[.U 5]])],[]⟩,bo:=⟨[(0,[[.U 5],[.S]])],[]⟩,np:=3 }
abbrev ZA:Sg:= { bi:=⟨[(0,[[.S]])],[]⟩,bo:=⟨[(0,[[.S]])],[]⟩,np:=1,ext:=false }
abbrev Yz:Sg:= { bi:=⟨[(0,[[.S]])],[]⟩,bo:=⟨[(0,[[.S]])],[]⟩,np:=1,ext:=false }
abbrev Yy:Sg:= { bi:=⟨[(0,[[.S]])],[]⟩,bo:=⟨[(0,[[.S, .S, .S, .N, .N]])],[]⟩,np:=1,ext:=false }
abbrev Yx:Sg:= { bi:=⟨[(0,[[.S]])],[]⟩,bo:=⟨[(0,[[.S, .S, .S, .N, .N]])],[]⟩,np:=1,ext:=false }
abbrev Yw:Sg:= { bi:=⟨[(0,[[.S]]),(1,[[.S, .S, .S, .F]])],[(1000000,[.F, .S, .S])]⟩,bo:=⟨[(0,[[.S, .S, .S, .U 4]])],[(1000000,[.F, .S, .S])]⟩,np:=2,no:=1 }
abbrev Yv:Sg:= { bi:=⟨[(0,[[.S]]),(1,[[.S, .S, .S, .F, .F]])],[(1000000,[.F, .S, .S])]⟩,bo:=⟨[(0,[[.S, .S, .S, .U 5, .U 10]])],[(1000000,[.F, .S, .S])]⟩,np:=2,no:=1 }
abbrev Yu:Sg:= { bi:=⟨[(0,[[.S, .S, .S, .F, .F]])],[]⟩,bo:=⟨[(0,[[.S, .S, .S, .U 5, .U 10]])],[]⟩,np:=1,ext:=false }
abbrev Yt:Sg:= { bi:=⟨[(0,[[.S]])],[(1000000,[.F, .S, .S])]⟩,bo:=⟨[(0,[[.S, .S, .S, .F, .F]])],[(1000000,[.F, .S, .S])]⟩,np:=1,no:=1 }
abbrev Ys:Sg:= { bi:=⟨[(0,[[.S, .S, .S, .F]])],[]⟩,bo:=⟨[(0,[[.S]])],[]⟩,np:=1,ext:=false }
abbrev Yr:Sg:= { bi:=⟨[(0,[[.F]])],[]⟩,bo:=⟨[(0,[[.S, .S, .S, .A 4],[.S]])],[]⟩,np:=1 }
abbrev Yq:Sg:= { bi:=⟨[(0,[[.S]])],[]⟩,bo:=⟨[(0,[[.S]])],[]⟩,np:=1,ext:=false }
abbrev Yp:Sg:= { bi:=⟨[(0,[[.S]])],[]⟩,bo:=⟨[(0,[[.S]])],[]⟩,np:=1,ext:=false }
abbrev Yo:Sg:= { bi:=⟨[(0,[[.S, .S, .S, .F, .F]])],[]⟩,bo:=⟨[(0,[[.S]])],[]⟩,np:=1,ext:=false }
abbrev Yn:Sg:= { bi:=⟨[(0,[[.S]])],[]⟩,bo:=⟨[(0,[[.S]])],[]⟩,np:=1,ext:=false }
abbrev Ym:Sg:= { bi:=⟨[(0,[[.S]])],[]⟩,bo:=⟨[(0,[[.S]])],[]⟩,np:=1,ext:=false }
abbrev Yl:Sg:= { bi:=⟨[(0,[[.S, .S, .S, .F, .F]]),(1,[[.S]])],[]⟩,bo:=⟨[(0,[[.S]])],[]⟩,np:=2,ext:=false }
abbrev Yk:Sg:= { bi:=⟨[(0,[[.S, .S, .S, .F]])],[]⟩,bo:=⟨[(0,[[.S]])],[]⟩,np:=1,ext:=false }
abbrev Yj:Sg:= { bi:=⟨[(0,[[.S]]),(1,[[.S]]),(2,[[.S]]),(3,[[.S]])],[]⟩,bo:=⟨[(0,[[.S]])],[]⟩,np:=4,ext:=false }
abbrev Yi:Sg:= { bi:=⟨[(0,[[.S]])],[]⟩,bo:=⟨[(0,[[.S]])],[]⟩,np:=1,ext:=false }
abbrev Yh:Sg:= { bi:=⟨[(0,[[.S]])],[]⟩,bo:=⟨[(0,[[.S]])],[]⟩,np:=1,ext:=false }
abbrev Yg:Sg:= { bi:=⟨[(0,[[.S]]),(1,[[.F]])],[(1000000,[.F, .S, .S])]⟩,bo:=⟨[(0,[[.S, .S, .S, .U 5, .U 10]])],[(1000000,[.F, .S, .S])]⟩,np:=2,no:=1 }
abbrev Yf:Sg:= { bi:=⟨[(0,[[.F]])],[]⟩,bo:=⟨[(0,[[.A 4]])],[]⟩,np:=1 }
abbrev Ye:Sg:= { bi:=⟨[(0,[[.S]])],[]⟩,bo:=⟨[(0,[[.S]])],[]⟩,np:=1,ext:=false }
abbrev Yd:Sg:= { bi:=⟨[(0,[[.S]])],[]⟩,bo:=⟨[(0,[[.S]])],[]⟩,np:=1,ext:=false }
abbrev Yc:Sg:= { bi:=⟨[(0,[[.S]])],[]⟩,bo:=⟨[(0,[[.S]])],[]⟩,np:=1,ext:=false }
abbrev Yb:Sg:= { bi:=⟨[(0,[[.S]])],[]⟩,bo:=⟨[(0,[[.S]])],[]⟩,np:=1,ext:=false }
abbrev Ya:Sg:= { bi:=⟨[(0,[[.S]])],[]⟩,bo:=⟨[(0,[[.S]])],[]⟩,np:=1,ext:=false }
abbrev YZ:Sg:= { bi:=⟨[(0,[[.S]])],[]⟩,bo:=⟨[(0,[[.S]])],[]⟩,np:=1,ext:=false }
abbrev YY:Sg:= { bi:=⟨[(0,[[.S]])],[]⟩,bo:=⟨[(0,[[.S]])],[]⟩,np:=1,ext:=false }
abbrev YX:Sg:= { bi:=⟨[(0,[[.S]])],[]⟩,bo:=⟨[(0,[[.S]])],[]⟩,np:=1,ext:=false }
abbrev YW:Sg:= { bi:=⟨[(0,[[.S]]),(1,[[.S]]),(2,[[.F]])],[(1000000,[.F, .S, .S])]⟩,bo:=⟨[(0,[[.S, .S, .S, .U 5, .U 10]])],[(1000000,[.F, .S, .S])]⟩,np:=3,no:=1 }
abbrev YV:Sg:= { bi:=⟨[(0,[[.N]]),(1,[[.S]])],[]⟩,bo:=⟨[(0,[[.A 4]])],[]⟩,np:=2 }
def Sgs:FuncId→List Sg
  | 10=> [sg10]
  | 45=> [sg45]
  | 48=> [sg48]
  | 49=> [sg49]
  | 51=> [sg51]
  | 58=> [sg58]
  | 59=> [sg59]
  | 60=> [sg60]
  | 61=> [sg61]
  | 62=> [sg62]
  | 69=> [sg69]
  | 72=> [sg72]
  | 75=> [sg75]
  | 77=> [sg77]
  | 96=> [sg96]
  | 107=> [Zd]
  | 108=> [Zc]
  | 109=> [Zb]
  | 112=> [Za]
  | 118=> [ZZ]
  | 119=> [ZY]
  | 120=> [ZX]
  | 121=> [ZW]
  | 122=> [ZV]
  | 123=> [ZU]
  | 124=> [ZT]
  | 128=> [ZS]
  | 129=> [ZR]
  | 130=> [ZQ]
  | 131=> [ZP]
  | 132=> [ZO]
  | 133=> [ZN]
  | 134=> [ZM]
  | 156=> [ZL]
  | 182=> [ZK]
  | 183=> [ZJ]
  | 184=> [ZI]
  | 185=> [ZH]
  | 186=> [ZG]
  | 189=> [ZF]
  | 190=> [ZE]
  | 191=> [ZD]
  | 192=> [ZC]
  | 193=> [ZB]
  | 194=> [ZA]
  | 196=> [Yz]
  | 197=> [Yy]
  | 198=> [Yx]
  | 199=> [Yw]
  | 200=> [Yv]
  | 201=> [Yu]
  | 202=> [Yt]
  | 203=> [Ys]
  | 204=> [Yr]
  | 223=> [Yq]
  | 224=> [Yp]
  | 225=> [Yo]
  | 227=> [Yn]
  | 228=> [Ym]
  | 232=> [Yl]
  | 233=> [Yk]
  | 234=> [Yj]
  | 236=> [Yi]
  | 237=> [Yh]
  | 238=> [Yg]
  | 239=> [Yf]
  | 253=> [Ye]
  | 254=> [Yd]
  | 255=> [Yc]
  | 256=> [Yb]
  | 257=> [Ya]
  | 258=> [YZ]
  | 260=> [YY]
  | 261=> [YX]
  | 265=> [YW]
  | 266=> [YV]
  | _=> []
end Go.Own
