/- What is told of the functions: shapes and kinds. No conditions. -/
import Derived.Test.YtjfgchodolnmcaaProg
import Derived.KernelRfl
import Derived.WalkKit
import Derived.Lib.Walk
import Derived.Lib.SliceRun
import Derived.Deep.LoopGhost
import Derived.Shelf.RegionOpenPlain
import Derived.Test.YtjfgchodolnmcaaOwn3
set_option linter.unusedVariables false
set_option linter.unusedSimpArgs false
set_option linter.unnecessarySimpa false
namespace Go.Own
open Go Go.Proofs
def τ:TypeId→Option TI
  | 3=>some { size:=1,bytes:=8,zero:=[.int .i64 0],agg:=false,kind:= .int .i64 }
  | 4=>some { size:=1,bytes:=1,zero:=[.bool false],agg:=false,kind:= .bool }
  | 5=>some { size:=1,bytes:=1,zero:=[.int .u8 0],agg:=false,kind:= .int .u8 }
  | 9=>some { size:=1,bytes:=16,zero:=[.str []],agg:=false,kind:= .str }
  | 48=>some { size:=1,bytes:=24,zero:=[.sl []],agg:=false,kind:= .sl 5 }
  | 58=>some { size:=1,bytes:=24,zero:=[.sl []],agg:=false,kind:= .sl 240 }
  | 59=>some { size:=1,bytes:=24,zero:=[.sl []],agg:=false,kind:= .sl 243 }
  | 61=>some { size:=2,bytes:=48,zero:=[.sl [], .sl []],agg:=true,kind:= .struct [(0,1,false),(1,1,false)] }
  | 64=>some { size:=1,bytes:=24,zero:=[.sl []],agg:=false,kind:= .sl 84 }
  | 65=>some { size:=1,bytes:=24,zero:=[.sl []],agg:=false,kind:= .sl 90 }
  | 67=>some { size:=2,bytes:=48,zero:=[.sl [], .sl []],agg:=true,kind:= .struct [(0,1,false),(1,1,false)] }
  | 82=>some { size:=1,bytes:=24,zero:=[.sl []],agg:=false,kind:= .sl 153 }
  | 84=>some { size:=4,bytes:=56,zero:=[.str [], .int .i64 0, .int .i64 0, .sl []],agg:=true,kind:= .struct [(0,1,false),(1,1,false),(2,1,false),(3,1,false)] }
  | 90=>some { size:=4,bytes:=56,zero:=[.int .i64 0, .int .i64 0, .str [], .sl []],agg:=true,kind:= .struct [(0,1,false),(1,1,false),(2,1,false),(3,1,false)] }
  | 103=>some { size:=1,bytes:=24,zero:=[.sl []],agg:=false,kind:= .sl 197 }
  | 105=>some { size:=1,bytes:=24,zero:=[.sl []],agg:=false,kind:= .sl 202 }
  | 153=>some { size:=4,bytes:=40,zero:=[.int .i64 0, .int .i64 0, .str [], .int .i64 0],agg:=true,kind:= .struct [(0,1,false),(1,1,false),(2,1,false),(3,1,false)] }
  | 174=>some { size:=1,bytes:=24,zero:=[.sl []],agg:=false,kind:= .sl 3 }
  | 176=>some { size:=3,bytes:=40,zero:=[.int .i64 0, .int .i64 0, .sl []],agg:=true,kind:= .struct [(0,1,false),(1,1,false),(2,1,false)] }
  | 197=>some { size:=7,bytes:=128,zero:=[.str [], .int .i64 0, .sl [], .sl [], .bool false, .sl [], .sl []],agg:=true,kind:= .struct [(0,1,false),(1,1,false),(2,2,true),(4,1,false),(5,2,true)] }
  | 202=>some { size:=7,bytes:=128,zero:=[.str [], .int .i64 0, .sl [], .sl [], .bool false, .sl [], .sl []],agg:=true,kind:= .struct [(0,1,false),(1,1,false),(2,2,true),(4,1,false),(5,2,true)] }
  | 238=>some { size:=1,bytes:=24,zero:=[.sl []],agg:=false,kind:= .sl 321 }
  | 240=>some { size:=4,bytes:=56,zero:=[.str [], .int .i64 0, .int .i64 0, .sl []],agg:=true,kind:= .struct [(0,1,false),(1,1,false),(2,1,false),(3,1,false)] }
  | 243=>some { size:=4,bytes:=56,zero:=[.int .i64 0, .int .i64 0, .str [], .sl []],agg:=true,kind:= .struct [(0,1,false),(1,1,false),(2,1,false),(3,1,false)] }
  | 306=>some { size:=2,bytes:=32,zero:=[.sl [], .bool false],agg:=true,kind:= .struct [(0,1,false),(1,1,false)] }
  | 321=>some { size:=4,bytes:=40,zero:=[.int .i64 0, .int .i64 0, .str [], .int .i64 0],agg:=true,kind:= .struct [(0,1,false),(1,1,false),(2,1,false),(3,1,false)] }
  | _=>none
set_option maxRecDepth 100000 in
theorem OP:bJ Try.prog τ:=by
  intro t i h
  unfold τ at h
  split at h<;>(try cases h)
  · exact⟨_,_,_,rfl,rfl,rfl,rfl,rfl,rfl,rfl,by decide,rfl,rfl⟩
  · exact⟨_,_,_,rfl,rfl,rfl,rfl,rfl,rfl,rfl,by decide,rfl,rfl⟩
  · exact⟨_,_,_,rfl,rfl,rfl,rfl,rfl,rfl,rfl,by decide,rfl,rfl⟩
  · exact⟨_,_,_,rfl,rfl,rfl,rfl,rfl,rfl,rfl,by decide,rfl,rfl⟩
  · exact⟨_,_,_,rfl,rfl,rfl,rfl,rfl,rfl,rfl,by decide,rfl,rfl⟩
  · exact⟨_,_,_,rfl,rfl,rfl,rfl,rfl,rfl,rfl,by decide,rfl,rfl⟩
  · exact⟨_,_,_,rfl,rfl,rfl,rfl,rfl,rfl,rfl,by decide,rfl,rfl⟩
  · refine⟨_,_,_,rfl,rfl,rfl,rfl,rfl,rfl,rfl,by decide,rfl,_,rfl,rfl,fun j f hf=> ?_⟩
    match j with
    | 0=>simp at hf; subst hf; exact⟨_,_,rfl,rfl,rfl,rfl,by decide,rfl,rfl⟩
    | 1=>simp at hf; subst hf; exact⟨_,_,rfl,rfl,rfl,rfl,by decide,rfl,rfl⟩
    | j+2=>simp at hf
  · exact⟨_,_,_,rfl,rfl,rfl,rfl,rfl,rfl,rfl,by decide,rfl,rfl⟩
  · exact⟨_,_,_,rfl,rfl,rfl,rfl,rfl,rfl,rfl,by decide,rfl,rfl⟩
  · refine⟨_,_,_,rfl,rfl,rfl,rfl,rfl,rfl,rfl,by decide,rfl,_,rfl,rfl,fun j f hf=> ?_⟩
    match j with
    | 0=>simp at hf; subst hf; exact⟨_,_,rfl,rfl,rfl,rfl,by decide,rfl,rfl⟩
    | 1=>simp at hf; subst hf; exact⟨_,_,rfl,rfl,rfl,rfl,by decide,rfl,rfl⟩
    | j+2=>simp at hf
  · exact⟨_,_,_,rfl,rfl,rfl,rfl,rfl,rfl,rfl,by decide,rfl,rfl⟩
  · refine⟨_,_,_,rfl,rfl,rfl,rfl,rfl,rfl,rfl,by decide,rfl,_,rfl,rfl,fun j f hf=> ?_⟩
    match j with
    | 0=>simp at hf; subst hf; exact⟨_,_,rfl,rfl,rfl,rfl,by decide,rfl,rfl⟩
    | 1=>simp at hf; subst hf; exact⟨_,_,rfl,rfl,rfl,rfl,by decide,rfl,rfl⟩
    | 2=>simp at hf; subst hf; exact⟨_,_,rfl,rfl,rfl,rfl,by decide,rfl,rfl⟩
    | 3=>simp at hf; subst hf; exact⟨_,_,rfl,rfl,rfl,rfl,by decide,rfl,rfl⟩
    | j+4=>simp at hf
  · refine⟨_,_,_,rfl,rfl,rfl,rfl,rfl,rfl,rfl,by decide,rfl,_,rfl,rfl,fun j f hf=> ?_⟩
    match j with
    | 0=>simp at hf; subst hf; exact⟨_,_,rfl,rfl,rfl,rfl,by decide,rfl,rfl⟩
    | 1=>simp at hf; subst hf; exact⟨_,_,rfl,rfl,rfl,rfl,by decide,rfl,rfl⟩
    | 2=>simp at hf; subst hf; exact⟨_,_,rfl,rfl,rfl,rfl,by decide,rfl,rfl⟩
    | 3=>simp at hf; subst hf; exact⟨_,_,rfl,rfl,rfl,rfl,by decide,rfl,rfl⟩
    | j+4=>simp at hf
  · exact⟨_,_,_,rfl,rfl,rfl,rfl,rfl,rfl,rfl,by decide,rfl,rfl⟩
  · exact⟨_,_,_,rfl,rfl,rfl,rfl,rfl,rfl,rfl,by decide,rfl,rfl⟩
  · refine⟨_,_,_,rfl,rfl,rfl,rfl,rfl,rfl,rfl,by decide,rfl,_,rfl,rfl,fun j f hf=> ?_⟩
    match j with
    | 0=>simp at hf; subst hf; exact⟨_,_,rfl,rfl,rfl,rfl,by decide,rfl,rfl⟩
    | 1=>simp at hf; subst hf; exact⟨_,_,rfl,rfl,rfl,rfl,by decide,rfl,rfl⟩
    | 2=>simp at hf; subst hf; exact⟨_,_,rfl,rfl,rfl,rfl,by decide,rfl,rfl⟩
    | 3=>simp at hf; subst hf; exact⟨_,_,rfl,rfl,rfl,rfl,by decide,rfl,rfl⟩
    | j+4=>simp at hf
  · exact⟨_,_,_,rfl,rfl,rfl,rfl,rfl,rfl,rfl,by decide,rfl,rfl⟩
  · refine⟨_,_,_,rfl,rfl,rfl,rfl,rfl,rfl,rfl,by decide,rfl,_,rfl,rfl,fun j f hf=> ?_⟩
    match j with
    | 0=>simp at hf; subst hf; exact⟨_,_,rfl,rfl,rfl,rfl,by decide,rfl,rfl⟩
    | 1=>simp at hf; subst hf; exact⟨_,_,rfl,rfl,rfl,rfl,by decide,rfl,rfl⟩
    | 2=>simp at hf; subst hf; exact⟨_,_,rfl,rfl,rfl,rfl,by decide,rfl,rfl⟩
    | j+3=>simp at hf
  · refine⟨_,_,_,rfl,rfl,rfl,rfl,rfl,rfl,rfl,by decide,rfl,_,rfl,rfl,fun j f hf=> ?_⟩
    match j with
    | 0=>simp at hf; subst hf; exact⟨_,_,rfl,rfl,rfl,rfl,by decide,rfl,rfl⟩
    | 1=>simp at hf; subst hf; exact⟨_,_,rfl,rfl,rfl,rfl,by decide,rfl,rfl⟩
    | 2=>simp at hf; subst hf; exact⟨_,_,rfl,rfl,rfl,rfl,by decide,rfl,rfl⟩
    | 3=>simp at hf; subst hf; exact⟨_,_,rfl,rfl,rfl,rfl,by decide,rfl,rfl⟩
    | 4=>simp at hf; subst hf; exact⟨_,_,rfl,rfl,rfl,rfl,by decide,rfl,rfl⟩
    | j+5=>simp at hf
  · refine⟨_,_,_,rfl,rfl,rfl,rfl,rfl,rfl,rfl,by decide,rfl,_,rfl,rfl,fun j f hf=> ?_⟩
    match j with
    | 0=>simp at hf; subst hf; exact⟨_,_,rfl,rfl,rfl,rfl,by decide,rfl,rfl⟩
    | 1=>simp at hf; subst hf; exact⟨_,_,rfl,rfl,rfl,rfl,by decide,rfl,rfl⟩
    | 2=>simp at hf; subst hf; exact⟨_,_,rfl,rfl,rfl,rfl,by decide,rfl,rfl⟩
    | 3=>simp at hf; subst hf; exact⟨_,_,rfl,rfl,rfl,rfl,by decide,rfl,rfl⟩
    | 4=>simp at hf; subst hf; exact⟨_,_,rfl,rfl,rfl,rfl,by decide,rfl,rfl⟩
    | j+5=>simp at hf
  · exact⟨_,_,_,rfl,rfl,rfl,rfl,rfl,rfl,rfl,by decide,rfl,rfl⟩
  · refine⟨_,_,_,rfl,rfl,rfl,rfl,rfl,rfl,rfl,by decide,rfl,_,rfl,rfl,fun j f hf=> ?_⟩
    match j with
    | 0=>simp at hf; subst hf; exact⟨_,_,rfl,rfl,rfl,rfl,by decide,rfl,rfl⟩
    | 1=>simp at hf; subst hf; exact⟨_,_,rfl,rfl,rfl,rfl,by decide,rfl,rfl⟩
    | 2=>simp at hf; subst hf; exact⟨_,_,rfl,rfl,rfl,rfl,by decide,rfl,rfl⟩
    | 3=>simp at hf; subst hf; exact⟨_,_,rfl,rfl,rfl,rfl,by decide,rfl,rfl⟩
    | j+4=>simp at hf
  · refine⟨_,_,_,rfl,rfl,rfl,rfl,rfl,rfl,rfl,by decide,rfl,_,rfl,rfl,fun j f hf=> ?_⟩
    match j with
    | 0=>simp at hf; subst hf; exact⟨_,_,rfl,rfl,rfl,rfl,by decide,rfl,rfl⟩
    | 1=>simp at hf; subst hf; exact⟨_,_,rfl,rfl,rfl,rfl,by decide,rfl,rfl⟩
    | 2=>simp at hf; subst hf; exact⟨_,_,rfl,rfl,rfl,rfl,by decide,rfl,rfl⟩
    | 3=>simp at hf; subst hf; exact⟨_,_,rfl,rfl,rfl,rfl,by decide,rfl,rfl⟩
    | j+4=>simp at hf
  · refine⟨_,_,_,rfl,rfl,rfl,rfl,rfl,rfl,rfl,by decide,rfl,_,rfl,rfl,fun j f hf=> ?_⟩
    match j with
    | 0=>simp at hf; subst hf; exact⟨_,_,rfl,rfl,rfl,rfl,by decide,rfl,rfl⟩
    | 1=>simp at hf; subst hf; exact⟨_,_,rfl,rfl,rfl,rfl,by decide,rfl,rfl⟩
    | j+2=>simp at hf
  · refine⟨_,_,_,rfl,rfl,rfl,rfl,rfl,rfl,rfl,by decide,rfl,_,rfl,rfl,fun j f hf=> ?_⟩
    match j with
    | 0=>simp at hf; subst hf; exact⟨_,_,rfl,rfl,rfl,rfl,by decide,rfl,rfl⟩
    | 1=>simp at hf; subst hf; exact⟨_,_,rfl,rfl,rfl,rfl,by decide,rfl,rfl⟩
    | 2=>simp at hf; subst hf; exact⟨_,_,rfl,rfl,rfl,rfl,by decide,rfl,rfl⟩
    | 3=>simp at hf; subst hf; exact⟨_,_,rfl,rfl,rfl,rfl,by decide,rfl,rfl⟩
    | j+4=>simp at hf
end Go.Own
namespace Go.Proofs
open Go.RowKit Go.Lib
set_option linter.unusedVariables false
set_option linter.unusedSimpArgs false
set_option maxHeartbeats 4000000 in
set_option maxRecDepth 100000 in
theorem ME(hu:Try.prog.underlying 82=some (.slice 153))(n c:Nat)(w:World):Calls Try.prog 282 #[.slice none n c] w fun e w'=>e= .returned (.slice none 0 0)∧w'=w:=by
  have q22: ∀(w:World) (a:Option Addr) (n c n' c':Nat),(binOp .eql 82 (.slice a n c) (.slice none n' c')).run Try.prog w= .ok (.bool a.isNone) w:=fun w a n c n' c'=>Lib.run_eql_slice_nil w _ _ a n c n' c' hu
  go_enter Try.func282,Try.ntmps282
  go_wp2
  go_ret
  exact⟨rfl,rfl⟩
set_option maxHeartbeats 4000000 in
set_option maxRecDepth 100000 in
theorem MF(i0:TypeInfo)(z:Value)(size bytes:Nat)(hi:Try.prog.info? 153=some i0)(hz0:i0.zero=some z)(hz1:i0.size=size)(hz2:i0.bytes=bytes)(hzs:z.cells.size=size)(hsz:0<size)(hu:Try.prog.underlying 82=some (.slice 153))
    (ad:Addr)(n c:Nat)(news:List Value)(w:World)(hl:news.length=n*size)(hn:n≤maxLen)(hbig:n*bytes≤140737488355328)(hc: ∀j u,news[j]? =some u→w.cell? (ad.add j)=some u)(h1: ∀u∈news,u.oneCell'=true):
    Calls Try.prog 282 #[.slice (some ad) n c] w fun e w'=> ∃v',e= .returned v'∧w'.ownsRow w.heap.size 153 size v' n news∧Below w.heap.size w w':=by
  have q22: ∀(w:World) (a:Option Addr) (n c n' c':Nat),(binOp .eql 82 (.slice a n c) (.slice none n' c')).run Try.prog w= .ok (.bool a.isNone) w:=fun w a n c n' c'=>Lib.run_eql_slice_nil w _ _ a n c n' c' hu
  have u22: ∀w,Sem.run Try.prog (underlying 82) w= .ok (TypeDesc.slice 153) w:=run_underlying hu
  have z23: ∀w,(Go.sizeOf 153).run Try.prog w= .ok size w:=fun w=>by simp only[Go.sizeOf,typeInfo,Sem.run_bind,run_program,Result.andThen_ok,hi,Sem.run_pure,hz1]
  have A:Aside (∀j u,news[j]? =some u→w.cell? (ad.add j)=some u):=hc
  clear hc
  go_enter Try.func282,Try.ntmps282
  go_wp2_with (at_builtin; refine wpList_append_own _ rfl _ _ 82 rfl w.heap.size 153 i0 z size bytes hu hi hz0 hz1 hz2 hzs hsz _ _ _ rfl (World.ownsRow_made w #[] 0 (Nat.le_refl _) (Nat.zero_le _) (by simp)) ad n c news rfl ?qc1 ?qc2 ?qc3 ?qc4 ?qc5 ?qc6 ?_)
  case qc1=>exact hl
  case qc2=>
    intro j u hj
    exact Lib.cell?_alloc_some _ (A.out j u hj)
  case qc3=>exact h1
  case qc4=>rw[Nat.zero_add]; exact hn
  case qc5=>rw[Nat.zero_add]; exact hbig
  case qc6=>simp
  intro v' w1 hown hgrow hnil
  go_wp2
  go_ret
  refine⟨v',rfl,by simpa using hown, ?_⟩
  exact((Below.refl _ w).alloc (Nat.le_refl _) _).grown hgrow (by simp) (by intro k hk; simp [Value.ownBlock]at hk; omega)
end Go.Proofs
namespace Go.Own
open Go Go.Proofs
set_option maxRecDepth 100000 in
theorem Nz{τ:TypeId→Option TI}(hT:bJ Try.prog τ){ei es:TI}(hS:τ 82=some es)(kS:es.kind= .sl 153)(hE:τ 153=some ei){s:Nat}(hs:ei.size=s)(hsp:0<s){l:List (List T)}(h1: ∀e∈l,e.length=s∧e.all scal=true)(hb:l.length*ei.bytes≤140737488355328)(h63:l.length≤4611686018427387904):
    TC Try.prog 282 (IJ ([[[.F]]],[[.U s]],false)) [.one (.c (.sl l))] [] (.one (.c (.sl l))) none [] none:=by
  obtain⟨info,de,z0,q1,q2,q3,q4,q5,q6,q7,q8,q9⟩:=hT.get hE
  obtain⟨dS,hdS,rfl⟩:=jW hT (show tk τ 82=some (.sl 153)by unfold tk; rw[hS]; exact congrArg some kS)
  obtain⟨ze,_⟩:=iO q6
  have hzs:z0.cells.size=s:=by
    simp only[Array.length_toList]at ze
    omega
  exact QW Try.func282 rfl (by decide) hsp h1 (by simp only[maxLen]; omega) (fun n k w=>ME hdS n k w) (fun ad k news w g1 g2 g3=>MF info z0 s ei.bytes q1 q5 (by omega) q4 hzs hsp hdS ad _ k news w g1 (by simp only[maxLen]; omega) hb g2 g3)
end Go.Own
namespace Go.Own
open Go Go.Proofs
abbrev vi:V:= .one (.c (.int .i64 0))
abbrev vy:V:= .one (.c (.int .u8 0))
abbrev vb:V:= .one (.c (.bool false))
abbrev vl:V:= .one (.c (.sl []))
abbrev vs:V:= .one (.c (.str []))
abbrev vj:V:= .one .junk
abbrev tl0:List T:=[.str [], .int .i64 0, .sl [], .sl [], .bool false, .sl [], .sl []]
abbrev tl1:List T:=[.str [], .int .i64 0, .int .i64 0, .sl []]
abbrev tl2:List T:=[.int .i64 0, .int .i64 0, .str [], .sl []]
abbrev tl3:List T:=[.int .i64 0, .int .i64 0, .str [], .int .i64 0]
abbrev tl5:List T:=[.int .i64 0, .int .i64 0, .sl []]
abbrev tl6:List T:=[.sl [], .sl [], .bool false, .sl [], .sl []]
abbrev tl7:List T:=[.bool false, .sl [], .sl []]
abbrev tl8:List T:=[.int .i64 0, .sl []]
abbrev tl9:List T:=[.sl [], .bool false]
def F9:FA:= { n:=104,sh:=[vl,vs,vj,vj,vb,vi,vl,vi,vl,vl,vi,vi,vi,vi,vl,vi,vs,vi,vb,vl,vi,vi,vi,vb, .tup [.c (.sl []), .c (.int .i64 0)],vl,vl,vs, .tup [.c (.sl []), .c (.int .i64 0)],vl,vi,vl,vl, .tup [.c (.sl []), .c (.int .i64 0)],vl,vs, .tup [.c (.sl []), .c (.int .i64 0)],vl,vi,vl,vl,vb,vb,vb,vi,vi,vb,vb,vl,vl,vl,vb,vb, .one (.al (.s 8 0 0) []),vi,vi,vi,vb,vb,vl,vl,vb,vb,vb,vb,vi,vi,vb,vb, .one (.al (.s 9 0 0) []),vi,vi,vl,vi,vi,vi,vb,vi,vi,vb, .tup [.c (.sl []), .c (.int .i64 0)],vl,vl,vs, .tup [.c (.sl []), .c (.int .i64 0)],vl,vi,vl,vl,vb,vb,vb,vi,vi,vb,vb,vl,vi,vi,vi,vb,vi,vi,vb],obs:=[],al:=[53,69],tk:=[20,22,24,33,43,54,56,58,64,65,70,73,77,80,81,83,87,88,91,92,93,96,97,101,102],keep:=[(0,[0,1]),(1,[0,1,18]),(2,[4]),(3,[0,1,5]),(4,[0,1,5]),(5,[0,1,23]),(6,[4]),(7,[0,1,6,7]),(8,[0,1,6,7,8]),(9,[0,1,6,7,8,9,10]),(10,[0,1,6,7,8,9,10,47]),(11,[4]),(12,[0,1,6,7,8,9,10,52]),(13,[4]),(14,[0,1,6,7,8,9,10,11]),(15,[0,1,6,7,9,10,11]),(16,[0,1,6,7,9,68]),(17,[4]),(18,[0,1,6,7,9,12]),(19,[0,1,6,7,9,12]),(20,[0,1,6,7,9,12,13]),(21,[0,1,6,7,9,12,13]),(22,[0,1,6,7,9,12,13,76]),(23,[4]),(24,[0,1,6,7,9,12,79]),(25,[4]),(26,[6,7,9,12,14,15]),(27,[9,12,95]),(28,[4]),(29,[9,12,13]),(30,[12,13]),(31,[12,13,100]),(32,[4]),(33,[103]),(34,[4]),(35,[4])],ioa:=[53,69] }
def F31:FA:= { n:=18,sh:=[.one (.ag [.sl [], .sl []]),vi, .one (.ptr 2 0),vj,vi, .one (.ptr 2 0),vl,vi,vi,vi,vb, .one (.ptr 2 1),vl,vi,vi,vi,vb,vi],obs:=[(2,[.sl [], .sl []])],tk:=[6,7,12,13,17],keep:=[(0,[1,2]),(1,[1,2]),(2,[1,2,10]),(3,[4]),(4,[1]),(5,[1,16]),(6,[4]),(7,[4])] }
def F33:FA:= { n:=13,sh:=[.one (.ag [.sl [], .sl []]), .one (.ptr 1 0), .one (.ptr 2 0), .one (.ptr 3 0), .one (.ptr 1 0),vl,vl, .one (.ptr 3 0), .one (.ptr 1 1),vl,vl, .one (.ptr 3 1), .one (.ag [.sl [], .sl []])],obs:=[(1,[.sl [], .sl []]),(2,[.sl [], .sl []]),(3,[.sl [], .sl []])],tk:=[5,9,12],keep:=[(0,[1,2]),(1,[1,2,3]),(2,[1,2,3]),(3,[2,3]),(4,[2])] }
def F36:FA:= { n:=17,sh:=[.one (.ag [.sl [], .sl []]), .one (.ag [.sl [], .sl []]), .one (.ptr 2 0), .one (.ptr 3 0),vb, .one (.ptr 2 0),vl, .one (.ptr 3 0),vl,vb,vb, .one (.ptr 2 1),vl, .one (.ptr 3 1),vl,vb,vb],obs:=[(2,[.sl [], .sl []]),(3,[.sl [], .sl []])],tk:=[6,8,12,14],keep:=[(0,[2,3]),(1,[2,3,10]),(2,[4]),(3,[16]),(4,[4]),(5,[4])] }
def F44:FA:= { n:=38,sh:=[.one (.ag [.sl [], .sl []]), .one (.ptr 1 0),vb,vi, .one (.ptr 1 0),vl,vi,vb,vb, .one (.ptr 1 1),vl,vi,vb,vb, .one (.ptr 1 0),vl,vi,vi,vb,vi, .one (.ptr 1 0),vl,vi, .one (.cp tl1), .one (.cp tl1),vs,vi,vi,vb,vb, .one (.ptr 1 0),vl,vi, .one (.cp tl1),vb,vb,vb,vi],obs:=[(1,[.sl [], .sl []])],tk:=[8,17,29,32],keep:=[(0,[1]),(1,[1,13]),(2,[2]),(3,[1,16,17]),(4,[1,16,17,18]),(5,[1,3,16,17]),(6,[1,16,17,36]),(7,[2]),(8,[1,16,17]),(9,[2])] }
def F45:FA:= { n:=14,sh:=[.one (.ag tl2),vi, .one (.ptr 2 0),vj,vb, .one (.ptr 5 0),vi, .one (.ag tl5),vi,vb,vb, .one (.ag tl2),vb,vb],obs:=[(2,tl2),(5,tl5)],tk:=[8,10,11],keep:=[(0,[1,2]),(1,[1,2,5]),(2,[4])] }
def F57:FA:= { n:=27,sh:=[vl,vi,vj,vj,vi,vi,vi,vl,vi,vi,vi,vb,vi,vl,vi,vb,vi,vi,vl,vi, .one (.cp tl0), .one (.ag tl0),vi,vi,vi,vb,vi],obs:=[],tk:=[6,16,22,26],keep:=[(0,[0,1]),(1,[0,1]),(2,[0,1,11]),(3,[4]),(4,[0,1,5]),(5,[0,1,5,15]),(6,[0,1,5]),(7,[0,1,5]),(8,[0,1,5,25]),(9,[4]),(10,[4])] }
def F58:FA:= { n:=43,sh:=[vl,vs,vj,vj,vl,vi,vl,vi,vl,vl,vl,vb,vb,vb,vs,vb,vb,vb,vl,vl,vs,vi,vi,vb,vb,vl,vi, .one (.cp tl0), .one (.cp tl7),vb,vb,vb,vl, .one (.al (.s 6 0 0) []),vi, .one (.pp (.s 6 0 0) [] 0 0), .one (.pp (.s 6 0 0) [] 0 4), .one (.al (.s 6 0 0) []),vi, .one (.ag [.sl [], .sl []]), .one (.pp (.s 6 0 0) [] 0 0), .one (.pp (.s 6 0 0) [] 0 5),vl],obs:=[],al:=[33,37],tk:=[13,18,20,24,25,32,38,42],keep:=[(0,[0,1]),(1,[0,1,6]),(2,[0,1,6,17]),(3,[4,5]),(4,[0,6,7]),(5,[6,7,31]),(6,[4,5]),(7,[6,7]),(8,[6]),(9,[4,5])] }
def F59:FA:= { n:=23,sh:=[vl,vj,vl,vl,vi,vl,vi,vl,vi,vl,vi,vb,vi,vi, .one (.al (.s 3 0 0) []),vi,vl,vi, .one (.cp tl0), .one (.ag tl0), .one (.ag tl0), .one (.pp (.s 3 0 0) [] 0 0),vl],obs:=[],al:=[14],tk:=[12,22],keep:=[(0,[0]),(1,[0,3]),(2,[0,3,4]),(3,[0,3,4,11]),(4,[0,3,4]),(5,[0,3,4]),(6,[2])] }
def F60:FA:= { n:=43,sh:=[vl,vs,vj,vj,vl,vi,vl,vi,vl,vl,vs,vb,vb,vb,vl,vb,vb,vb,vl,vl,vs,vi,vi,vb,vb,vl,vi, .one (.cp tl0), .one (.cp tl7),vb,vb,vb,vl, .one (.al (.s 6 0 0) []),vi, .one (.al (.s 6 0 0) []),vi, .one (.ag [.sl [], .sl []]), .one (.pp (.s 6 0 0) [] 0 0), .one (.pp (.s 6 0 0) [] 0 5), .one (.pp (.s 6 0 0) [] 0 0), .one (.pp (.s 6 0 0) [] 0 4),vl],obs:=[],al:=[33,35],tk:=[13,18,20,24,25,32,36,42],keep:=[(0,[0,1]),(1,[0,1,6]),(2,[0,1,6,17]),(3,[4,5]),(4,[0,6,7]),(5,[6,7,31]),(6,[4,5]),(7,[6]),(8,[4,5])] }
def F61:FA:= { n:=27,sh:=[vl,vl,vj,vj,vb,vi,vl,vi,vl,vi,vb,vi,vl,vi,vb,vi,vi,vl,vi, .one (.cp tl0), .one (.ag tl0),vl,vi, .one (.cp tl0), .one (.ag tl0),vb,vb],obs:=[],tk:=[15],keep:=[(0,[0,1]),(1,[0,1,10]),(2,[4]),(3,[0,1,5]),(4,[0,1,5,14]),(5,[0,1,5]),(6,[0,1,5,26]),(7,[4]),(8,[4])] }
def F62:FA:= { n:=69,sh:=[vl,vi,vj,vj,vi,vi,vi,vl,vi,vb,vi,vi, .one (.al (.s 0 0 0) []),vi,vi,vs, .one (.pp (.s 0 0 0) [] 0 0), .one (.pp (.s 0 0 0) [] 0 0),vi,vi, .one (.al (.s 0 0 0) []),vi,vi, .one (.pp (.s 0 0 0) [] 0 0), .one (.pp (.s 0 0 0) [] 0 1),vi,vi, .one (.al (.s 0 0 0) []),vi, .one (.pp (.s 0 0 0) [] 0 0), .one (.pp (.s 0 0 0) [] 0 2), .one (.pp (.s 0 0 0) [] 0 2), .one (.al (.s 0 0 0) [(0,0)]),vi,vi, .one (.al (.s 0 0 0) []),vi, .one (.pp (.s 0 0 0) [] 0 0), .one (.pp (.s 0 0 0) [] 0 2), .one (.pp (.s 0 0 0) [] 0 3), .one (.al (.s 0 0 0) [(0,0)]),vi,vi, .one (.al (.s 0 0 0) []),vi,vi,vi,vb, .one (.pp (.s 0 0 0) [] 0 0), .one (.pp (.s 0 0 0) [] 0 4),vi,vi, .one (.al (.s 0 0 0) []),vi, .one (.pp (.s 0 0 0) [] 0 0), .one (.pp (.s 0 0 0) [] 0 5), .one (.pp (.s 0 0 0) [] 0 5), .one (.al (.s 0 0 0) [(0,0)]),vi,vi, .one (.al (.s 0 0 0) []),vi, .one (.pp (.s 0 0 0) [] 0 0), .one (.pp (.s 0 0 0) [] 0 5), .one (.pp (.s 0 0 0) [] 0 6), .one (.al (.s 0 0 0) [(0,0)]),vi,vi,vi],obs:=[],al:=[12,20,27,32,35,40,43,52,57,60,65],tk:=[10,18,25,33,41,50,58,66,68],keep:=[(0,[0,1]),(1,[0,1,5]),(2,[0,1,5,9]),(3,[0,1,5]),(4,[0,1,5]),(5,[0,1,5]),(6,[0,1,5]),(7,[0,1,5]),(8,[0,1,5]),(9,[0,1,5]),(10,[0,1,5]),(11,[0,1,5]),(12,[0,1,5]),(13,[0,1,5]),(14,[0,4])],io:=some 0,ioa:=[32,40,57,65] }
def F63:FA:= { n:=83,sh:=[vl,vi,vj,vj,vi,vi,vi,vl,vi,vb,vi,vi,vl,vi, .one (.cp tl0), .one (.cp tl0),vs,vi,vs,vb,vi,vi,vl,vi, .one (.cp tl0), .one (.cp [.int .i64 0, .sl [], .sl [], .bool false, .sl [], .sl []]),vi,vi,vb,vi,vi,vl,vi, .one (.cp tl0), .one (.cp tl6), .one (.cp tl6),vl,vi,vi,vi,vb,vl,vi, .one (.cp tl0), .one (.cp tl6), .one (.cp [.sl [], .bool false, .sl [], .sl []]),vl,vi,vi,vi,vb,vl,vi, .one (.cp tl0), .one (.cp tl7),vb,vi,vi,vb,vb,vi,vi,vl,vi, .one (.cp tl0), .one (.cp [.sl [], .sl []]), .one (.cp [.sl [], .sl []]),vl,vi,vi,vi,vb,vl,vi, .one (.cp tl0), .one (.cp [.sl [], .sl []]), .one (.cp [.sl []]),vl,vi,vi,vi,vb,vi],obs:=[],tk:=[10,20,29,37,47,60,68,78,82],keep:=[(0,[0,1]),(1,[0,1,5]),(2,[0,1,5,9]),(3,[0,1,5]),(4,[0,1,5,19]),(5,[4]),(6,[0,1,5]),(7,[0,1,5,28]),(8,[4]),(9,[0,1,5]),(10,[0,1,5]),(11,[0,1,5,40]),(12,[4]),(13,[0,1,5]),(14,[0,1,5,50]),(15,[4]),(16,[0,1,5,59]),(17,[4]),(18,[0,1,5]),(19,[0,1,5]),(20,[0,1,5,71]),(21,[4]),(22,[0,1,5]),(23,[0,1,5,81]),(24,[4]),(25,[4])] }
def F88:FA:= { n:=20,sh:=[vi,vj,vs,vs,vi,vb,vi,vb,vi,vi,vi,vy,vl,vs,vs,vs,vi,vi,vs,vs],obs:=[],tk:=[14,16,18],dp:=[12],keep:=[(0,[0]),(1,[0,5]),(2,[2]),(3,[0,3]),(4,[0,3,7]),(5,[0,3]),(6,[0,3]),(7,[2])] }
def F100:FA:= { n:=27,sh:=[vl,vi,vj,vj,vi,vi,vi,vl,vi,vi,vi,vb,vi,vl,vi,vb,vi,vi,vl,vi, .one (.cp tl1), .one (.ag tl1),vi,vi,vi,vb,vi],obs:=[],tk:=[6,16,22,26],keep:=[(0,[0,1]),(1,[0,1]),(2,[0,1,11]),(3,[4]),(4,[0,1,5]),(5,[0,1,5,15]),(6,[0,1,5]),(7,[0,1,5]),(8,[0,1,5,25]),(9,[4]),(10,[4])] }
def F101:FA:= { n:=27,sh:=[vl,vi,vj,vj,vi,vi,vi,vl,vi,vi,vi,vb,vi,vl,vi,vb,vi,vi,vl,vi, .one (.cp tl2), .one (.ag tl2),vi,vi,vi,vb,vi],obs:=[],tk:=[6,16,22,26],keep:=[(0,[0,1]),(1,[0,1]),(2,[0,1,11]),(3,[4]),(4,[0,1,5]),(5,[0,1,5,15]),(6,[0,1,5]),(7,[0,1,5]),(8,[0,1,5,25]),(9,[4]),(10,[4])] }
def F102:FA:= { n:=25,sh:=[.one (.ag [.sl [], .sl []]), .one (.ptr 1 0),vb,vi, .one (.ptr 1 0),vl,vi,vb,vb, .one (.ptr 1 1),vl,vi,vb,vb,vi, .one (.ptr 1 0),vl,vi,vb,vi,vi, .one (.ag [.sl [], .sl []]),vi,vb,vb],obs:=[(1,[.sl [], .sl []])],tk:=[8,19],keep:=[(0,[1]),(1,[1,13]),(2,[2]),(3,[1,3]),(4,[1,3,18]),(5,[1,3]),(6,[1,3,24]),(7,[2]),(8,[2])] }
def F107:FA:= { n:=23,sh:=[vl,vj,vl,vl,vi,vl,vi,vl,vi,vl,vi,vb,vi,vi, .one (.al (.s 3 0 0) []),vi,vl,vi, .one (.cp tl1), .one (.ag tl1), .one (.ag tl1), .one (.pp (.s 3 0 0) [] 0 0),vl],obs:=[],al:=[14],tk:=[12,22],keep:=[(0,[0]),(1,[0,3]),(2,[0,3,4]),(3,[0,3,4,11]),(4,[0,3,4]),(5,[0,3,4]),(6,[2])] }
def F108:FA:= { n:=23,sh:=[vl,vj,vl,vl,vi,vl,vi,vl,vi,vl,vi,vb,vi,vi, .one (.al (.s 3 0 0) []),vi,vl,vi, .one (.cp tl2), .one (.ag tl2), .one (.ag tl2), .one (.pp (.s 3 0 0) [] 0 0),vl],obs:=[],al:=[14],tk:=[12,22],keep:=[(0,[0]),(1,[0,3]),(2,[0,3,4]),(3,[0,3,4,11]),(4,[0,3,4]),(5,[0,3,4]),(6,[2])] }
def F113:FA:= { n:=27,sh:=[vl,vl,vj,vj,vb,vi,vl,vi,vl,vi,vb,vi,vl,vi,vb,vi,vi,vl,vi, .one (.cp tl1), .one (.ag tl1),vl,vi, .one (.cp tl1), .one (.ag tl1),vb,vb],obs:=[],tk:=[15],keep:=[(0,[0,1]),(1,[0,1,10]),(2,[4]),(3,[0,1,5]),(4,[0,1,5,14]),(5,[0,1,5]),(6,[0,1,5,26]),(7,[4]),(8,[4])] }
def F114:FA:= { n:=27,sh:=[vl,vl,vj,vj,vb,vi,vl,vi,vl,vi,vb,vi,vl,vi,vb,vi,vi,vl,vi, .one (.cp tl2), .one (.ag tl2),vl,vi, .one (.cp tl2), .one (.ag tl2),vb,vb],obs:=[],tk:=[15],keep:=[(0,[0,1]),(1,[0,1,10]),(2,[4]),(3,[0,1,5]),(4,[0,1,5,14]),(5,[0,1,5]),(6,[0,1,5,26]),(7,[4]),(8,[4])] }
def F115:FA:= { n:=42,sh:=[vl,vi,vj,vj,vi,vi,vi,vl,vi,vb,vi,vi, .one (.al (.s 0 0 0) []),vi,vi,vs, .one (.pp (.s 0 0 0) [] 0 0), .one (.pp (.s 0 0 0) [] 0 0),vi,vi, .one (.al (.s 0 0 0) []),vi,vi, .one (.pp (.s 0 0 0) [] 0 0), .one (.pp (.s 0 0 0) [] 0 1),vi,vi, .one (.al (.s 0 0 0) []),vi,vi, .one (.pp (.s 0 0 0) [] 0 0), .one (.pp (.s 0 0 0) [] 0 2),vi,vi, .one (.al (.s 0 0 0) []),vi, .one (.pp (.s 0 0 0) [] 0 0), .one (.pp (.s 0 0 0) [] 0 3), .one (.al (.s 0 0 0) [(0,0)]),vi,vi,vi],obs:=[],al:=[12,20,27,34,38],tk:=[10,18,25,32,39,41],keep:=[(0,[0,1]),(1,[0,1,5]),(2,[0,1,5,9]),(3,[0,1,5]),(4,[0,1,5]),(5,[0,1,5]),(6,[0,1,5]),(7,[0,1,5]),(8,[0,1,5]),(9,[0,1,5]),(10,[0,1,5]),(11,[0,4])],io:=some 0,ioa:=[38] }
def F116:FA:= { n:=42,sh:=[vl,vi,vj,vj,vi,vi,vi,vl,vi,vb,vi,vi, .one (.al (.s 0 0 0) []),vi,vi, .one (.pp (.s 0 0 0) [] 0 0), .one (.pp (.s 0 0 0) [] 0 0),vi,vi, .one (.al (.s 0 0 0) []),vi,vi, .one (.pp (.s 0 0 0) [] 0 0), .one (.pp (.s 0 0 0) [] 0 1),vi,vi, .one (.al (.s 0 0 0) []),vi,vi,vs, .one (.pp (.s 0 0 0) [] 0 0), .one (.pp (.s 0 0 0) [] 0 2),vi,vi, .one (.al (.s 0 0 0) []),vi, .one (.pp (.s 0 0 0) [] 0 0), .one (.pp (.s 0 0 0) [] 0 3), .one (.al (.s 0 0 0) [(0,0)]),vi,vi,vi],obs:=[],al:=[12,19,26,34,38],tk:=[10,17,24,32,39,41],keep:=[(0,[0,1]),(1,[0,1,5]),(2,[0,1,5,9]),(3,[0,1,5]),(4,[0,1,5]),(5,[0,1,5]),(6,[0,1,5]),(7,[0,1,5]),(8,[0,1,5]),(9,[0,1,5]),(10,[0,1,5]),(11,[0,4])],io:=some 0,ioa:=[38] }
def F128:FA:= { n:=11,sh:=[.one (.ptr 1000000 0),vs,vj, .one (.ptr 3 0),vi, .one (.ptr 1000000 0), .one (.ptr 1000000 0), .one (.ptr 1000000 0),vl, .one (.fn 213 [(3,0)]),vi],obs:=[(3,[.str []]),(1000000,[.sl [], .sl []])],tk:=[5],keep:=[(0,[0,3]),(1,[4])] }
def F129:FA:= { n:=65,sh:=[.one (.ptr 1000000 0), .one (.cp tl1),vj,vj,vb,vj, .one (.ptr 6 0),vl,vb, .one (.cp tl1), .one (.cp tl1), .one (.cp tl1),vs,vb,vb,vb, .one (.cp tl1), .one (.cp tl1), .one (.cp tl5),vi,vb,vb,vb,vb, .one (.cp tl1), .one (.cp tl1), .one (.cp tl8),vi, .one (.cp tl1), .one (.cp tl1), .one (.cp tl5),vi,vb,vb,vb,vb, .one (.cp tl1), .one (.cp tl1), .one (.cp [.sl []]),vl,vi,vb,vb,vb, .one (.cp tl1), .one (.cp tl1), .one (.cp [.sl []]),vl,vi,vi,vb, .one (.cp tl3), .one (.ag tl3), .one (.ptr 1000000 0), .one (.cp tl1), .one (.ag tl3),vb,vb,vi, .tup [.c (.sl []), .c (.bool false)], .one (.cp tl1), .tup [.c (.sl []), .c (.bool false)],vl,vb,vb],obs:=[(6,tl3),(1000000,[.sl [], .sl []])],tk:=[15,23,35,49,55,59,60,64],keep:=[(0,[0,1]),(1,[0,1,43]),(2,[4]),(3,[0,1,47,48,49]),(4,[0,1,47,48,49,50]),(5,[0,1,6,47,48,49]),(6,[0,1,47,48,49,57]),(7,[4]),(8,[0,1,47,48,49]),(9,[8]),(10,[4])] }
def F130:FA:= { n:=15,sh:=[vi,vi,vi,vj,vj,vj,vb,vi,vi,vb,vb,vi,vi,vb,vb],obs:=[],tk:=[8,10,11,12],keep:=[(0,[0,1,2]),(1,[6])] }
def F131:FA:= { n:=103,sh:=[.one (.ptr 1000000 0), .one (.ag tl2),vi,vj, .one (.ptr 4 0),vj,vb,vj, .one (.ptr 8 0), .one (.ptr 1000000 0), .one (.ptr 1000000 0), .one (.ptr 1000000 1),vi,vi, .one (.ptr 1000000 0), .one (.ptr 1000000 1),vi,vb,vb, .one (.ptr 1000000 0), .one (.ptr 1000000 0), .one (.ptr 1000000 1),vi,vb,vb, .one (.ptr 4 0),vi,vb, .one (.ptr 4 1),vi, .one (.ptr 1000000 0), .one (.ptr 1000000 0), .one (.ptr 1000000 0),vi,vi,vb,vb,vb, .one (.ptr 4 2),vs,vb,vb,vb, .one (.ptr 4 3),vl,vi,vb,vb,vb, .one (.ptr 4 1),vi,vb,vb, .one (.ptr 1000000 0), .one (.ptr 1000000 0), .one (.ptr 1000000 2),vl, .one (.ptr 4 1),vi,vb,vb,vb, .one (.ptr 1000000 0), .one (.ptr 1000000 0), .one (.ptr 1000000 0), .one (.ptr 1000000 2),vl, .one (.ptr 4 1),vi,vl,vl, .one (.ptr 1000000 0), .one (.ptr 1000000 2), .one (.ptr 4 0),vi,vb,vb, .one (.ptr 4 0),vi, .one (.ptr 4 1),vi, .one (.ptr 4 2),vs, .one (.ptr 4 3),vl,vi,vb,vb,vb, .one (.ptr 4 3),vl,vi,vi,vb, .one (.cp tl2), .one (.ag tl2), .one (.ptr 1000000 0), .one (.ag tl2),vi,vi,vb,vb,vi],obs:=[(4,tl2),(8,tl2),(1000000,tl5)],tk:=[12,18,37,39,42,44,48,52,63,66,68,76,78,80,82,90,92,97],dp:=[69],keep:=[(0,[0,2,4]),(1,[0,2,4]),(2,[0,2,4,24]),(3,[6]),(4,[0,2,4,27]),(5,[0,4,61]),(6,[6]),(7,[]),(8,[6]),(9,[0,2,4,88]),(10,[6]),(11,[0,2,90,91,92]),(12,[0,2,90,91,92,93]),(13,[0,2,8,90,91,92]),(14,[0,2,90,91,92,101]),(15,[6]),(16,[0,2,90,91,92]),(17,[6])] }
def F134:FA:= { n:=10,sh:=[vs,vj,vb,vs,vb,vb,vs,vb,vb,vb],obs:=[],tk:=[5,6],keep:=[(0,[0]),(1,[2])] }
def F138:FA:= { n:=17,sh:=[vs,vj,vb,vs,vb,vb,vs,vb,vb,vb,vs,vb,vb,vb,vs,vb,vb],obs:=[],tk:=[5,9,13,14],keep:=[(0,[0]),(1,[2])] }
def F150:FA:= { n:=50,sh:=[vl,vi,vj,vj,vi,vi,vi,vl,vi,vb,vi,vi,vl,vi, .one (.cp tl1), .one (.cp tl1),vs,vi,vs,vb,vi,vi,vl,vi, .one (.cp tl1), .one (.cp tl5),vi,vi,vb,vi,vi,vl,vi, .one (.cp tl1), .one (.cp tl8),vi,vi,vb,vi,vi,vl,vi, .one (.cp tl1), .one (.cp [.sl []]),vl,vi,vi,vi,vb,vi],obs:=[],tk:=[10,20,29,38,45,49],keep:=[(0,[0,1]),(1,[0,1,5]),(2,[0,1,5,9]),(3,[0,1,5]),(4,[0,1,5,19]),(5,[4]),(6,[0,1,5]),(7,[0,1,5,28]),(8,[4]),(9,[0,1,5]),(10,[0,1,5,37]),(11,[4]),(12,[0,1,5]),(13,[0,1,5]),(14,[0,1,5,48]),(15,[4]),(16,[4])] }
def F151:FA:= { n:=50,sh:=[vl,vi,vj,vj,vi,vi,vi,vl,vi,vb,vi,vi,vl,vi, .one (.cp tl2), .one (.cp tl2),vi,vi,vb,vi,vi,vl,vi, .one (.cp tl2), .one (.cp [.int .i64 0, .str [], .sl []]),vi,vi,vb,vi,vi,vl,vi, .one (.cp tl2), .one (.cp [.str [], .sl []]),vs,vi,vs,vb,vi,vi,vl,vi, .one (.cp tl2), .one (.cp [.sl []]),vl,vi,vi,vi,vb,vi],obs:=[],tk:=[10,19,28,38,45,49],keep:=[(0,[0,1]),(1,[0,1,5]),(2,[0,1,5,9]),(3,[0,1,5]),(4,[0,1,5,18]),(5,[4]),(6,[0,1,5]),(7,[0,1,5,27]),(8,[4]),(9,[0,1,5]),(10,[0,1,5,37]),(11,[4]),(12,[0,1,5]),(13,[0,1,5]),(14,[0,1,5,48]),(15,[4]),(16,[4])] }
def F152:FA:= { n:=25,sh:=[.one (.ag tl0),vi, .one (.ptr 2 0),vj,vi,vi, .one (.ptr 2 0),vs,vi,vi,vi,vb, .one (.ptr 2 2), .one (.ag [.sl [], .sl []]),vi,vi,vi,vb, .one (.ptr 2 5), .one (.ag [.sl [], .sl []]),vi,vi,vi,vb,vi],obs:=[(2,tl0)],tk:=[5,7,13,14,19,20,24],keep:=[(0,[1,2]),(1,[1,2]),(2,[1,2,11]),(3,[4]),(4,[1,2]),(5,[1,2,17]),(6,[4]),(7,[1]),(8,[1,23]),(9,[4]),(10,[4])] }
def F153:FA:= { n:=30,sh:=[vl,vj,vl,vl,vi, .one (.ptr 5 0),vl,vi,vl,vi,vb,vi,vi,vl,vi, .one (.cp tl0), .one (.ag tl0), .one (.ptr 5 2), .one (.ag [.sl [], .sl []]), .one (.ag [.sl [], .sl []]), .one (.ptr 5 2), .one (.ptr 5 5), .one (.ag [.sl [], .sl []]), .one (.ag [.sl [], .sl []]), .one (.ptr 5 5),vl, .one (.ag tl0),vl,vl,vl],obs:=[(5,tl0)],tk:=[11,18,22,25,26,29],dp:=[6,27,28],keep:=[(0,[0]),(1,[0,3]),(2,[0,3,4]),(3,[0,3,4,10]),(4,[0,3,4]),(5,[0,3,4,5]),(6,[0,3,4,5]),(7,[0,3,4,5]),(8,[0,3,4]),(9,[2])] }
def F154:FA:= { n:=37,sh:=[vl,vj,vb,vi,vi,vl,vi,vb,vi,vi,vl,vi, .one (.cp tl0), .one (.ag tl0),vb,vb,vb,vi,vb,vb,vl,vi,vi, .one (.cp tl0), .one (.cp tl0),vs,vl,vi, .one (.cp tl0), .one (.cp tl0),vs,vb,vb,vb,vl,vi,vb],obs:=[],tk:=[8,16,19,34],keep:=[(0,[0]),(1,[0,3]),(2,[0,3,7]),(3,[0,3]),(4,[0,3,33]),(5,[2]),(6,[2])] }
def F155:FA:= { n:=36,sh:=[vs,vj,vb,vi,vi,vb,vi,vs,vi,vb,vi,vi,vs,vi,vy,vi,vi,vb,vb,vb,vb,vi,vb,vb,vi,vb,vb,vb,vi,vb,vb,vb,vb,vs,vi,vb],obs:=[],tk:=[10,18,20,23,27,28,33],keep:=[(0,[0]),(1,[0,3]),(2,[0,3,9]),(3,[0,3]),(4,[0,3,4]),(5,[0,3,4,5]),(6,[0,3,32]),(7,[2]),(8,[2])] }
def F156:FA:= { n:=20,sh:=[vl,vs,vj,vj,vi,vi,vi,vl,vi,vb,vi,vi,vl,vi, .one (.cp tl0), .one (.cp tl0),vs,vs,vb,vi],obs:=[],tk:=[10,19],keep:=[(0,[0,1]),(1,[0,1,5]),(2,[0,1,5,9]),(3,[0,1,5]),(4,[0,1,5,18]),(5,[4]),(6,[4])] }
def F157:FA:= { n:=22,sh:=[.one (.ag tl0), .one (.ptr 1 0), .one (.ptr 2 0), .one (.ptr 3 0), .one (.ptr 1 0),vs, .one (.ptr 3 0), .one (.ptr 1 1),vi, .one (.ptr 3 1), .one (.ptr 1 2), .one (.ag [.sl [], .sl []]), .one (.ag [.sl [], .sl []]), .one (.ptr 3 2), .one (.ptr 1 4),vb, .one (.ptr 3 4), .one (.ptr 1 5), .one (.ag [.sl [], .sl []]), .one (.ag [.sl [], .sl []]), .one (.ptr 3 5), .one (.ag tl0)],obs:=[(1,tl0),(2,tl0),(3,tl0)],tk:=[5,8,11,15,18,21],keep:=[(0,[1,2]),(1,[1,2,3]),(2,[1,2,3]),(3,[1,2,3]),(4,[1,2,3]),(5,[1,2,3]),(6,[2,3]),(7,[2])] }
def F158:FA:= { n:=26,sh:=[vl,vj,vl,vl,vj, .one (.ptr 5 0),vl,vi,vi,vb, .one (.cp tl0), .one (.ag tl0), .one (.ptr 5 2), .one (.ag [.sl [], .sl []]), .one (.ag [.sl [], .sl []]), .one (.ptr 5 5), .one (.ag [.sl [], .sl []]), .one (.ag [.sl [], .sl []]), .one (.ptr 5 2), .one (.ptr 5 5),vl, .one (.ag tl0),vl,vl,vi,vl],obs:=[(5,tl0)],tk:=[6,8,13,16,20,21,25],dp:=[22,23],keep:=[(0,[0]),(1,[0,3]),(2,[3,6,7,8]),(3,[3,6,7,8,9]),(4,[3,5,6,7,8]),(5,[3,5,6,7,8]),(6,[3,6,7,8]),(7,[3,6,7,8]),(8,[2])] }
def F159:FA:= { n:=35,sh:=[vs,vj,vb,vi,vi,vs,vi,vb,vi,vi,vs,vi,vy,vb,vb,vb,vi,vb,vb,vs,vi,vy,vb,vb,vb,vs,vi,vy,vb,vb,vb,vb,vs,vi,vb],obs:=[],tk:=[8,15,18,24,32],keep:=[(0,[0]),(1,[0,3]),(2,[0,3,7]),(3,[0,3]),(4,[0,3,31]),(5,[2]),(6,[2])] }
def F160:FA:= { n:=34,sh:=[vl,vj,vb,vi, .one (.ptr 4 0),vl,vi,vi,vb,vi, .one (.cp tl0), .one (.ag tl0), .one (.ag tl0),vb,vb,vb,vi,vb,vb, .one (.ptr 4 0),vs,vl,vi,vi, .one (.cp tl0), .one (.cp tl0),vs,vb,vb,vb,vi,vl,vi,vb],obs:=[(4,tl0)],tk:=[7,15,18,20,22,31],keep:=[(0,[0]),(1,[0,5,6,7]),(2,[0,5,6,7,8]),(3,[0,3,4,5,6,7]),(4,[0,5,6,7,29]),(5,[2]),(6,[0,5,6,7]),(7,[2])] }
def F161:FA:= { n:=8,sh:=[vl,vs,vj, .one (.ptr 3 0),vi,vl, .one (.fn 241 [(3,0)]),vi],obs:=[(3,[.str []])],tk:=[5],keep:=[(0,[0,3]),(1,[4])] }
def F162:FA:= { n:=32,sh:=[.one (.ag tl0), .one (.ag tl0), .one (.ptr 2 0), .one (.ptr 3 0),vb, .one (.ptr 2 0),vs, .one (.ptr 3 0),vs,vb, .one (.ptr 2 1),vi, .one (.ptr 3 1),vi,vb, .one (.ptr 2 2), .one (.ag [.sl [], .sl []]), .one (.ptr 3 2), .one (.ag [.sl [], .sl []]),vb,vb, .one (.ptr 2 4),vb, .one (.ptr 3 4),vb,vb, .one (.ptr 2 5), .one (.ag [.sl [], .sl []]), .one (.ptr 3 5), .one (.ag [.sl [], .sl []]),vb,vb],obs:=[(2,tl0),(3,tl0)],tk:=[6,8,11,13,16,18,22,24,27,29],keep:=[(0,[2,3]),(1,[2,3,9]),(2,[4]),(3,[2,3,14]),(4,[4]),(5,[2,3,20]),(6,[4]),(7,[2,3,25]),(8,[4]),(9,[31]),(10,[4]),(11,[4])] }
def F191:FA:= { n:=19,sh:=[.one (.ag tl1),vi, .one (.ptr 2 0),vj,vi,vi, .one (.ptr 2 0),vs,vi,vi,vi,vb, .one (.ptr 2 3),vl,vi,vi,vi,vb,vi],obs:=[(2,tl1)],tk:=[5,7,13,14,18],keep:=[(0,[1,2]),(1,[1,2]),(2,[1,2,11]),(3,[4]),(4,[1]),(5,[1,17]),(6,[4]),(7,[4])] }
def F192:FA:= { n:=19,sh:=[.one (.ag tl2),vi, .one (.ptr 2 0),vj,vi,vi, .one (.ptr 2 2),vs,vi,vi,vi,vb, .one (.ptr 2 3),vl,vi,vi,vi,vb,vi],obs:=[(2,tl2)],tk:=[5,7,13,14,18],keep:=[(0,[1,2]),(1,[1,2]),(2,[1,2,11]),(3,[4]),(4,[1]),(5,[1,17]),(6,[4]),(7,[4])] }
def F193:FA:= { n:=83,sh:=[.one (.ag [.sl [], .sl []]),vi, .one (.ptr 2 0),vj,vb, .one (.ptr 5 0),vi,vl,vb,vi, .one (.ptr 2 0),vl,vi, .one (.cp tl1), .one (.ag tl1), .one (.ptr 5 0),vs,vb,vb,vb, .one (.ag [.sl [], .sl []]), .one (.ptr 5 0),vs,vi,vi,vb,vb,vb, .one (.ptr 5 1),vi,vb,vb,vb,vb, .one (.ptr 5 2),vi, .one (.ptr 5 1),vi,vb,vb,vb,vb, .one (.ptr 5 3),vl,vi,vb,vb,vb,vi, .one (.ptr 5 3),vl,vi,vb,vi,vi, .one (.ag [.sl [], .sl []]), .one (.ag tl1),vi,vb,vb, .tup [.c (.sl []), .c (.bool false)], .one (.ag tl1), .tup [.c (.sl []), .c (.bool false)],vl,vb, .one (.ptr 5 3),vl, .one (.ptr 5 3),vl,vi,vi, .one (.cp tl3), .one (.cp tl3),vi,vb,vb,vi,vb,vb,vi,vb,vb,vb],obs:=[(2,[.sl [], .sl []]),(5,tl1)],tk:=[19,24,27,33,41,53,60,68,74,75,78,79],keep:=[(0,[1,2]),(1,[1,2,5]),(2,[2,5,47]),(3,[4]),(4,[2,5,6]),(5,[2,5,6,52]),(6,[2,5,6]),(7,[2,5,6,59]),(8,[4]),(9,[5,8]),(10,[8,9]),(11,[4])] }
def F194:FA:= { n:=39,sh:=[.one (.ag tl2),vi, .one (.ptr 2 0),vj,vb,vl,vi,vi,vi,vb,vb,vb, .one (.ag tl2),vi,vi,vb,vb, .one (.ag tl2),vl,vi,vl,vi,vb,vi,vi,vi,vi,vb,vi,vi,vl,vi, .one (.cp [.int .i64 0]),vi,vl,vi, .one (.cp [.int .i64 0]),vi,vb],obs:=[(2,tl2)],tk:=[11,13,17,23,28],keep:=[(0,[1,2]),(1,[2,16]),(2,[4]),(3,[5]),(4,[5,6]),(5,[5,6,22]),(6,[5,6]),(7,[5,6,7]),(8,[5,6,7,27]),(9,[5,6,7]),(10,[5,6,7,38]),(11,[4]),(12,[4])] }
def F195:FA:= { n:=18,sh:=[.one (.ag tl1), .one (.ptr 1 0), .one (.ptr 2 0), .one (.ptr 3 0), .one (.ptr 1 0),vs, .one (.ptr 3 0), .one (.ptr 1 1),vi, .one (.ptr 3 1), .one (.ptr 1 2),vi, .one (.ptr 3 2), .one (.ptr 1 3),vl,vl, .one (.ptr 3 3), .one (.ag tl1)],obs:=[(1,tl1),(2,tl1),(3,tl1)],tk:=[5,8,11,14,17],keep:=[(0,[1,2]),(1,[1,2,3]),(2,[1,2,3]),(3,[1,2,3]),(4,[1,2,3]),(5,[2,3]),(6,[2])] }
def F196:FA:= { n:=18,sh:=[.one (.ag tl2), .one (.ptr 1 0), .one (.ptr 2 0), .one (.ptr 3 0), .one (.ptr 1 0),vi, .one (.ptr 3 0), .one (.ptr 1 1),vi, .one (.ptr 3 1), .one (.ptr 1 2),vs, .one (.ptr 3 2), .one (.ptr 1 3),vl,vl, .one (.ptr 3 3), .one (.ag tl2)],obs:=[(1,tl2),(2,tl2),(3,tl2)],tk:=[5,8,11,14,17],keep:=[(0,[1,2]),(1,[1,2,3]),(2,[1,2,3]),(3,[1,2,3]),(4,[1,2,3]),(5,[2,3]),(6,[2])] }
def F197:FA:= { n:=26,sh:=[.one (.ag tl1), .one (.ag tl1), .one (.ptr 2 0), .one (.ptr 3 0),vb, .one (.ptr 2 0),vs, .one (.ptr 3 0),vs,vb, .one (.ptr 2 1),vi, .one (.ptr 3 1),vi,vb, .one (.ptr 2 2),vi, .one (.ptr 3 2),vi,vb, .one (.ptr 2 3),vl, .one (.ptr 3 3),vl,vb,vb],obs:=[(2,tl1),(3,tl1)],tk:=[6,8,11,13,16,18,21,23],keep:=[(0,[2,3]),(1,[2,3,9]),(2,[4]),(3,[2,3,14]),(4,[4]),(5,[2,3,19]),(6,[4]),(7,[25]),(8,[4]),(9,[4])] }
def F198:FA:= { n:=26,sh:=[.one (.ag tl2), .one (.ag tl2), .one (.ptr 2 0), .one (.ptr 3 0),vb, .one (.ptr 2 0),vi, .one (.ptr 3 0),vi,vb, .one (.ptr 2 1),vi, .one (.ptr 3 1),vi,vb, .one (.ptr 2 2),vs, .one (.ptr 3 2),vs,vb, .one (.ptr 2 3),vl, .one (.ptr 3 3),vl,vb,vb],obs:=[(2,tl2),(3,tl2)],tk:=[6,8,11,13,16,18,21,23],keep:=[(0,[2,3]),(1,[2,3,9]),(2,[4]),(3,[2,3,14]),(4,[4]),(5,[2,3,19]),(6,[4]),(7,[25]),(8,[4]),(9,[4])] }
def F199:FA:= { n:=42,sh:=[vl,vi,vj,vj,vi,vi,vi,vl,vi,vb,vi,vi, .one (.al (.s 0 0 0) []),vi,vi, .one (.pp (.s 0 0 0) [] 0 0), .one (.pp (.s 0 0 0) [] 0 0),vi,vi, .one (.al (.s 0 0 0) []),vi,vi, .one (.pp (.s 0 0 0) [] 0 0), .one (.pp (.s 0 0 0) [] 0 1),vi,vi, .one (.al (.s 0 0 0) []),vi,vi,vs, .one (.pp (.s 0 0 0) [] 0 0), .one (.pp (.s 0 0 0) [] 0 2),vi,vi, .one (.al (.s 0 0 0) []),vi,vi, .one (.pp (.s 0 0 0) [] 0 0), .one (.pp (.s 0 0 0) [] 0 3),vi,vi,vi],obs:=[],al:=[12,19,26,34],tk:=[10,17,24,32,39,41],keep:=[(0,[0,1]),(1,[0,1,5]),(2,[0,1,5,9]),(3,[0,1,5]),(4,[0,1,5]),(5,[0,1,5]),(6,[0,1,5]),(7,[0,1,5]),(8,[0,1,5]),(9,[0,1,5]),(10,[0,1,5]),(11,[0,1,5]),(12,[0,4])],io:=some 0 }
def F212:FA:= { n:=19,sh:=[vl, .one (.fn 213 [(1000000,0)]),vj,vj,vi,vi,vl,vi,vi,vb,vi, .one (.fn 213 [(1000000,0)]),vl,vi, .one (.cp tl1), .one (.ag tl1),vb,vi,vi],obs:=[(1000000,[.str []])],tk:=[8,17],keep:=[(0,[0,1]),(1,[0,1,7,8]),(2,[0,1,7,8,9]),(3,[0,1,5,7,8]),(4,[0,1,5,7,8,16]),(5,[4]),(6,[0,1,7,8]),(7,[4])] }
def F213:FA:= { n:=8,sh:=[.one (.ag tl1), .one (.ptr 1000000 0), .one (.ptr 2 0),vb, .one (.ptr 2 0),vs,vs,vb],obs:=[(2,tl1),(1000000,[.str []])],tk:=[5],keep:=[(0,[1,2]),(1,[3])] }
def F214:FA:= { n:=179,sh:=[.one (.ptr 1000000 0), .one (.cp tl1), .one (.ag tl3),vj,vj, .one (.ptr 5 0),vb,vb,vb,vi, .one (.ptr 5 2),vs,vb,vb, .one (.ptr 5 3),vi,vb,vb, .one (.ptr 5 3),vi, .one (.cp tl1), .one (.cp tl1), .one (.cp [.sl []]),vl,vi,vi,vb, .one (.ptr 5 0),vi,vb,vb,vb,vb, .one (.ptr 5 1),vi,vb,vb,vb,vb, .one (.ptr 5 1),vi,vb,vb, .one (.ptr 5 2),vs,vb,vb,vb, .one (.ptr 5 3),vi,vb,vb,vb,vb,vb,vb, .one (.ptr 5 1),vi, .one (.cp tl1), .one (.cp tl1), .one (.cp tl8),vi,vi,vb,vb,vb,vb,vb,vb,vb, .one (.ptr 5 1),vi,vb,vb,vb,vb,vb,vb, .one (.ptr 5 1),vi,vb,vb,vb,vb, .one (.ptr 5 1),vi,vb,vb, .one (.ptr 5 2),vs,vb,vb,vb, .one (.ptr 5 3),vi,vb,vb,vb,vb, .one (.ptr 1000000 0), .one (.ptr 5 2),vs,vi,vi,vb,vb, .one (.ptr 1000000 0), .one (.ptr 1000000 0), .one (.ptr 1000000 0),vl,vi, .one (.cp tl1), .one (.cp tl5),vi, .one (.ptr 5 1),vi,vb,vb,vb, .one (.ptr 5 3),vi,vb,vb,vb,vb, .one (.ptr 5 2),vs,vb,vb,vb,vb,vb, .one (.ptr 5 1),vi, .one (.ptr 1000000 0), .one (.ptr 1000000 0), .one (.ptr 1000000 1),vl,vi,vi,vb,vb,vb, .one (.ptr 1000000 0), .one (.ptr 1000000 0), .one (.ptr 1000000 1),vl, .one (.ptr 5 1),vi, .one (.cp tl2), .one (.ag tl2), .one (.cp tl1), .one (.cp tl1), .one (.cp tl8),vi,vb,vb,vb,vb, .one (.ptr 5 2),vs,vb,vb, .one (.ptr 5 1),vi,vb,vb,vb,vb,vb,vb,vb,vb,vb,vb, .one (.ptr 5 1),vi,vb,vb],obs:=[(5,tl3),(1000000,[.sl [], .sl []])],tk:=[13,28,31,32,34,40,42,44,47,49,54,55,57,58,68,69,71,76,77,79,85,87,89,92,94,101,105,106,110,115,118,120,126,128,129,131,142,143,148,151,160,162,164,167,168,173,174,176],keep:=[(0,[0,1,5]),(1,[0,1,5,7]),(2,[0,1,5,7,8]),(3,[0,1,5,7,8,28]),(4,[0,1,5,7,8,28,29]),(5,[6]),(6,[0,1,5,7,8,28,37]),(7,[6]),(8,[0,1,5,7,8,28,52]),(9,[6]),(10,[0,1,5,7,8,28,65]),(11,[0,1,5,7,8,28,65]),(12,[6]),(13,[0,1,5,7,8,28,74]),(14,[6]),(15,[0,1,5,7,8,28,82]),(16,[6]),(17,[0,1,5,7,8,28,97]),(18,[0,5,9]),(19,[6]),(20,[0,1,5,7,8,28,123]),(21,[6]),(22,[5,7,8,28,157]),(23,[6]),(24,[5,7,28,170]),(25,[5,7,170]),(26,[6]),(27,[6])] }
def F215:FA:= { n:=56,sh:=[.one (.cp tl1),vj,vl,vb, .one (.ptr 4 0),vi,vi, .one (.ptr 7 0), .one (.cp tl1), .one (.cp tl1), .one (.cp [.sl []]),vl,vi,vl, .one (.ag tl9), .one (.ptr 4 0),vl,vi,vi,vb,vi, .one (.ptr 4 0), .one (.al (.oc 4 0) []),vi, .one (.pp (.oc 4 0) [] 0 0),vi, .tup [], .one (.cp tl1), .one (.cp tl1), .one (.cp [.sl []]),vl,vi,vi,vb,vi, .one (.cp tl3), .one (.ag tl3), .one (.ptr 4 1),vb,vb, .one (.ptr 4 0),vl,vi, .one (.cp [.int .i64 0]),vi,vb,vb,vi, .one (.ag tl3), .tup [],vi, .one (.ptr 4 0),vl, .one (.ptr 4 1),vb,vb],obs:=[(4,tl9),(7,tl3)],al:=[22],tk:=[18,23,27,32,39,47,48,52,54],keep:=[(0,[0]),(1,[0,4]),(2,[0,4,17,18]),(3,[0,4,17,18,19]),(4,[0,4,5,17,18]),(5,[0,4,17,18]),(6,[0,4,17,18]),(7,[0,4]),(8,[4,30,31,32]),(9,[4,30,31,32,33]),(10,[4,6,7,30,31,32]),(11,[4,6,7,30,31,32,46]),(12,[2,3]),(13,[4,30,31,32]),(14,[4,30,31,32]),(15,[2,3])] }
def F216:FA:= { n:=9,sh:=[vl,vi,vj,vj,vb,vl,vi,vi,vb],obs:=[],tk:=[5,6],keep:=[(0,[0,1]),(1,[4])] }
def F217:FA:= { n:=107,sh:=[vi,vi,vs,vi,vj,vj,vj,vj,vb,vi,vb,vb,vi,vb,vb,vs,vb,vb,vb,vi,vb,vb,vb,vb,vi,vb,vb,vs,vb,vb,vb,vi,vb,vb,vb,vb,vi,vb,vb,vs,vb,vb,vb,vi,vb,vb,vb,vb,vb,vi,vb,vb,vs,vb,vb,vb,vi,vb,vb,vb,vb,vi,vb,vb,vs,vb,vb,vb,vi,vb,vb,vb,vb,vi,vb,vb,vs,vb,vb,vb,vi,vb,vb,vb,vb,vi,vb,vb,vs,vb,vb,vb,vi,vb,vb,vb,vb,vi,vb,vb,vs,vb,vb,vb,vi,vb,vb],obs:=[],tk:=[9,12,14,15,18,19,24,26,27,30,31,36,38,39,42,43,49,51,52,55,56,61,63,64,67,68,73,75,76,79,80,85,87,88,91,92,97,99,100,103,104],keep:=[(0,[0,1,2,3]),(1,[1,2,3,9]),(2,[1,2,3,9,10]),(3,[8]),(4,[1,2,3,9,22]),(5,[8]),(6,[1,2,3,9,34]),(7,[8]),(8,[1,2,3,9,46]),(9,[1,2,3,9,46]),(10,[8]),(11,[1,2,3,9,59]),(12,[8]),(13,[1,2,3,9,71]),(14,[8]),(15,[1,2,3,9,83]),(16,[8]),(17,[1,2,3,95]),(18,[8]),(19,[8])] }
def F220:FA:= { n:=13,sh:=[vs,vj,vb,vs,vb,vb,vs,vb,vb,vb,vs,vb,vb],obs:=[],tk:=[5,9,10],keep:=[(0,[0]),(1,[2])] }
def F230:FA:= { n:=15,sh:=[vi,vi,vi,vj,vj,vj,vb,vi,vi,vb,vb,vi,vi,vb,vb],obs:=[],tk:=[8,10,11,12],keep:=[(0,[0,1,2]),(1,[6])] }
def F233:FA:= { n:=50,sh:=[vl,vi,vj,vj,vi,vi,vi,vl,vi,vb,vi,vi,vl,vi, .one (.cp tl3), .one (.cp tl3),vi,vi,vb,vi,vi,vl,vi, .one (.cp tl3), .one (.cp [.int .i64 0, .str [], .int .i64 0]),vi,vi,vb,vi,vi,vl,vi, .one (.cp tl3), .one (.cp [.str [], .int .i64 0]),vs,vi,vs,vb,vi,vi,vl,vi, .one (.cp tl3), .one (.cp [.int .i64 0]),vi,vi,vb,vi,vi,vi],obs:=[],tk:=[10,19,28,38,47,49],keep:=[(0,[0,1]),(1,[0,1,5]),(2,[0,1,5,9]),(3,[0,1,5]),(4,[0,1,5,18]),(5,[4]),(6,[0,1,5]),(7,[0,1,5,27]),(8,[4]),(9,[0,1,5]),(10,[0,1,5,37]),(11,[4]),(12,[0,1,5]),(13,[0,1,5,46]),(14,[4]),(15,[0,1,5]),(16,[4])] }
def F234:FA:= { n:=50,sh:=[.one (.ag [.sl [], .sl []]), .one (.ptr 1 0), .one (.ptr 2 0), .one (.ptr 3 0),vi, .one (.ptr 5 0),vi, .one (.ag [.sl [], .sl []]),vi, .one (.ptr 1 0),vl,vi,vb,vi,vi, .one (.ptr 1 0),vl,vi, .one (.cp tl1), .one (.ag tl1),vl, .one (.ptr 5 3),vl,vl, .one (.ptr 5 3), .one (.ptr 3 0),vl, .one (.ag tl1),vl,vl, .one (.ptr 3 0),vi, .one (.ptr 1 1),vl,vi,vb,vi,vi, .one (.ptr 3 1),vl, .one (.ptr 1 1),vl,vi, .one (.cp tl2), .one (.ag tl2), .one (.ag tl2),vl,vl, .one (.ptr 3 1), .one (.ag [.sl [], .sl []])],obs:=[(1,[.sl [], .sl []]),(2,[.sl [], .sl []]),(3,[.sl [], .sl []]),(5,tl1)],tk:=[13,22,26,27,36,39,49],dp:=[20,23,28,29,46,47],keep:=[(0,[1,2]),(1,[1,2,3]),(2,[1,2,3,4]),(3,[1,2,3,4,12]),(4,[1,2,3,4]),(5,[1,2,3,4,5]),(6,[1,2,3,4,5]),(7,[1,2,3,4]),(8,[1,2,3,6]),(9,[1,2,3,6,35]),(10,[1,2,3,6]),(11,[1,2,3,6]),(12,[2])] }
def F235:FA:= { n:=42,sh:=[.one (.ag tl0), .one (.ptr 1 0),vb, .one (.ptr 1 0),vs,vb,vb,vb, .one (.ptr 1 1),vi,vb,vb,vb,vb, .one (.ptr 1 2), .one (.ag [.sl [], .sl []]),vb,vb,vb,vb, .one (.ptr 1 5), .one (.ag [.sl [], .sl []]),vb,vb,vb, .one (.ptr 1 4),vb, .one (.ptr 1 1),vi,vb, .one (.ptr 1 5), .one (.ptr 1 5),vl,vi,vb,vb, .one (.ptr 1 5), .one (.ptr 1 6),vl,vi,vb,vb],obs:=[(1,tl0)],tk:=[4,7,13,15,19,26,28,32,35,38],keep:=[(0,[1]),(1,[1,24]),(2,[2]),(3,[1,26]),(4,[2]),(5,[2])] }
def F236:FA:= { n:=42,sh:=[.one (.ag [.sl [], .sl []]), .one (.ptr 1 0), .one (.ptr 2 0), .one (.ptr 3 0),vj, .one (.ptr 5 0),vj, .one (.ptr 7 0), .one (.ptr 1 0),vl,vi,vi,vb, .one (.cp tl1), .one (.ag tl1), .one (.ptr 5 3),vl,vl, .one (.ptr 5 3), .one (.ptr 3 0),vl, .one (.ag tl1),vl,vl, .one (.ptr 3 0),vi, .one (.ptr 1 1),vl,vi,vi,vb, .one (.cp tl2), .one (.ag tl2), .one (.ptr 3 1),vl, .one (.ag tl2), .one (.ag tl2),vl,vl, .one (.ptr 3 1),vi, .one (.ag [.sl [], .sl []])],obs:=[(1,[.sl [], .sl []]),(2,[.sl [], .sl []]),(3,[.sl [], .sl []]),(5,tl1),(7,tl2)],tk:=[9,11,16,20,21,27,29,34,35,41],dp:=[22,23,37,38],keep:=[(0,[1,2]),(1,[1,2,3]),(2,[1,2,3,9,10,11]),(3,[1,2,3,9,10,11,12]),(4,[1,2,3,5,9,10,11]),(5,[1,2,3,5,9,10,11]),(6,[1,2,3,9,10,11]),(7,[1,2,3,9,10,11]),(8,[2,3,27,28,29]),(9,[2,3,27,28,29,30]),(10,[2,3,7,27,28,29]),(11,[2,3,27,28,29]),(12,[2,3,27,28,29]),(13,[2])] }
def F237:FA:= { n:=9,sh:=[vy,vj,vb,vy,vb,vb,vy,vb,vb],obs:=[],tk:=[5,6],keep:=[(0,[0]),(1,[2])] }
def F238:FA:= { n:=9,sh:=[vy,vj,vb,vy,vb,vb,vy,vb,vb],obs:=[],tk:=[5,6],keep:=[(0,[0]),(1,[2])] }
def F239:FA:= { n:=42,sh:=[.one (.ag tl0), .one (.ptr 1 0),vb, .one (.ptr 1 0),vs,vb,vb,vb, .one (.ptr 1 1),vi,vb,vb,vb,vb, .one (.ptr 1 2), .one (.ag [.sl [], .sl []]),vb,vb,vb,vb, .one (.ptr 1 5), .one (.ag [.sl [], .sl []]),vb,vb,vb, .one (.ptr 1 4),vb, .one (.ptr 1 1),vi,vb, .one (.ptr 1 5), .one (.ptr 1 5),vl,vi,vb,vb, .one (.ptr 1 5), .one (.ptr 1 6),vl,vi,vb,vb],obs:=[(1,tl0)],tk:=[4,7,13,15,19,26,28,32,35,38],keep:=[(0,[1]),(1,[1,24]),(2,[2]),(3,[1,26]),(4,[2]),(5,[2])] }
def F240:FA:= { n:=19,sh:=[vl, .one (.fn 241 [(1000000,0)]),vj,vj,vi,vi,vl,vi,vi,vb,vi, .one (.fn 241 [(1000000,0)]),vl,vi, .one (.cp tl0), .one (.ag tl0),vb,vi,vi],obs:=[(1000000,[.str []])],tk:=[8,17],keep:=[(0,[0,1]),(1,[0,1,7,8]),(2,[0,1,7,8,9]),(3,[0,1,5,7,8]),(4,[0,1,5,7,8,16]),(5,[4]),(6,[0,1,7,8]),(7,[4])] }
def F241:FA:= { n:=8,sh:=[.one (.ag tl0), .one (.ptr 1000000 0), .one (.ptr 2 0),vb, .one (.ptr 2 0),vs,vs,vb],obs:=[(2,tl0),(1000000,[.str []])],tk:=[5],keep:=[(0,[1,2]),(1,[3])] }
def F256:FA:= { n:=27,sh:=[vl,vi,vj,vj,vi,vi,vi,vl,vi,vi,vi,vb,vi,vl,vi,vb,vi,vi,vl,vi, .one (.cp tl3), .one (.ag tl3),vi,vi,vi,vb,vi],obs:=[],tk:=[6,16,22,26],keep:=[(0,[0,1]),(1,[0,1]),(2,[0,1,11]),(3,[4]),(4,[0,1,5]),(5,[0,1,5,15]),(6,[0,1,5]),(7,[0,1,5]),(8,[0,1,5,25]),(9,[4]),(10,[4])] }
def F257:FA:= { n:=22,sh:=[.one (.ag [.sl [], .sl []]),vs, .one (.ptr 2 0),vj,vi,vi,vi, .one (.ptr 2 0),vl,vi,vb,vi,vi, .one (.ptr 2 0),vl,vi, .one (.cp tl1), .one (.cp tl1),vs,vs,vb,vi],obs:=[(2,[.sl [], .sl []])],tk:=[11,21],keep:=[(0,[1,2]),(1,[1,2,5]),(2,[1,2,5,10]),(3,[1,2,5]),(4,[1,2,5,20]),(5,[4]),(6,[4])] }
def F258:FA:= { n:=172,sh:=[.one (.ag [.sl [], .sl []]), .one (.ag tl1),vi, .one (.ptr 3 0), .one (.ptr 4 0),vj,vb, .one (.ptr 7 0),vb,vb,vi, .one (.ptr 4 3),vl,vi, .one (.cp tl3), .one (.ag tl3), .one (.ptr 7 2),vs,vb,vb, .one (.ptr 7 3),vi,vb,vb, .one (.ptr 7 2),vs,vb,vb, .one (.ptr 7 3),vi,vi,vi, .one (.ptr 4 3),vl,vi,vi,vb,vb, .one (.ptr 7 0),vi,vb,vb,vb,vb, .one (.ptr 7 1),vi,vb,vb,vb,vb, .one (.ptr 7 2),vs,vb,vb, .one (.ptr 7 1),vi,vb,vb,vb, .one (.ptr 7 3),vi,vb,vb,vb,vb,vb,vb, .one (.ptr 7 1),vi, .one (.ptr 4 2),vi,vi,vb,vb,vb,vb,vb,vb,vb, .one (.ptr 7 1),vi,vb,vb,vb,vb,vb,vb, .one (.ptr 7 1),vi,vb,vb,vb,vb, .one (.ptr 7 2),vs,vb,vb, .one (.ptr 7 1),vi,vb,vb,vb, .one (.ptr 7 3),vi,vb,vb,vb,vb, .one (.ag [.sl [], .sl []]), .one (.ptr 7 2),vs,vi,vi,vb,vb, .one (.ptr 3 0),vl,vi, .one (.cp tl1), .one (.cp tl5),vi, .one (.ptr 7 1),vi,vb,vb,vb, .one (.ptr 7 3),vi,vb,vb,vb,vb,vb,vb, .one (.ptr 7 1),vi, .one (.ptr 3 1),vl,vi,vi,vb,vb,vb, .one (.ptr 3 1),vl, .one (.ptr 7 1),vi, .one (.cp tl2), .one (.ag tl2), .one (.ptr 4 2),vi,vb,vb,vb,vb,vb,vb, .one (.ptr 7 1),vi,vb,vb,vb,vb, .one (.ptr 7 1),vi,vb,vb,vb, .one (.ptr 7 0),vi,vb,vb],obs:=[(3,[.sl [], .sl []]),(4,tl1),(7,tl3)],tk:=[19,27,30,33,42,43,45,51,53,55,58,60,65,66,68,70,77,78,80,85,86,88,94,96,98,101,103,110,114,116,117,122,125,127,132,133,142,144,146,150,155,156,158,161,162,164,167,169],keep:=[(0,[2,3,4]),(1,[2,3,4,7]),(2,[2,3,4,7,8]),(3,[3,4,7,8,9]),(4,[3,4,7,8,9,39]),(5,[3,4,7,8,9,39,40]),(6,[6]),(7,[3,4,7,8,9,39,48]),(8,[6]),(9,[3,4,7,8,9,39,63]),(10,[6]),(11,[3,4,7,8,9,39,74]),(12,[3,4,7,8,9,39,74]),(13,[6]),(14,[3,4,7,8,9,39,83]),(15,[6]),(16,[3,4,7,8,9,39,91]),(17,[6]),(18,[3,4,7,8,9,39,106]),(19,[3,7,10]),(20,[6]),(21,[3,4,7,8,9,39,130]),(22,[6]),(23,[7,8,9,153]),(24,[6]),(25,[6])] }
def F259:FA:= { n:=116,sh:=[.one (.ag tl1), .one (.ptr 1 0),vl,vb,vl,vi,vi, .one (.ptr 7 0),vi,vi,vi,vb, .one (.ptr 1 3),vl,vi,vl,vi,vl,vi,vb,vi,vi, .one (.al (.s 4 0 0) []),vi, .one (.pp (.s 4 0 0) [] 0 0),vi,vl,vi,vb,vi,vi, .one (.ptr 1 3),vl,vi, .one (.cp tl3), .one (.ag tl3), .tup [.c (.int .i64 0), .c (.int .i64 0)], .one (.ag tl3), .tup [.c (.int .i64 0), .c (.int .i64 0)],vi,vi,vl,vi, .one (.cp [.int .i64 0]),vi,vi,vi,vb,vb,vi,vb,vb,vb, .one (.ptr 7 0),vi,vb,vb,vi,vb,vb,vb,vl, .one (.ptr 7 0),vi,vi,vi,vl,vi,vb,vb, .one (.al (.s 4 0 0) []),vi,vi,vi,vi,vi,vi,vi,vb,vb,vb,vb,vb,vb,vb, .one (.al (.s 4 0 0) []), .one (.ptr 7 3),vi,vi,vb,vb,vb, .one (.al (.s 4 0 0) []), .one (.ptr 7 3),vi,vi,vb,vb,vi,vi,vl,vi,vb,vb,vb, .one (.al (.s 4 0 0) []),vi,vi,vi,vi,vb,vb,vb,vb,vl,vl],obs:=[(1,tl1),(7,tl3)],al:=[22,70,85,92,105],tk:=[20,29,36,48,52,56,61,63,69,73,74,76,87,88,94,97,104,108,112,114,115],keep:=[(0,[1]),(1,[1,4]),(2,[1,4,5]),(3,[1,4,5,19]),(4,[1,4,5]),(5,[1,4,5]),(6,[1,4,6]),(7,[1,4,6,28]),(8,[1,4,6]),(9,[1,4,6,7]),(10,[1,4,6,7,8,9]),(11,[1,4,6,7,8,9,10]),(12,[1,4,6,7,8,9,10,60]),(13,[2,3]),(14,[1,4,6,7,8,9,10,11]),(15,[1,4,6,7,8,9,10,11,63]),(16,[1,4,6,11]),(17,[1,4,6,7,8,9,10,11,63,80]),(18,[1,4,6,7,8,9,10,11,63,80]),(19,[1,4,6,7,8,9,10,63,83]),(20,[1,4,6,11]),(21,[1,4,6,7,8,9,10,90]),(22,[1,4,6,11]),(23,[1,4,6,113]),(24,[2,3]),(25,[2,3])],ioa:=[70,85,92,105] }
def F260:FA:= { n:=46,sh:=[.one (.ag tl2),vi,vi,vi, .one (.ptr 4 0),vj,vj,vj,vi,vi,vi,vb,vb,vi,vb,vb,vb, .one (.ag tl2),vi,vb,vb,vb,vi,vi,vi, .one (.ptr 4 3),vl,vi,vb,vb,vi,vb,vb,vi,vi, .one (.ptr 4 3),vl,vi, .one (.cp tl2), .one (.ag tl2),vi,vi,vi,vi,vi,vi],obs:=[(4,tl2)],tk:=[12,16,22,29,33,43,45],keep:=[(0,[1,2,3,4]),(1,[1,2,3,4,21]),(2,[8]),(3,[1,2,3,4]),(4,[1,2,3,4,9]),(5,[1,2,3,4,9,32]),(6,[1,2,3,4,9]),(7,[1,2,3,4,9]),(8,[8])] }
def F261:FA:= { n:=35,sh:=[.one (.ag tl2), .one (.ptr 1 0),vl,vl,vi,vl, .one (.ptr 1 0),vi,vb,vb, .one (.ptr 1 1),vi,vb,vb,vl, .one (.ptr 1 1),vi,vl,vl,vi, .one (.ptr 1 3),vl,vi,vb,vi,vi,vl, .one (.ptr 1 3),vl,vi, .one (.cp tl2), .one (.ag tl2),vl,vl,vl],obs:=[(1,tl2)],tk:=[7,9,14,16,24,26,34],dp:=[5,17,18,33],keep:=[(0,[1]),(1,[1,3]),(2,[1,3,13]),(3,[1,3]),(4,[1,3,4]),(5,[1,3,4,23]),(6,[1,3,4]),(7,[1,3,4]),(8,[2])] }
def F262:FA:= { n:=23,sh:=[vl,vj,vl,vl,vi,vl,vi,vl,vi,vl,vi,vb,vi,vi, .one (.al (.s 3 0 0) []),vi,vl,vi, .one (.cp tl3), .one (.ag tl3), .one (.ag tl3), .one (.pp (.s 3 0 0) [] 0 0),vl],obs:=[],al:=[14],tk:=[12,22],keep:=[(0,[0]),(1,[0,3]),(2,[0,3,4]),(3,[0,3,4,11]),(4,[0,3,4]),(5,[0,3,4]),(6,[2])] }
def F263:FA:= { n:=27,sh:=[vl,vl,vj,vj,vb,vi,vl,vi,vl,vi,vb,vi,vl,vi,vb,vi,vi,vl,vi, .one (.cp tl3), .one (.ag tl3),vl,vi, .one (.cp tl3), .one (.ag tl3),vb,vb],obs:=[],tk:=[15],keep:=[(0,[0,1]),(1,[0,1,10]),(2,[4]),(3,[0,1,5]),(4,[0,1,5,14]),(5,[0,1,5]),(6,[0,1,5,26]),(7,[4]),(8,[4])] }
def F268:FA:= { n:=23,sh:=[vs,vj,vb,vi,vi,vs,vi,vb,vi,vi,vs,vi,vy,vb,vb,vs,vi,vb,vb,vs,vy,vb,vb],obs:=[],tk:=[8,18,19],keep:=[(0,[0]),(1,[0,3]),(2,[0,3,7]),(3,[0,3]),(4,[0,3,14]),(5,[2]),(6,[2])] }
def F271:FA:= { n:=10,sh:=[vs,vj,vb,vs,vb,vb,vb,vb,vb,vb],obs:=[],tk:=[3],keep:=[(0,[0]),(1,[3]),(2,[3,4]),(3,[3,4]),(4,[3,4]),(5,[3,4]),(6,[4]),(7,[2]),(8,[2])] }
def F272:FA:= { n:=50,sh:=[.one (.ptr 1000000 0),vi,vi,vj,vj,vj,vb,vi, .one (.ptr 1000000 0), .one (.ptr 1000000 0), .one (.ptr 1000000 0),vl,vi,vb,vb,vi,vb,vb, .one (.ptr 1000000 0), .one (.ptr 1000000 0), .one (.ptr 1000000 1),vb, .one (.ptr 1000000 0), .one (.ptr 1000000 0), .one (.ptr 1000000 0),vl,vi, .one (.cp [.int .i64 0]),vi,vb, .one (.ptr 1000000 0), .one (.ptr 1000000 0), .one (.ptr 1000000 0), .one (.al (.oc 1000000 0) []),vi,vi, .one (.pp (.oc 1000000 0) [] 0 0),vb, .one (.ptr 1000000 0), .one (.ptr 1000000 0), .one (.ptr 1000000 0),vl,vi, .one (.cp [.int .i64 0]),vi,vi,vb, .one (.ptr 1000000 0), .one (.ptr 1000000 0), .one (.ptr 1000000 1)],obs:=[(1000000,tl9)],al:=[33],tk:=[14,18,30,34,35,42,45,47],keep:=[(0,[0,1,2,6]),(1,[]),(2,[0,1,2,21]),(3,[]),(4,[0,37]),(5,[])] }
def F273:FA:= { n:=83,sh:=[.one (.ptr 1000000 0),vi, .one (.ag tl3),vj,vj, .one (.ptr 5 0),vi, .one (.ptr 1000000 0), .one (.ptr 1000000 0), .one (.ptr 1000000 0),vl,vi, .one (.cp [.int .i64 0]),vi,vi, .one (.ag tl3),vi,vb,vb, .one (.ptr 5 0),vi,vb,vb, .one (.ptr 5 0),vi,vb,vb,vb, .one (.ptr 5 3),vi,vi,vb,vb,vb, .one (.ptr 1000000 0), .one (.ptr 1000000 0), .one (.ptr 1000000 1), .one (.ptr 5 0),vi, .one (.ptr 1000000 0),vi,vi,vi, .one (.ag tl3),vi,vi,vi, .tup [],vb,vb, .one (.ptr 1000000 0),vi,vi,vi,vi, .tup [], .one (.ptr 1000000 0), .one (.ptr 5 3),vi,vi, .tup [],vb,vb, .one (.ptr 1000000 0), .one (.ptr 5 3),vi,vi, .tup [],vb,vb,vb,vb, .one (.ptr 1000000 0), .one (.ptr 1000000 0), .one (.ptr 1000000 0), .one (.ptr 1000000 1),vb,vb,vi,vb,vb, .one (.ptr 1000000 0), .one (.ptr 1000000 1)],obs:=[(5,tl3),(1000000,tl9)],tk:=[18,22,27,34,39,40,42,43,51,56,58,59,63,65,66,73,76,77,78],keep:=[(0,[0,1,5]),(1,[0,1,5,6]),(2,[0,1,5,6,33]),(3,[]),(4,[0,1,5,6,38]),(5,[]),(6,[0,1,5,6,38,48]),(7,[0,5,6]),(8,[]),(9,[0,1,5,6,38,61]),(10,[]),(11,[0,1,5,6,38,68]),(12,[0,1,5,6,70]),(13,[])] }
def F274:FA:= { n:=19,sh:=[vl,vi,vj,vj,vi,vi,vl,vi,vi,vb,vi,vi,vl,vi, .one (.cp [.int .i64 0]),vi,vb,vi,vi],obs:=[],tk:=[8,17],keep:=[(0,[0,1]),(1,[0,1,7,8]),(2,[0,1,7,8,9]),(3,[0,1,5,7,8]),(4,[0,1,5,7,8,16]),(5,[4]),(6,[0,1,7,8]),(7,[4])] }
def F281:FA:= { n:=27,sh:=[.one (.ag tl2), .one (.ptr 1 0), .one (.ptr 2 0), .one (.ptr 3 0),vi, .one (.ag tl2),vl, .one (.ptr 3 3),vi, .one (.ptr 1 3),vl,vi,vb,vi,vi, .one (.ptr 3 3),vl, .one (.ptr 1 3),vl,vi, .one (.cp tl2), .one (.ag tl2), .one (.ag tl2),vl,vl, .one (.ptr 3 3), .one (.ag tl2)],obs:=[(1,tl2),(2,tl2),(3,tl2)],tk:=[13,16,26],dp:=[6,23,24],keep:=[(0,[1,2]),(1,[1,2,3]),(2,[1,2,3]),(3,[1,2,3,4]),(4,[1,2,3,4,12]),(5,[1,2,3,4]),(6,[1,2,3,4]),(7,[2])] }
def F282:FA:= { n:=0,sh:=[],obs:=[],lb:=some ([[[.F]]],[[.U 4]],false) }
def F283:FA:= { n:=29,sh:=[.one (.ag tl2), .one (.ptr 1 0), .one (.ptr 2 0), .one (.ptr 3 0),vj, .one (.ptr 5 0), .one (.ptr 1 0),vi, .one (.ptr 1 1),vi, .one (.ptr 1 2),vs, .one (.ag tl2), .one (.ptr 1 3),vl,vi,vi,vb, .one (.cp tl2), .one (.ag tl2), .one (.ptr 3 3),vl, .one (.ag tl2), .one (.ag tl2),vl,vl, .one (.ptr 3 3),vi, .one (.ag tl2)],obs:=[(1,tl2),(2,tl2),(3,tl2),(5,tl2)],tk:=[7,9,11,14,16,21,22,28],dp:=[24,25],keep:=[(0,[1,2]),(1,[1,2,3]),(2,[2,3,14,15,16]),(3,[2,3,14,15,16,17]),(4,[2,3,5,14,15,16]),(5,[2,3,14,15,16]),(6,[2,3,14,15,16]),(7,[2])] }
def F286:FA:= { n:=21,sh:=[vs,vj,vb,vs,vb,vb,vs,vb,vb,vb,vs,vb,vb,vb,vs,vb,vb,vb,vs,vb,vb],obs:=[],tk:=[5,9,13,17,18],keep:=[(0,[0]),(1,[2])] }
def F288:FA:= { n:=13,sh:=[.one (.ag tl3),vi, .one (.ptr 2 0),vj,vi,vi, .one (.ptr 2 2),vs,vi,vi,vi,vb,vi],obs:=[(2,tl3)],tk:=[5,7,12],keep:=[(0,[1,2]),(1,[1]),(2,[1,11]),(3,[4]),(4,[4])] }
def F289:FA:= { n:=22,sh:=[.one (.ag tl3), .one (.ptr 1 0),vi,vi, .one (.ptr 1 0),vi,vb,vb,vb,vb,vb,vb,vb,vb,vb, .one (.ptr 1 1),vi,vb,vb,vb,vb,vb],obs:=[(1,tl3)],tk:=[5,16],keep:=[(0,[1]),(1,[1,5]),(2,[1,5,6]),(3,[1,5,6]),(4,[1,5,6]),(5,[2,3]),(6,[1,5,10]),(7,[1,5,10]),(8,[1,5,10]),(9,[1,5,10]),(10,[2,3]),(11,[5,17]),(12,[2,3]),(13,[5,19]),(14,[19]),(15,[2,3]),(16,[2,3])] }
def F290:FA:= { n:=22,sh:=[vl,vi,vi,vj,vj,vj,vb,vl,vi, .one (.cp [.int .i64 0]),vi,vb, .one (.al (.s 0 0 0) []),vi,vi, .one (.pp (.s 0 0 0) [] 0 0),vl,vi, .one (.cp [.int .i64 0]),vi,vi,vb],obs:=[],al:=[12],tk:=[17,20],keep:=[(0,[0,1,2]),(1,[0,1,2,11]),(2,[0,1,2]),(3,[0,6])],io:=some 0 }
def F291:FA:= { n:=84,sh:=[.one (.ag tl2),vi, .one (.ptr 2 0),vj,vb,vi, .one (.ptr 2 3),vl,vi, .one (.ptr 2 0),vi,vb,vb, .one (.ptr 2 1),vi,vb,vb, .one (.ptr 2 2),vs,vb,vb,vb,vi,vb,vb,vb,vb, .one (.ptr 2 2),vs,vb,vb, .one (.ptr 2 1),vi,vb,vb,vb,vi,vb,vb,vb,vb, .one (.ptr 2 2),vs,vb,vb,vi,vb,vb,vb, .one (.ptr 2 1),vi,vi,vi,vb,vb,vb,vb,vb, .one (.ptr 2 2),vs,vb,vb, .one (.ptr 2 1),vi,vb,vb,vb,vi,vb,vb,vb,vb, .one (.ptr 2 2),vs,vb,vb, .one (.ptr 2 1),vi,vb,vb,vb,vi,vb,vb],obs:=[(2,tl2)],tk:=[7,10,14,16,18,21,22,28,30,32,35,36,42,44,45,48,50,51,59,61,63,66,67,73,75,77,80,81],keep:=[(0,[1,2]),(1,[1,2,5]),(2,[1,2,5,10]),(3,[1,2,5,10,11]),(4,[4]),(5,[1,2,5,10,25]),(6,[4]),(7,[1,2,5,10,39]),(8,[4]),(9,[2,5,10,55]),(10,[2,5,10,55]),(11,[4]),(12,[2,5,70]),(13,[4]),(14,[4])] }
def F292:FA:= { n:=17,sh:=[.one (.ag tl3), .one (.ptr 1 0), .one (.ptr 2 0), .one (.ptr 3 0), .one (.ptr 1 0),vi, .one (.ptr 3 0), .one (.ptr 1 1),vi, .one (.ptr 3 1), .one (.ptr 1 2),vs, .one (.ptr 3 2), .one (.ptr 1 3),vi, .one (.ptr 3 3), .one (.ag tl3)],obs:=[(1,tl3),(2,tl3),(3,tl3)],tk:=[5,8,11,14,16],keep:=[(0,[1,2]),(1,[1,2,3]),(2,[1,2,3]),(3,[1,2,3]),(4,[1,2,3]),(5,[2,3]),(6,[2])] }
def F293:FA:= { n:=25,sh:=[.one (.ag tl3), .one (.ag tl3), .one (.ptr 2 0), .one (.ptr 3 0),vb, .one (.ptr 2 0),vi, .one (.ptr 3 0),vi,vb, .one (.ptr 2 1),vi, .one (.ptr 3 1),vi,vb, .one (.ptr 2 2),vs, .one (.ptr 3 2),vs,vb, .one (.ptr 2 3),vi, .one (.ptr 3 3),vi,vb],obs:=[(2,tl3),(3,tl3)],tk:=[6,8,11,13,16,18,21,23],keep:=[(0,[2,3]),(1,[2,3,9]),(2,[4]),(3,[2,3,14]),(4,[4]),(5,[2,3,19]),(6,[4]),(7,[24]),(8,[4]),(9,[4])] }
def F298:FA:= { n:=13,sh:=[vy,vj,vb,vy,vb,vb,vy,vb,vb,vb,vy,vb,vb],obs:=[],tk:=[5,9,10],keep:=[(0,[0]),(1,[2])] }
def F299:FA:= { n:=13,sh:=[vy,vj,vb,vy,vb,vb,vy,vb,vb,vb,vy,vb,vb],obs:=[],tk:=[5,9,10],keep:=[(0,[0]),(1,[2])] }
def F301:FA:= { n:=17,sh:=[.one (.ag tl3), .one (.ptr 1 0),vi, .one (.ptr 1 0),vi,vb,vb,vb,vb,vb, .one (.ptr 1 1),vi,vb,vb,vb,vb,vb],obs:=[(1,tl3)],tk:=[4,11],keep:=[(0,[1]),(1,[1,4]),(2,[1,4,5]),(3,[1,4,5]),(4,[1,4,5]),(5,[1,4,5]),(6,[2]),(7,[4,12]),(8,[2]),(9,[4,14]),(10,[14]),(11,[2]),(12,[2])] }
def An:FuncId→FA
  | 9=>F9
  | 31=>F31
  | 33=>F33
  | 36=>F36
  | 44=>F44
  | 45=>F45
  | 57=>F57
  | 58=>F58
  | 59=>F59
  | 60=>F60
  | 61=>F61
  | 62=>F62
  | 63=>F63
  | 88=>F88
  | 100=>F100
  | 101=>F101
  | 102=>F102
  | 107=>F107
  | 108=>F108
  | 113=>F113
  | 114=>F114
  | 115=>F115
  | 116=>F116
  | 128=>F128
  | 129=>F129
  | 130=>F130
  | 131=>F131
  | 134=>F134
  | 138=>F138
  | 150=>F150
  | 151=>F151
  | 152=>F152
  | 153=>F153
  | 154=>F154
  | 155=>F155
  | 156=>F156
  | 157=>F157
  | 158=>F158
  | 159=>F159
  | 160=>F160
  | 161=>F161
  | 162=>F162
  | 191=>F191
  | 192=>F192
  | 193=>F193
  | 194=>F194
  | 195=>F195
  | 196=>F196
  | 197=>F197
  | 198=>F198
  | 199=>F199
  | 212=>F212
  | 213=>F213
  | 214=>F214
  | 215=>F215
  | 216=>F216
  | 217=>F217
  | 220=>F220
  | 230=>F230
  | 233=>F233
  | 234=>F234
  | 235=>F235
  | 236=>F236
  | 237=>F237
  | 238=>F238
  | 239=>F239
  | 240=>F240
  | 241=>F241
  | 256=>F256
  | 257=>F257
  | 258=>F258
  | 259=>F259
  | 260=>F260
  | 261=>F261
  | 262=>F262
  | 263=>F263
  | 268=>F268
  | 271=>F271
  | 272=>F272
  | 273=>F273
  | 274=>F274
  | 281=>F281
  | 282=>F282
  | 283=>F283
  | 286=>F286
  | 288=>F288
  | 289=>F289
  | 290=>F290
  | 291=>F291
  | 292=>F292
  | 293=>F293
  | 298=>F298
  | 299=>F299
  | 301=>F301
  | _=> { n:=0,sh:=[],obs:=[] }
abbrev sg9:Sg:= { bi:=⟨[(0,[[.F]]),(1,[[.S]])],[]⟩,bo:=⟨[(0,[[.S]])],[]⟩,np:=2,ext:=false }
abbrev sg31:Sg:= { bi:=⟨[(0,[[.F, .F]]),(1,[[.S]])],[]⟩,bo:=⟨[(0,[[.S]])],[]⟩,np:=2,ext:=false }
abbrev sg33:Sg:= { bi:=⟨[(0,[[.F, .F]])],[]⟩,bo:=⟨[(0,[[.U 4, .U 4]])],[]⟩,np:=1,ext:=false }
abbrev sg36:Sg:= { bi:=⟨[(0,[[.F, .F]]),(1,[[.F, .F]])],[]⟩,bo:=⟨[(0,[[.S]])],[]⟩,np:=2,ext:=false }
abbrev sg44:Sg:= { bi:=⟨[(0,[[.F, .F]])],[]⟩,bo:=⟨[(0,[[.S]])],[]⟩,np:=1,ext:=false }
abbrev sg45:Sg:= { bi:=⟨[(0,[[.S, .S, .S, .F]]),(1,[[.S]])],[]⟩,bo:=⟨[(0,[[.S]])],[]⟩,np:=2,ext:=false }
abbrev sg57:Sg:= { bi:=⟨[(0,[[.F]]),(1,[[.S]])],[]⟩,bo:=⟨[(0,[[.S]])],[]⟩,np:=2,ext:=false }
abbrev sg58:Sg:= { bi:=⟨[(0,[[.F]]),(1,[[.S]])],[]⟩,bo:=⟨[(0,[[.U 7],[.S]])],[]⟩,np:=2,ext:=false }
abbrev sg59:Sg:= { bi:=⟨[(0,[[.F]])],[]⟩,bo:=⟨[(0,[[.U 7]])],[]⟩,np:=1,ext:=false }
abbrev sg60:Sg:= { bi:=⟨[(0,[[.F]]),(1,[[.S]])],[]⟩,bo:=⟨[(0,[[.U 7],[.S]])],[]⟩,np:=2,ext:=false }
abbrev sg61:Sg:= { bi:=⟨[(0,[[.F]]),(1,[[.F]])],[]⟩,bo:=⟨[(0,[[.S]])],[]⟩,np:=2,ext:=false }
abbrev sg62:Sg:= { bi:=⟨[(0,[[.U 0]]),(1,[[.S]])],[]⟩,bo:=⟨[(0,[[.S]]),(1,[[.U 0]])],[]⟩,np:=2,io:=some 0 }
abbrev sg63:Sg:= { bi:=⟨[(0,[[.F]]),(1,[[.S]])],[]⟩,bo:=⟨[(0,[[.S]])],[]⟩,np:=2,ext:=false }
abbrev sg88:Sg:= { bi:=⟨[(0,[[.S]])],[]⟩,bo:=⟨[(0,[[.S]])],[]⟩,np:=1,ext:=false }
abbrev SY:Sg:= { bi:=⟨[(0,[[.F]]),(1,[[.S]])],[]⟩,bo:=⟨[(0,[[.S]])],[]⟩,np:=2,ext:=false }
abbrev SX:Sg:= { bi:=⟨[(0,[[.F]]),(1,[[.S]])],[]⟩,bo:=⟨[(0,[[.S]])],[]⟩,np:=2,ext:=false }
abbrev SW:Sg:= { bi:=⟨[(0,[[.F, .F]])],[]⟩,bo:=⟨[(0,[[.S]])],[]⟩,np:=1,ext:=false }
abbrev SV:Sg:= { bi:=⟨[(0,[[.F]])],[]⟩,bo:=⟨[(0,[[.U 4]])],[]⟩,np:=1,ext:=false }
abbrev SU:Sg:= { bi:=⟨[(0,[[.F]])],[]⟩,bo:=⟨[(0,[[.U 4]])],[]⟩,np:=1,ext:=false }
abbrev ST:Sg:= { bi:=⟨[(0,[[.F]]),(1,[[.F]])],[]⟩,bo:=⟨[(0,[[.S]])],[]⟩,np:=2,ext:=false }
abbrev SR:Sg:= { bi:=⟨[(0,[[.F]]),(1,[[.F]])],[]⟩,bo:=⟨[(0,[[.S]])],[]⟩,np:=2,ext:=false }
abbrev SQ:Sg:= { bi:=⟨[(0,[[.U 0]]),(1,[[.S]])],[]⟩,bo:=⟨[(0,[[.S]]),(1,[[.U 0]])],[]⟩,np:=2,io:=some 0 }
abbrev SP:Sg:= { bi:=⟨[(0,[[.U 0]]),(1,[[.S]])],[]⟩,bo:=⟨[(0,[[.S]]),(1,[[.U 0]])],[]⟩,np:=2,io:=some 0 }
abbrev SO:Sg:= { bi:=⟨[(0,[[.S]]),(1,[[.S]])],[(1000000,[.F, .F])]⟩,bo:=⟨[(0,[[.S]])],[(1000000,[.F, .F])]⟩,np:=2,no:=1 }
abbrev SN:Sg:= { bi:=⟨[(0,[[.S]]),(1,[[.F]])],[(1000000,[.F, .F])]⟩,bo:=⟨[(0,[[.S]])],[(1000000,[.F, .F])]⟩,np:=2,no:=1 }
abbrev SM:Sg:= { bi:=⟨[(0,[[.S]]),(1,[[.S]]),(2,[[.S]])],[]⟩,bo:=⟨[(0,[[.S]])],[]⟩,np:=3,ext:=false }
abbrev SL:Sg:= { bi:=⟨[(0,[[.S]]),(1,[[.S, .S, .S, .F]]),(2,[[.S]])],[(1000000,[.S, .S, .A 1])]⟩,bo:=⟨[(0,[[.S]])],[(1000000,[.S, .S, .A 1])]⟩,np:=3,no:=1 }
abbrev SK:Sg:= { bi:=⟨[(0,[[.S]])],[]⟩,bo:=⟨[(0,[[.S]])],[]⟩,np:=1,ext:=false }
abbrev SJ:Sg:= { bi:=⟨[(0,[[.S]])],[]⟩,bo:=⟨[(0,[[.S]])],[]⟩,np:=1,ext:=false }
abbrev SI:Sg:= { bi:=⟨[(0,[[.F]]),(1,[[.S]])],[]⟩,bo:=⟨[(0,[[.S]])],[]⟩,np:=2,ext:=false }
abbrev SH:Sg:= { bi:=⟨[(0,[[.F]]),(1,[[.S]])],[]⟩,bo:=⟨[(0,[[.S]])],[]⟩,np:=2,ext:=false }
abbrev SG:Sg:= { bi:=⟨[(0,[[.S, .S, .F, .F, .S, .F, .F]]),(1,[[.S]])],[]⟩,bo:=⟨[(0,[[.S]])],[]⟩,np:=2,ext:=false }
abbrev SF:Sg:= { bi:=⟨[(0,[[.F]])],[]⟩,bo:=⟨[(0,[[.U 7]])],[]⟩,np:=1,ext:=false }
abbrev SE:Sg:= { bi:=⟨[(0,[[.F]])],[]⟩,bo:=⟨[(0,[[.S]])],[]⟩,np:=1,ext:=false }
abbrev SC:Sg:= { bi:=⟨[(0,[[.S]])],[]⟩,bo:=⟨[(0,[[.S]])],[]⟩,np:=1,ext:=false }
abbrev SB:Sg:= { bi:=⟨[(0,[[.F]]),(1,[[.S]])],[]⟩,bo:=⟨[(0,[[.S]])],[]⟩,np:=2,ext:=false }
abbrev SA:Sg:= { bi:=⟨[(0,[[.S, .S, .F, .F, .S, .F, .F]])],[]⟩,bo:=⟨[(0,[[.S, .S, .U 4, .U 4, .S, .U 4, .U 4]])],[]⟩,np:=1,ext:=false }
abbrev Rz:Sg:= { bi:=⟨[(0,[[.F]])],[]⟩,bo:=⟨[(0,[[.U 7]])],[]⟩,np:=1,ext:=false }
abbrev Ry:Sg:= { bi:=⟨[(0,[[.S]])],[]⟩,bo:=⟨[(0,[[.S]])],[]⟩,np:=1,ext:=false }
abbrev Rx:Sg:= { bi:=⟨[(0,[[.F]])],[]⟩,bo:=⟨[(0,[[.S]])],[]⟩,np:=1,ext:=false }
abbrev Rw:Sg:= { bi:=⟨[(0,[[.F]]),(1,[[.S]])],[]⟩,bo:=⟨[(0,[[.S]])],[]⟩,np:=2,ext:=false }
abbrev Rv:Sg:= { bi:=⟨[(0,[[.S, .S, .F, .F, .S, .F, .F]]),(1,[[.S, .S, .F, .F, .S, .F, .F]])],[]⟩,bo:=⟨[(0,[[.S]])],[]⟩,np:=2,ext:=false }
abbrev Ru:Sg:= { bi:=⟨[(0,[[.S, .S, .S, .F]]),(1,[[.S]])],[]⟩,bo:=⟨[(0,[[.S]])],[]⟩,np:=2,ext:=false }
abbrev Rt:Sg:= { bi:=⟨[(0,[[.S, .S, .S, .F]]),(1,[[.S]])],[]⟩,bo:=⟨[(0,[[.S]])],[]⟩,np:=2,ext:=false }
abbrev Rs:Sg:= { bi:=⟨[(0,[[.F, .F]]),(1,[[.S]])],[]⟩,bo:=⟨[(0,[[.S]])],[]⟩,np:=2,ext:=false }
abbrev Rr:Sg:= { bi:=⟨[(0,[[.S, .S, .S, .F]]),(1,[[.S]])],[]⟩,bo:=⟨[(0,[[.S]])],[]⟩,np:=2,ext:=false }
abbrev Rq:Sg:= { bi:=⟨[(0,[[.S, .S, .S, .F]])],[]⟩,bo:=⟨[(0,[[.S, .S, .S, .U 4]])],[]⟩,np:=1,ext:=false }
abbrev Rp:Sg:= { bi:=⟨[(0,[[.S, .S, .S, .F]])],[]⟩,bo:=⟨[(0,[[.S, .S, .S, .U 4]])],[]⟩,np:=1,ext:=false }
abbrev Ro:Sg:= { bi:=⟨[(0,[[.S, .S, .S, .F]]),(1,[[.S, .S, .S, .F]])],[]⟩,bo:=⟨[(0,[[.S]])],[]⟩,np:=2,ext:=false }
abbrev Rn:Sg:= { bi:=⟨[(0,[[.S, .S, .S, .F]]),(1,[[.S, .S, .S, .F]])],[]⟩,bo:=⟨[(0,[[.S]])],[]⟩,np:=2,ext:=false }
abbrev Rm:Sg:= { bi:=⟨[(0,[[.U 0]]),(1,[[.S]])],[]⟩,bo:=⟨[(0,[[.S]]),(1,[[.U 0]])],[]⟩,np:=2,io:=some 0 }
abbrev Rl:Sg:= { bi:=⟨[(0,[[.F]]),(1,[[.S]])],[(1000000,[.S])]⟩,bo:=⟨[(0,[[.S]])],[(1000000,[.S])]⟩,np:=2,ext:=false,no:=1 }
abbrev Rk:Sg:= { bi:=⟨[(0,[[.S, .S, .S, .F]]),(1,[[.S]])],[(1000000,[.S])]⟩,bo:=⟨[(0,[[.S]])],[(1000000,[.S])]⟩,np:=2,ext:=false,no:=1 }
abbrev Rj:Sg:= { bi:=⟨[(0,[[.S]]),(1,[[.F]]),(2,[[.S, .S, .S, .S]])],[(1000000,[.F, .F])]⟩,bo:=⟨[(0,[[.S]])],[(1000000,[.F, .F])]⟩,np:=3,no:=1 }
abbrev Ri:Sg:= { bi:=⟨[(0,[[.F]])],[]⟩,bo:=⟨[(0,[[.U 1],[.S]])],[]⟩,np:=1,ext:=false }
abbrev Rh:Sg:= { bi:=⟨[(0,[[.F]]),(1,[[.S]])],[]⟩,bo:=⟨[(0,[[.S]])],[]⟩,np:=2,ext:=false }
abbrev Rg:Sg:= { bi:=⟨[(0,[[.S]]),(1,[[.S]]),(2,[[.S]]),(3,[[.S]])],[]⟩,bo:=⟨[(0,[[.S]])],[]⟩,np:=4,ext:=false }
abbrev Rf:Sg:= { bi:=⟨[(0,[[.S]])],[]⟩,bo:=⟨[(0,[[.S]])],[]⟩,np:=1,ext:=false }
abbrev Re:Sg:= { bi:=⟨[(0,[[.S]]),(1,[[.S]]),(2,[[.S]])],[]⟩,bo:=⟨[(0,[[.S]])],[]⟩,np:=3,ext:=false }
abbrev Rc:Sg:= { bi:=⟨[(0,[[.F]]),(1,[[.S]])],[]⟩,bo:=⟨[(0,[[.S]])],[]⟩,np:=2,ext:=false }
abbrev Rb:Sg:= { bi:=⟨[(0,[[.F, .F]])],[]⟩,bo:=⟨[(0,[[.U 4, .U 4]])],[]⟩,np:=1,ext:=false }
abbrev Ra:Sg:= { bi:=⟨[(0,[[.S, .S, .F, .F, .S, .F, .F]])],[]⟩,bo:=⟨[(0,[[.S]])],[]⟩,np:=1,ext:=false }
abbrev RZ:Sg:= { bi:=⟨[(0,[[.F, .F]])],[]⟩,bo:=⟨[(0,[[.U 4, .U 4]])],[]⟩,np:=1,ext:=false }
abbrev RY:Sg:= { bi:=⟨[(0,[[.S]])],[]⟩,bo:=⟨[(0,[[.S]])],[]⟩,np:=1,ext:=false }
abbrev RX:Sg:= { bi:=⟨[(0,[[.S]])],[]⟩,bo:=⟨[(0,[[.S]])],[]⟩,np:=1,ext:=false }
abbrev RU:Sg:= { bi:=⟨[(0,[[.S, .S, .F, .F, .S, .F, .F]])],[]⟩,bo:=⟨[(0,[[.S]])],[]⟩,np:=1,ext:=false }
abbrev RT:Sg:= { bi:=⟨[(0,[[.F]]),(1,[[.S]])],[(1000000,[.S])]⟩,bo:=⟨[(0,[[.S]])],[(1000000,[.S])]⟩,np:=2,ext:=false,no:=1 }
abbrev RS:Sg:= { bi:=⟨[(0,[[.S, .S, .F, .F, .S, .F, .F]]),(1,[[.S]])],[(1000000,[.S])]⟩,bo:=⟨[(0,[[.S]])],[(1000000,[.S])]⟩,np:=2,ext:=false,no:=1 }
abbrev RR:Sg:= { bi:=⟨[(0,[[.F]]),(1,[[.S]])],[]⟩,bo:=⟨[(0,[[.S]])],[]⟩,np:=2,ext:=false }
abbrev RQ:Sg:= { bi:=⟨[(0,[[.F, .F]]),(1,[[.S]])],[]⟩,bo:=⟨[(0,[[.S]])],[]⟩,np:=2,ext:=false }
abbrev RO:Sg:= { bi:=⟨[(0,[[.F, .F]]),(1,[[.S, .S, .S, .F]]),(2,[[.S]])],[]⟩,bo:=⟨[(0,[[.S]])],[]⟩,np:=3,ext:=false }
abbrev RN:Sg:= { bi:=⟨[(0,[[.S, .S, .S, .F]])],[]⟩,bo:=⟨[(0,[[.U 0],[.S]])],[]⟩,np:=1,ext:=false }
abbrev RM:Sg:= { bi:=⟨[(0,[[.S, .S, .S, .F]]),(1,[[.S]]),(2,[[.S]]),(3,[[.S]])],[]⟩,bo:=⟨[(0,[[.S]])],[]⟩,np:=4,ext:=false }
abbrev RL:Sg:= { bi:=⟨[(0,[[.S, .S, .S, .F]])],[]⟩,bo:=⟨[(0,[[.U 1]])],[]⟩,np:=1,ext:=false }
abbrev RK:Sg:= { bi:=⟨[(0,[[.F]])],[]⟩,bo:=⟨[(0,[[.U 4]])],[]⟩,np:=1,ext:=false }
abbrev RJ:Sg:= { bi:=⟨[(0,[[.F]]),(1,[[.F]])],[]⟩,bo:=⟨[(0,[[.S]])],[]⟩,np:=2,ext:=false }
abbrev RI:Sg:= { bi:=⟨[(0,[[.S]])],[]⟩,bo:=⟨[(0,[[.S]])],[]⟩,np:=1,ext:=false }
abbrev RH:Sg:= { bi:=⟨[(0,[[.S]])],[]⟩,bo:=⟨[(0,[[.S]])],[]⟩,np:=1,ext:=false }
abbrev RG:Sg:= { bi:=⟨[(0,[[.S]]),(1,[[.S]]),(2,[[.S]])],[(1000000,[.U 1, .S])]⟩,bo:=⟨[(0,[])],[(1000000,[.U 1, .S])]⟩,np:=3,no:=1 }
abbrev RF:Sg:= { bi:=⟨[(0,[[.S]]),(1,[[.S]]),(2,[[.S, .S, .S, .S]])],[(1000000,[.U 1, .S])]⟩,bo:=⟨[(0,[])],[(1000000,[.U 1, .S])]⟩,np:=3,no:=1 }
abbrev RE:Sg:= { bi:=⟨[(0,[[.F]]),(1,[[.S]])],[]⟩,bo:=⟨[(0,[[.S]])],[]⟩,np:=2,ext:=false }
abbrev RD:Sg:= { bi:=⟨[(0,[[.S, .S, .S, .F]])],[]⟩,bo:=⟨[(0,[[.S, .S, .S, .U 4]])],[]⟩,np:=1,ext:=false }
abbrev RC:Sg:= { bi:=⟨[(0,[[.F]])],[]⟩,bo:=⟨[(0,[[.U 4]])],[]⟩,np:=1,ext:=false }
abbrev RB:Sg:= { bi:=⟨[(0,[[.S, .S, .S, .F]])],[]⟩,bo:=⟨[(0,[[.S, .S, .S, .U 4]])],[]⟩,np:=1,ext:=false }
abbrev RA:Sg:= { bi:=⟨[(0,[[.S]])],[]⟩,bo:=⟨[(0,[[.S]])],[]⟩,np:=1,ext:=false }
abbrev Qz:Sg:= { bi:=⟨[(0,[[.S, .S, .S, .S]]),(1,[[.S]])],[]⟩,bo:=⟨[(0,[[.S]])],[]⟩,np:=2,ext:=false }
abbrev Qy:Sg:= { bi:=⟨[(0,[[.S, .S, .S, .S]])],[]⟩,bo:=⟨[(0,[[.S],[.S]])],[]⟩,np:=1,ext:=false }
abbrev Qx:Sg:= { bi:=⟨[(0,[[.U 0]]),(1,[[.S]]),(2,[[.S]])],[]⟩,bo:=⟨[(0,[[.S]]),(1,[[.U 0]])],[]⟩,np:=3,io:=some 0 }
abbrev Qw:Sg:= { bi:=⟨[(0,[[.S, .S, .S, .F]]),(1,[[.S]])],[]⟩,bo:=⟨[(0,[[.S]])],[]⟩,np:=2,ext:=false }
abbrev Qv:Sg:= { bi:=⟨[(0,[[.S, .S, .S, .S]])],[]⟩,bo:=⟨[(0,[[.S, .S, .S, .S]])],[]⟩,np:=1,ext:=false }
abbrev Qu:Sg:= { bi:=⟨[(0,[[.S, .S, .S, .S]]),(1,[[.S, .S, .S, .S]])],[]⟩,bo:=⟨[(0,[[.S]])],[]⟩,np:=2,ext:=false }
abbrev Qt:Sg:= { bi:=⟨[(0,[[.S]])],[]⟩,bo:=⟨[(0,[[.S]])],[]⟩,np:=1,ext:=false }
abbrev Qs:Sg:= { bi:=⟨[(0,[[.S]])],[]⟩,bo:=⟨[(0,[[.S]])],[]⟩,np:=1,ext:=false }
abbrev Qr:Sg:= { bi:=⟨[(0,[[.S, .S, .S, .S]])],[]⟩,bo:=⟨[(0,[[.S]])],[]⟩,np:=1,ext:=false }
def Sgs:FuncId→List Sg
  | 9=> [sg9]
  | 31=> [sg31]
  | 33=> [sg33]
  | 36=> [sg36]
  | 44=> [sg44]
  | 45=> [sg45]
  | 57=> [sg57]
  | 58=> [sg58]
  | 59=> [sg59]
  | 60=> [sg60]
  | 61=> [sg61]
  | 62=> [sg62]
  | 63=> [sg63]
  | 88=> [sg88]
  | 100=> [SY]
  | 101=> [SX]
  | 102=> [SW]
  | 107=> [SV]
  | 108=> [SU]
  | 113=> [ST]
  | 114=> [SR]
  | 115=> [SQ]
  | 116=> [SP]
  | 128=> [SO]
  | 129=> [SN]
  | 130=> [SM]
  | 131=> [SL]
  | 134=> [SK]
  | 138=> [SJ]
  | 150=> [SI]
  | 151=> [SH]
  | 152=> [SG]
  | 153=> [SF]
  | 154=> [SE]
  | 155=> [SC]
  | 156=> [SB]
  | 157=> [SA]
  | 158=> [Rz]
  | 159=> [Ry]
  | 160=> [Rx]
  | 161=> [Rw]
  | 162=> [Rv]
  | 191=> [Ru]
  | 192=> [Rt]
  | 193=> [Rs]
  | 194=> [Rr]
  | 195=> [Rq]
  | 196=> [Rp]
  | 197=> [Ro]
  | 198=> [Rn]
  | 199=> [Rm]
  | 212=> [Rl]
  | 213=> [Rk]
  | 214=> [Rj]
  | 215=> [Ri]
  | 216=> [Rh]
  | 217=> [Rg]
  | 220=> [Rf]
  | 230=> [Re]
  | 233=> [Rc]
  | 234=> [Rb]
  | 235=> [Ra]
  | 236=> [RZ]
  | 237=> [RY]
  | 238=> [RX]
  | 239=> [RU]
  | 240=> [RT]
  | 241=> [RS]
  | 256=> [RR]
  | 257=> [RQ]
  | 258=> [RO]
  | 259=> [RN]
  | 260=> [RM]
  | 261=> [RL]
  | 262=> [RK]
  | 263=> [RJ]
  | 268=> [RI]
  | 271=> [RH]
  | 272=> [RG]
  | 273=> [RF]
  | 274=> [RE]
  | 281=> [RD]
  | 282=> [RC]
  | 283=> [RB]
  | 286=> [RA]
  | 288=> [Qz]
  | 289=> [Qy]
  | 290=> [Qx]
  | 291=> [Qw]
  | 292=> [Qv]
  | 293=> [Qu]
  | 298=> [Qt]
  | 299=> [Qs]
  | 301=> [Qr]
  | _=> []
end Go.Own
