/- What is told of the functions: shapes and kinds. No conditions. -/
import Derived.Test.YtjfgchodolnmcaaProg
import Derived.KernelRfl
import Derived.Test.YtjfgchodolnmcaaOwn3
set_option linter.unusedVariables false
set_option linter.unusedSimpArgs false
set_option linter.unnecessarySimpa false
namespace Go.Own
open Go Go.Proofs
def τ:TypeId→Option TI
  | 3=>some { size:=1,bytes:=8,zero:=[.int .i64 0],agg:=false,kind:= .int .i64 }
  | 4=>some { size:=1,bytes:=1,zero:=[.bool false],agg:=false,kind:= .bool }
  | 5=>some { size:=1,bytes:=1,zero:=[.int .u8 0],agg:=false,kind:= .int .u8 }
  | 9=>some { size:=1,bytes:=16,zero:=[.str []],agg:=false,kind:= .str }
  | 48=>some { size:=1,bytes:=24,zero:=[.sl []],agg:=false,kind:= .sl 5 }
  | 64=>some { size:=1,bytes:=24,zero:=[.sl []],agg:=false,kind:= .sl 84 }
  | 65=>some { size:=1,bytes:=24,zero:=[.sl []],agg:=false,kind:= .sl 90 }
  | 67=>some { size:=2,bytes:=48,zero:=[.sl [], .sl []],agg:=true,kind:= .struct [(0,1,false),(1,1,false)] }
  | 82=>some { size:=1,bytes:=24,zero:=[.sl []],agg:=false,kind:= .sl 153 }
  | 84=>some { size:=4,bytes:=56,zero:=[.str [], .int .i64 0, .int .i64 0, .sl []],agg:=true,kind:= .struct [(0,1,false),(1,1,false),(2,1,false),(3,1,false)] }
  | 90=>some { size:=4,bytes:=56,zero:=[.int .i64 0, .int .i64 0, .str [], .sl []],agg:=true,kind:= .struct [(0,1,false),(1,1,false),(2,1,false),(3,1,false)] }
  | 153=>some { size:=4,bytes:=40,zero:=[.int .i64 0, .int .i64 0, .str [], .int .i64 0],agg:=true,kind:= .struct [(0,1,false),(1,1,false),(2,1,false),(3,1,false)] }
  | 174=>some { size:=1,bytes:=24,zero:=[.sl []],agg:=false,kind:= .sl 3 }
  | 176=>some { size:=3,bytes:=40,zero:=[.int .i64 0, .int .i64 0, .sl []],agg:=true,kind:= .struct [(0,1,false),(1,1,false),(2,1,false)] }
  | 187=>some { size:=3,bytes:=40,zero:=[.sl [], .int .i64 0, .bool false],agg:=true,kind:= .struct [(0,1,false),(1,1,false),(2,1,false)] }
  | 192=>some { size:=3,bytes:=40,zero:=[.sl [], .int .i64 0, .bool false],agg:=true,kind:= .struct [(0,1,false),(1,1,false),(2,1,false)] }
  | 245=>some { size:=1,bytes:=8,zero:=[.int .u64 0],agg:=false,kind:= .int .u64 }
  | 306=>some { size:=2,bytes:=32,zero:=[.sl [], .bool false],agg:=true,kind:= .struct [(0,1,false),(1,1,false)] }
  | _=>none
set_option maxRecDepth 100000 in
theorem KS:bG Try.prog τ:=by
  intro t i h
  unfold τ at h
  split at h<;>(try cases h)
  · exact⟨_,_,_,rfl,rfl,rfl,rfl,rfl,rfl,rfl,by decide,rfl,rfl⟩
  · exact⟨_,_,_,rfl,rfl,rfl,rfl,rfl,rfl,rfl,by decide,rfl,rfl⟩
  · exact⟨_,_,_,rfl,rfl,rfl,rfl,rfl,rfl,rfl,by decide,rfl,rfl⟩
  · exact⟨_,_,_,rfl,rfl,rfl,rfl,rfl,rfl,rfl,by decide,rfl,rfl⟩
  · exact⟨_,_,_,rfl,rfl,rfl,rfl,rfl,rfl,rfl,by decide,rfl,rfl⟩
  · exact⟨_,_,_,rfl,rfl,rfl,rfl,rfl,rfl,rfl,by decide,rfl,rfl⟩
  · exact⟨_,_,_,rfl,rfl,rfl,rfl,rfl,rfl,rfl,by decide,rfl,rfl⟩
  · refine⟨_,_,_,rfl,rfl,rfl,rfl,rfl,rfl,rfl,by decide,rfl,_,rfl,rfl,fun j f hf=> ?_⟩
    match j with
    | 0=>simp at hf; subst hf; exact⟨_,_,rfl,rfl,rfl,rfl,by decide,rfl,rfl⟩
    | 1=>simp at hf; subst hf; exact⟨_,_,rfl,rfl,rfl,rfl,by decide,rfl,rfl⟩
    | j+2=>simp at hf
  · exact⟨_,_,_,rfl,rfl,rfl,rfl,rfl,rfl,rfl,by decide,rfl,rfl⟩
  · refine⟨_,_,_,rfl,rfl,rfl,rfl,rfl,rfl,rfl,by decide,rfl,_,rfl,rfl,fun j f hf=> ?_⟩
    match j with
    | 0=>simp at hf; subst hf; exact⟨_,_,rfl,rfl,rfl,rfl,by decide,rfl,rfl⟩
    | 1=>simp at hf; subst hf; exact⟨_,_,rfl,rfl,rfl,rfl,by decide,rfl,rfl⟩
    | 2=>simp at hf; subst hf; exact⟨_,_,rfl,rfl,rfl,rfl,by decide,rfl,rfl⟩
    | 3=>simp at hf; subst hf; exact⟨_,_,rfl,rfl,rfl,rfl,by decide,rfl,rfl⟩
    | j+4=>simp at hf
  · refine⟨_,_,_,rfl,rfl,rfl,rfl,rfl,rfl,rfl,by decide,rfl,_,rfl,rfl,fun j f hf=> ?_⟩
    match j with
    | 0=>simp at hf; subst hf; exact⟨_,_,rfl,rfl,rfl,rfl,by decide,rfl,rfl⟩
    | 1=>simp at hf; subst hf; exact⟨_,_,rfl,rfl,rfl,rfl,by decide,rfl,rfl⟩
    | 2=>simp at hf; subst hf; exact⟨_,_,rfl,rfl,rfl,rfl,by decide,rfl,rfl⟩
    | 3=>simp at hf; subst hf; exact⟨_,_,rfl,rfl,rfl,rfl,by decide,rfl,rfl⟩
    | j+4=>simp at hf
  · refine⟨_,_,_,rfl,rfl,rfl,rfl,rfl,rfl,rfl,by decide,rfl,_,rfl,rfl,fun j f hf=> ?_⟩
    match j with
    | 0=>simp at hf; subst hf; exact⟨_,_,rfl,rfl,rfl,rfl,by decide,rfl,rfl⟩
    | 1=>simp at hf; subst hf; exact⟨_,_,rfl,rfl,rfl,rfl,by decide,rfl,rfl⟩
    | 2=>simp at hf; subst hf; exact⟨_,_,rfl,rfl,rfl,rfl,by decide,rfl,rfl⟩
    | 3=>simp at hf; subst hf; exact⟨_,_,rfl,rfl,rfl,rfl,by decide,rfl,rfl⟩
    | j+4=>simp at hf
  · exact⟨_,_,_,rfl,rfl,rfl,rfl,rfl,rfl,rfl,by decide,rfl,rfl⟩
  · refine⟨_,_,_,rfl,rfl,rfl,rfl,rfl,rfl,rfl,by decide,rfl,_,rfl,rfl,fun j f hf=> ?_⟩
    match j with
    | 0=>simp at hf; subst hf; exact⟨_,_,rfl,rfl,rfl,rfl,by decide,rfl,rfl⟩
    | 1=>simp at hf; subst hf; exact⟨_,_,rfl,rfl,rfl,rfl,by decide,rfl,rfl⟩
    | 2=>simp at hf; subst hf; exact⟨_,_,rfl,rfl,rfl,rfl,by decide,rfl,rfl⟩
    | j+3=>simp at hf
  · refine⟨_,_,_,rfl,rfl,rfl,rfl,rfl,rfl,rfl,by decide,rfl,_,rfl,rfl,fun j f hf=> ?_⟩
    match j with
    | 0=>simp at hf; subst hf; exact⟨_,_,rfl,rfl,rfl,rfl,by decide,rfl,rfl⟩
    | 1=>simp at hf; subst hf; exact⟨_,_,rfl,rfl,rfl,rfl,by decide,rfl,rfl⟩
    | 2=>simp at hf; subst hf; exact⟨_,_,rfl,rfl,rfl,rfl,by decide,rfl,rfl⟩
    | j+3=>simp at hf
  · refine⟨_,_,_,rfl,rfl,rfl,rfl,rfl,rfl,rfl,by decide,rfl,_,rfl,rfl,fun j f hf=> ?_⟩
    match j with
    | 0=>simp at hf; subst hf; exact⟨_,_,rfl,rfl,rfl,rfl,by decide,rfl,rfl⟩
    | 1=>simp at hf; subst hf; exact⟨_,_,rfl,rfl,rfl,rfl,by decide,rfl,rfl⟩
    | 2=>simp at hf; subst hf; exact⟨_,_,rfl,rfl,rfl,rfl,by decide,rfl,rfl⟩
    | j+3=>simp at hf
  · exact⟨_,_,_,rfl,rfl,rfl,rfl,rfl,rfl,rfl,by decide,rfl,rfl⟩
  · refine⟨_,_,_,rfl,rfl,rfl,rfl,rfl,rfl,rfl,by decide,rfl,_,rfl,rfl,fun j f hf=> ?_⟩
    match j with
    | 0=>simp at hf; subst hf; exact⟨_,_,rfl,rfl,rfl,rfl,by decide,rfl,rfl⟩
    | 1=>simp at hf; subst hf; exact⟨_,_,rfl,rfl,rfl,rfl,by decide,rfl,rfl⟩
    | j+2=>simp at hf
abbrev vi:V:= .one (.c (.int .i64 0))
abbrev vy:V:= .one (.c (.int .u8 0))
abbrev vb:V:= .one (.c (.bool false))
abbrev vl:V:= .one (.c (.sl []))
abbrev vs:V:= .one (.c (.str []))
abbrev vj:V:= .one .junk
abbrev tl0:List T:=[.str [], .int .i64 0, .int .i64 0, .sl []]
abbrev tl1:List T:=[.int .i64 0, .int .i64 0, .str [], .sl []]
abbrev tl2:List T:=[.int .i64 0, .int .i64 0, .str [], .int .i64 0]
abbrev tl4:List T:=[.sl [], .int .i64 0, .bool false]
abbrev tl5:List T:=[.int .i64 0, .int .i64 0, .sl []]
abbrev tl6:List T:=[.int .i64 0, .sl []]
abbrev tl7:List T:=[.sl [], .bool false]
def F8:FA:= { n:=93,sh:=[vl,vj,vb, .one (.ptr 3 0),vb,vl, .one (.ptr 6 0),vb,vi,vi,vi, .one (.ptr 11 0),vb,vl,vi,vb, .tup [.ag [.sl [], .sl []], .c (.bool false)],vl,vl, .tup [.ag [.sl [], .sl []], .c (.bool false)], .one (.ag [.sl [], .sl []]),vb,vl,vl, .tup [.ag [.sl [], .sl []], .c (.bool false)],vl, .tup [.ag [.sl [], .sl []], .c (.bool false)], .one (.ag [.sl [], .sl []]),vb, .one (.ag [.sl [], .sl []]), .one (.ag [.sl [], .sl []]),vb,vb,vb,vb,vb,vb,vb,vl,vl,vl,vb,vb, .one (.al (.s 5 0 0) []),vi,vi,vi,vb,vb, .one (.ag [.sl [], .sl []]), .one (.ag [.sl [], .sl []]),vb,vb,vb,vb,vb,vb,vb,vb, .one (.ag [.sl [], .sl []]),vi,vi, .one (.ag [.sl [], .sl []]),vi,vi,vi,vb,vi,vi,vb, .tup [.ag [.sl [], .sl []], .c (.bool false)],vl,vl, .tup [.ag [.sl [], .sl []], .c (.bool false)], .one (.ag [.sl [], .sl []]),vb, .one (.ag [.sl [], .sl []]), .one (.ag [.sl [], .sl []]),vb,vb,vb,vb,vb,vb,vb, .one (.ag [.sl [], .sl []]),vi,vi,vi,vb,vi,vi,vb],obs:=[(3,[.sl [], .sl []]),(6,[.sl [], .sl []]),(11,[.sl [], .sl []])],al:=[43],tk:=[16,24,33,44,46,48,54,55,60,63,67,70,71,76,77,80,81,82,85,86,90,91],keep:=[(0,[0]),(1,[0,15]),(2,[2]),(3,[0,3,4]),(4,[0,3,4,5]),(5,[0,3,4,5,6,7]),(6,[0,3,4,5,6,7,37]),(7,[2]),(8,[0,3,4,5,6,7,42]),(9,[2]),(10,[0,3,4,5,6,7,8]),(11,[0,3,4,6,7,8]),(12,[0,3,4,6,58]),(13,[2]),(14,[0,3,4,6,9]),(15,[0,3,4,6,9]),(16,[0,3,4,6,9,10]),(17,[0,3,4,6,9,10]),(18,[0,3,4,6,9,10,66]),(19,[2]),(20,[0,3,4,6,9,69]),(21,[2]),(22,[3,4,6,9,11,12]),(23,[6,9,84]),(24,[2]),(25,[6,9,10]),(26,[9,10]),(27,[9,10,89]),(28,[2]),(29,[92]),(30,[2]),(31,[2])],ioa:=[43],mks:=[(15,[(0,115),(1,116)])] }
def F32:FA:= { n:=94,sh:=[.one (.ag [.sl [], .sl []]), .one (.ptr 1 0),vl,vl,vi, .one (.ptr 5 0),vi, .one (.ptr 7 0),vi, .one (.ag [.sl [], .sl []]),vb,vb,vb, .one (.ag [.sl [], .sl []]),vb,vb,vb,vl,vl, .one (.ptr 1 0),vl,vi,vl,vi, .one (.ptr 1 0),vl,vi,vb,vi,vi, .one (.ptr 1 0),vl,vi, .one (.cp tl0), .one (.ag tl0),vl, .one (.ptr 5 0),vs,vl, .one (.ptr 5 1),vi,vl, .one (.ptr 5 2),vi,vl, .one (.ptr 5 3),vl,vi,vl,vi, .one (.ptr 5 3),vl,vi,vb,vi,vi, .one (.ptr 5 3),vl,vi, .one (.cp tl2), .one (.ag tl2),vl, .one (.ptr 7 0),vi,vl, .one (.ptr 7 1),vi,vl, .one (.ptr 7 2),vs,vl, .one (.ptr 7 3),vi,vl,vl, .one (.ptr 1 1),vl,vi,vl,vi, .one (.ptr 1 1),vl,vi,vb,vi,vi,vl, .one (.ptr 1 1),vl,vi, .one (.cp tl1), .one (.ag tl1),vl,vl],obs:=[(1,[.sl [], .sl []]),(5,tl0),(7,tl2)],tk:=[12,28,35,37,40,43,54,61,63,66,69,72,74,84,86,93],dp:=[17,18],keep:=[(0,[1]),(1,[1,16]),(2,[2]),(3,[1,3]),(4,[1,3,4]),(5,[1,3,4,27]),(6,[1,3,4]),(7,[1,3,4,5]),(8,[1,3,4,5]),(9,[1,3,4,5,6]),(10,[1,3,4,5,6,53]),(11,[1,3,4,5,6]),(12,[1,3,4,5,6,7]),(13,[1,3,4,5,6]),(14,[1,3]),(15,[1,3,8]),(16,[1,3,8,83]),(17,[1,3,8]),(18,[1,3,8]),(19,[2])] }
def F34:FA:= { n:=82,sh:=[.one (.ag [.sl [], .sl []]), .one (.ptr 1 0),vl,vl,vj, .one (.ptr 5 0),vj, .one (.ptr 7 0),vj, .one (.ptr 9 0), .one (.ag [.sl [], .sl []]),vb,vb,vb, .one (.ag [.sl [], .sl []]),vb,vb,vb, .one (.ptr 1 0),vl,vi,vl, .one (.ptr 1 0),vl,vi,vi,vb, .one (.cp tl0), .one (.ag tl0),vl, .one (.ptr 5 0),vs,vl, .one (.ptr 5 1),vi,vl, .one (.ptr 5 2),vi,vl, .one (.ptr 5 3),vl,vi,vl, .one (.ptr 5 3),vl,vi,vi,vb, .one (.cp tl2), .one (.ag tl2),vl, .one (.ptr 7 0),vi,vl, .one (.ptr 7 1),vi,vl, .one (.ptr 7 2),vs,vl, .one (.ptr 7 3),vi,vl,vi,vi,vl, .one (.ptr 1 1),vl,vi,vl, .one (.ptr 1 1),vl,vi,vi,vb, .one (.cp tl1), .one (.ag tl1),vl, .one (.ag tl1),vl,vi,vl],obs:=[(1,[.sl [], .sl []]),(5,tl0),(7,tl2),(9,tl1)],tk:=[13,23,25,29,31,34,37,44,46,50,52,55,58,61,65,71,73,77,78,81],keep:=[(0,[1]),(1,[1,17]),(2,[2]),(3,[1,3]),(4,[1,3,23,24,25]),(5,[1,3,23,24,25,26]),(6,[1,3,5,23,24,25]),(7,[1,3,5,23,24,25]),(8,[1,3,23,24,25,44,45,46]),(9,[1,3,23,24,25,44,45,46,47]),(10,[1,3,7,23,24,25,44,45,46]),(11,[1,3,23,24,25,44,45,46]),(12,[1,3,23,24,25,44,45,46]),(13,[1,3,23,24,25]),(14,[1,3]),(15,[3,71,72,73]),(16,[3,71,72,73,74]),(17,[3,9,71,72,73]),(18,[3,71,72,73]),(19,[3,71,72,73]),(20,[2])] }
def F35:FA:= { n:=26,sh:=[vl,vl,vj,vj,vb,vi,vl,vi,vl,vi,vb,vi,vl,vi,vb,vi,vi,vl,vi, .one (.cp [.int .u8 0]),vy,vl,vi, .one (.cp [.int .u8 0]),vy,vb],obs:=[],tk:=[15],keep:=[(0,[0,1]),(1,[0,1,10]),(2,[4]),(3,[0,1,5]),(4,[0,1,5,14]),(5,[0,1,5]),(6,[0,1,5,25]),(7,[4]),(8,[4])] }
def F36:FA:= { n:=17,sh:=[.one (.ag [.sl [], .sl []]), .one (.ag [.sl [], .sl []]), .one (.ptr 2 0), .one (.ptr 3 0),vb, .one (.ptr 2 0),vl, .one (.ptr 3 0),vl,vb,vb, .one (.ptr 2 1),vl, .one (.ptr 3 1),vl,vb,vb],obs:=[(2,[.sl [], .sl []]),(3,[.sl [], .sl []])],tk:=[6,8,12,14],keep:=[(0,[2,3]),(1,[2,3,10]),(2,[4]),(3,[16]),(4,[4]),(5,[4])] }
def F38:FA:= { n:=20,sh:=[vl,vi,vj,vj,vi,vi,vi,vl,vi,vb,vi,vi, .one (.al (.s 0 0 0) []),vi,vi,vy, .one (.pp (.s 0 0 0) [] 0 0),vi,vi,vi],obs:=[],al:=[12],tk:=[10,17,19],keep:=[(0,[0,1]),(1,[0,1,5]),(2,[0,1,5,9]),(3,[0,1,5]),(4,[0,1,5]),(5,[0,1,5]),(6,[0,4])],io:=some 0 }
def F44:FA:= { n:=38,sh:=[.one (.ag [.sl [], .sl []]), .one (.ptr 1 0),vb,vi, .one (.ptr 1 0),vl,vi,vb,vb, .one (.ptr 1 1),vl,vi,vb,vb, .one (.ptr 1 0),vl,vi,vi,vb,vi, .one (.ptr 1 0),vl,vi, .one (.cp tl0), .one (.cp tl0),vs,vi,vi,vb,vb, .one (.ptr 1 0),vl,vi, .one (.cp tl0),vb,vb,vb,vi],obs:=[(1,[.sl [], .sl []])],tk:=[8,17,29,32],keep:=[(0,[1]),(1,[1,13]),(2,[2]),(3,[1,16,17]),(4,[1,16,17,18]),(5,[1,3,16,17]),(6,[1,16,17,36]),(7,[2]),(8,[1,16,17]),(9,[2])] }
def F45:FA:= { n:=14,sh:=[.one (.ag tl1),vi, .one (.ptr 2 0),vj,vb, .one (.ptr 5 0),vi, .one (.ag tl5),vi,vb,vb, .one (.ag tl1),vb,vb],obs:=[(2,tl1),(5,tl5)],tk:=[8,10,11],keep:=[(0,[1,2]),(1,[1,2,5]),(2,[4])] }
def F53:FA:= { n:=101,sh:=[vl,vj, .one (.ptr 2 0),vb, .one (.ptr 12 0), .one (.ptr 5 0),vi,vi,vi,vi,vl, .one (.ag tl4), .one (.ptr 12 0), .one (.ag [.sl [], .sl []]), .one (.ptr 12 0),vi,vi,vi,vb,vb,vi,vb,vb,vb, .one (.ptr 12 0), .one (.ptr 12 0), .one (.ptr 12 2),vb,vb,vb,vi,vi, .one (.ptr 5 0),vl, .one (.ptr 12 0), .one (.ag tl0),vl,vl, .one (.ptr 5 0), .one (.ptr 12 0),vi,vi,vi,vb,vb,vi,vb,vb,vb, .one (.ptr 12 0), .one (.ptr 12 0), .one (.ptr 12 2),vb,vb,vb,vi,vi, .one (.ptr 5 1),vl, .one (.ptr 12 0), .one (.ag tl1),vl,vl, .one (.ptr 5 1), .one (.ptr 12 0), .one (.ptr 12 0), .one (.ptr 12 2),vb,vb, .one (.ptr 12 0), .one (.ptr 12 0), .one (.ptr 12 1),vi,vl,vi,vb,vb,vb,vi, .one (.ptr 5 0),vl,vi,vb,vb,vb,vi, .one (.ptr 5 1),vl,vi,vb,vb,vb, .one (.ag [.sl [], .sl []]),vl,vs,vl,vs,vb,vb, .one (.ag [.sl [], .sl []]), .one (.ag [.sl [], .sl []])],obs:=[(2,[.sl [], .sl []]),(5,[.sl [], .sl []]),(12,tl4)],tk:=[19,23,30,33,44,48,55,58,67,68,69,72,77,78,84,85,91,95,100],dp:=[36,37,61,62],keep:=[(0,[0,2]),(1,[0,2,4]),(2,[0,2,4,5]),(3,[0,2,4,5,6]),(4,[0,2,4,5,6,7]),(5,[0,2,4,5,6,7,29]),(6,[0,2,4,5,6,7]),(7,[0,2,4,5,6,7]),(8,[0,2,4,5,6,8]),(9,[0,2,4,5,6,8,9]),(10,[0,2,4,5,6,8,9,54]),(11,[0,2,4,5,6,8,9]),(12,[0,2,4,5,6,8,9]),(13,[2,5,98]),(14,[2,3]),(15,[2,3])] }
def F54:FA:= { n:=22,sh:=[vl,vj,vl,vl,vi,vl,vi,vl,vi,vl,vi,vb,vi,vi, .one (.al (.s 3 0 0) []),vi,vl,vi, .one (.cp [.int .u8 0]),vy, .one (.pp (.s 3 0 0) [] 0 0),vl],obs:=[],al:=[14],tk:=[12,21],keep:=[(0,[0]),(1,[0,3]),(2,[0,3,4]),(3,[0,3,4,11]),(4,[0,3,4]),(5,[0,3,4]),(6,[2])] }
def F55:FA:= { n:=51,sh:=[vl,vj, .one (.ptr 2 0),vb, .one (.ptr 4 0), .one (.ptr 5 0), .one (.ptr 6 0), .one (.ptr 7 0),vl,vl, .one (.ag tl4),vi,vi,vb, .one (.ag tl0), .one (.ptr 5 0),vl, .one (.ag tl0),vl,vl, .one (.ptr 5 0),vi,vi,vi,vb, .one (.ptr 4 2),vb, .one (.ag tl1), .one (.ptr 5 1),vl, .one (.ag tl1),vl,vl, .one (.ptr 5 1),vi, .one (.ptr 4 2),vb, .one (.ag [.sl [], .sl []]), .one (.ag [.sl [], .sl []]),vl,vl,vi,vb,vb,vl,vl,vb,vb,vb, .one (.ag [.sl [], .sl []]), .one (.ag [.sl [], .sl []])],obs:=[(2,[.sl [], .sl []]),(4,tl4),(5,[.sl [], .sl []]),(6,tl0),(7,tl1)],tk:=[12,16,17,23,29,30,36,43,44,45,50],dp:=[18,19,31,32],keep:=[(0,[0,2]),(1,[0,2,4]),(2,[0,2,4,5]),(3,[0,2,4,5,11,12]),(4,[0,2,4,5,11,12,13]),(5,[0,2,4,5,6,11,12]),(6,[0,2,4,5,11,12]),(7,[0,2,4,5,11,12]),(8,[0,2,4,5,22,23]),(9,[0,2,4,5,22,23,24]),(10,[0,2,4,5,22,23,26]),(11,[0,2,4,5,7,22,23]),(12,[0,2,4,5,22,23]),(13,[0,2,4,5,22,23]),(14,[0,2,5,36]),(15,[2,3]),(16,[0,2,5,8]),(17,[2,5,48]),(18,[2,3]),(19,[2,3])] }
def F56:FA:= { n:=18,sh:=[.one (.ag [.sl [], .sl []]),vi, .one (.ptr 2 0),vj,vi, .one (.ptr 2 0),vl,vi,vi,vi,vb, .one (.ptr 2 1),vl,vi,vi,vi,vb,vi],obs:=[(2,[.sl [], .sl []])],tk:=[6,7,12,13,17],keep:=[(0,[1,2]),(1,[1,2]),(2,[1,2,10]),(3,[4]),(4,[1]),(5,[1,16]),(6,[4]),(7,[4])] }
def F88:FA:= { n:=20,sh:=[vi,vj,vs,vs,vi,vb,vi,vb,vi,vi,vi,vy,vl,vs,vs,vs,vi,vi,vs,vs],obs:=[],tk:=[14,16,18],dp:=[12],keep:=[(0,[0]),(1,[0,5]),(2,[2]),(3,[0,3]),(4,[0,3,7]),(5,[0,3]),(6,[0,3]),(7,[2])] }
def F102:FA:= { n:=25,sh:=[.one (.ag [.sl [], .sl []]), .one (.ptr 1 0),vb,vi, .one (.ptr 1 0),vl,vi,vb,vb, .one (.ptr 1 1),vl,vi,vb,vb,vi, .one (.ptr 1 0),vl,vi,vb,vi,vi, .one (.ag [.sl [], .sl []]),vi,vb,vb],obs:=[(1,[.sl [], .sl []])],tk:=[8,19],keep:=[(0,[1]),(1,[1,13]),(2,[2]),(3,[1,3]),(4,[1,3,18]),(5,[1,3]),(6,[1,3,24]),(7,[2]),(8,[2])] }
def F103:FA:= { n:=18,sh:=[.one (.ag [.sl [], .sl []]), .one (.ptr 1 0),vb,vi,vi, .one (.ptr 1 1),vl,vi,vb,vi,vi, .one (.ptr 1 1),vl,vi, .one (.cp tl1), .one (.ag tl1),vb,vb],obs:=[(1,[.sl [], .sl []])],tk:=[9],keep:=[(0,[1]),(1,[1,3]),(2,[1,3,8]),(3,[1,3]),(4,[1,3,17]),(5,[2]),(6,[2])] }
def F104:FA:= { n:=37,sh:=[vl,vi,vj,vj,vl,vl,vi,vl,vl,vl,vi,vb,vi,vb,vi,vi,vi,vb,vi,vi,vi,vi,vb,vl,vi,vi,vi,vy,vl,vl,vi,vi,vl,vi,vy,vl,vl],obs:=[],tk:=[8,18,23,30,32,33],dp:=[7,9,28,29,35,36],keep:=[(0,[0,1]),(1,[1,5]),(2,[1,5,11]),(3,[1,5]),(4,[1,5,13]),(5,[1,5]),(6,[1,5,6]),(7,[1,5,6,17]),(8,[5,6]),(9,[5,6,22]),(10,[5,6]),(11,[5,6]),(12,[4])] }
def F105:FA:= { n:=11,sh:=[vl,vs,vj,vj,vl,vl,vs,vi,vl,vs,vl],obs:=[],tk:=[5,9],dp:=[10],keep:=[(0,[0,1]),(1,[4])] }
def F106:FA:= { n:=35,sh:=[vl, .one (.ag tl1),vj, .one (.ptr 3 0),vl,vi,vl, .one (.ptr 3 0),vi,vl, .one (.ptr 3 1),vi,vl, .one (.ptr 3 2),vs,vl, .one (.ptr 3 3),vl,vi,vl,vi, .one (.ptr 3 3),vl,vi,vb,vi,vi,vl, .one (.ptr 3 3),vl,vi, .one (.cp tl1), .one (.ag tl1),vl,vl],obs:=[(3,tl1)],tk:=[6,8,11,14,25,27,34],keep:=[(0,[0,3]),(1,[0,3]),(2,[0,3,5]),(3,[0,3,5,24]),(4,[0,3,5]),(5,[0,3,5]),(6,[4])] }
def F109:FA:= { n:=16,sh:=[.one (.ag [.sl [], .sl []]), .one (.ptr 1 0),vb,vj, .one (.ptr 4 0), .one (.ptr 1 1),vl,vi,vi,vb, .one (.cp tl1), .one (.ag tl1), .one (.ag tl1),vb,vb,vi],obs:=[(1,[.sl [], .sl []]),(4,tl1)],tk:=[6,8,12],keep:=[(0,[1]),(1,[6,7,8]),(2,[6,7,8,9]),(3,[4,6,7,8]),(4,[6,7,8,14]),(5,[2]),(6,[6,7,8]),(7,[2])] }
def F110:FA:= { n:=32,sh:=[vl,vi,vj,vj,vl,vi,vi,vi,vi,vi,vi,vi,vb,vi,vi,vi,vi,vb,vl,vi,vi,vi,vy,vl,vl,vi,vi,vl,vi,vy,vl,vl],obs:=[],tk:=[6,13,18,25,27,28],dp:=[23,24,30,31],keep:=[(0,[0,1]),(1,[0,1]),(2,[0,1,5]),(3,[0,1,5,12]),(4,[0,5]),(5,[0,5,17]),(6,[0,5]),(7,[0,5]),(8,[4])] }
def F111:FA:= { n:=11,sh:=[vl,vs,vj,vj,vl,vl,vs,vi,vl,vs,vl],obs:=[],tk:=[5,9],dp:=[10],keep:=[(0,[0,1]),(1,[4])] }
def F112:FA:= { n:=33,sh:=[vl, .one (.ag tl1),vj, .one (.ptr 3 0),vl,vj, .one (.ptr 6 0),vl, .one (.ptr 3 0),vi,vl, .one (.ptr 3 1),vi,vl, .one (.ptr 3 2),vs,vl, .one (.ptr 3 3),vl,vi,vl, .one (.ptr 3 3),vl,vi,vi,vb, .one (.cp tl1), .one (.ag tl1),vl, .one (.ag tl1),vl,vi,vl],obs:=[(3,tl1),(6,tl1)],tk:=[7,9,12,15,22,24,28,29,32],keep:=[(0,[0,3]),(1,[0,3]),(2,[0,22,23,24]),(3,[0,22,23,24,25]),(4,[0,6,22,23,24]),(5,[0,22,23,24]),(6,[0,22,23,24]),(7,[4])] }
def F113:FA:= { n:=27,sh:=[vl,vl,vj,vj,vb,vi,vl,vi,vl,vi,vb,vi,vl,vi,vb,vi,vi,vl,vi, .one (.cp tl0), .one (.ag tl0),vl,vi, .one (.cp tl0), .one (.ag tl0),vb,vb],obs:=[],tk:=[15],keep:=[(0,[0,1]),(1,[0,1,10]),(2,[4]),(3,[0,1,5]),(4,[0,1,5,14]),(5,[0,1,5]),(6,[0,1,5,26]),(7,[4]),(8,[4])] }
def F114:FA:= { n:=27,sh:=[vl,vl,vj,vj,vb,vi,vl,vi,vl,vi,vb,vi,vl,vi,vb,vi,vi,vl,vi, .one (.cp tl1), .one (.ag tl1),vl,vi, .one (.cp tl1), .one (.ag tl1),vb,vb],obs:=[],tk:=[15],keep:=[(0,[0,1]),(1,[0,1,10]),(2,[4]),(3,[0,1,5]),(4,[0,1,5,14]),(5,[0,1,5]),(6,[0,1,5,26]),(7,[4]),(8,[4])] }
def F115:FA:= { n:=42,sh:=[vl,vi,vj,vj,vi,vi,vi,vl,vi,vb,vi,vi, .one (.al (.s 0 0 0) []),vi,vi,vs, .one (.pp (.s 0 0 0) [] 0 0), .one (.pp (.s 0 0 0) [] 0 0),vi,vi, .one (.al (.s 0 0 0) []),vi,vi, .one (.pp (.s 0 0 0) [] 0 0), .one (.pp (.s 0 0 0) [] 0 1),vi,vi, .one (.al (.s 0 0 0) []),vi,vi, .one (.pp (.s 0 0 0) [] 0 0), .one (.pp (.s 0 0 0) [] 0 2),vi,vi, .one (.al (.s 0 0 0) []),vi, .one (.pp (.s 0 0 0) [] 0 0), .one (.pp (.s 0 0 0) [] 0 3), .one (.al (.s 0 0 0) [(0,0)]),vi,vi,vi],obs:=[],al:=[12,20,27,34,38],tk:=[10,18,25,32,39,41],keep:=[(0,[0,1]),(1,[0,1,5]),(2,[0,1,5,9]),(3,[0,1,5]),(4,[0,1,5]),(5,[0,1,5]),(6,[0,1,5]),(7,[0,1,5]),(8,[0,1,5]),(9,[0,1,5]),(10,[0,1,5]),(11,[0,4])],io:=some 0,ioa:=[38] }
def F116:FA:= { n:=42,sh:=[vl,vi,vj,vj,vi,vi,vi,vl,vi,vb,vi,vi, .one (.al (.s 0 0 0) []),vi,vi, .one (.pp (.s 0 0 0) [] 0 0), .one (.pp (.s 0 0 0) [] 0 0),vi,vi, .one (.al (.s 0 0 0) []),vi,vi, .one (.pp (.s 0 0 0) [] 0 0), .one (.pp (.s 0 0 0) [] 0 1),vi,vi, .one (.al (.s 0 0 0) []),vi,vi,vs, .one (.pp (.s 0 0 0) [] 0 0), .one (.pp (.s 0 0 0) [] 0 2),vi,vi, .one (.al (.s 0 0 0) []),vi, .one (.pp (.s 0 0 0) [] 0 0), .one (.pp (.s 0 0 0) [] 0 3), .one (.al (.s 0 0 0) [(0,0)]),vi,vi,vi],obs:=[],al:=[12,19,26,34,38],tk:=[10,17,24,32,39,41],keep:=[(0,[0,1]),(1,[0,1,5]),(2,[0,1,5,9]),(3,[0,1,5]),(4,[0,1,5]),(5,[0,1,5]),(6,[0,1,5]),(7,[0,1,5]),(8,[0,1,5]),(9,[0,1,5]),(10,[0,1,5]),(11,[0,4])],io:=some 0,ioa:=[38] }
def F128:FA:= { n:=11,sh:=[.one (.ptr 1000000 0),vs,vj, .one (.ptr 3 0),vi, .one (.ptr 1000000 0), .one (.ptr 1000000 0), .one (.ptr 1000000 0),vl, .one (.fn 213 [(3,0)]),vi],obs:=[(3,[.str []]),(1000000,[.sl [], .sl []])],tk:=[5],keep:=[(0,[0,3]),(1,[4])] }
def F129:FA:= { n:=65,sh:=[.one (.ptr 1000000 0), .one (.cp tl0),vj,vj,vb,vj, .one (.ptr 6 0),vl,vb, .one (.cp tl0), .one (.cp tl0), .one (.cp tl0),vs,vb,vb,vb, .one (.cp tl0), .one (.cp tl0), .one (.cp tl5),vi,vb,vb,vb,vb, .one (.cp tl0), .one (.cp tl0), .one (.cp tl6),vi, .one (.cp tl0), .one (.cp tl0), .one (.cp tl5),vi,vb,vb,vb,vb, .one (.cp tl0), .one (.cp tl0), .one (.cp [.sl []]),vl,vi,vb,vb,vb, .one (.cp tl0), .one (.cp tl0), .one (.cp [.sl []]),vl,vi,vi,vb, .one (.cp tl2), .one (.ag tl2), .one (.ptr 1000000 0), .one (.cp tl0), .one (.ag tl2),vb,vb,vi, .tup [.c (.sl []), .c (.bool false)], .one (.cp tl0), .tup [.c (.sl []), .c (.bool false)],vl,vb,vb],obs:=[(6,tl2),(1000000,[.sl [], .sl []])],tk:=[15,23,35,49,55,59,60,64],keep:=[(0,[0,1]),(1,[0,1,43]),(2,[4]),(3,[0,1,47,48,49]),(4,[0,1,47,48,49,50]),(5,[0,1,6,47,48,49]),(6,[0,1,47,48,49,57]),(7,[4]),(8,[0,1,47,48,49]),(9,[8]),(10,[4])] }
def F130:FA:= { n:=15,sh:=[vi,vi,vi,vj,vj,vj,vb,vi,vi,vb,vb,vi,vi,vb,vb],obs:=[],tk:=[8,10,11,12],keep:=[(0,[0,1,2]),(1,[6])] }
def F131:FA:= { n:=103,sh:=[.one (.ptr 1000000 0), .one (.ag tl1),vi,vj, .one (.ptr 4 0),vj,vb,vj, .one (.ptr 8 0), .one (.ptr 1000000 0), .one (.ptr 1000000 0), .one (.ptr 1000000 1),vi,vi, .one (.ptr 1000000 0), .one (.ptr 1000000 1),vi,vb,vb, .one (.ptr 1000000 0), .one (.ptr 1000000 0), .one (.ptr 1000000 1),vi,vb,vb, .one (.ptr 4 0),vi,vb, .one (.ptr 4 1),vi, .one (.ptr 1000000 0), .one (.ptr 1000000 0), .one (.ptr 1000000 0),vi,vi,vb,vb,vb, .one (.ptr 4 2),vs,vb,vb,vb, .one (.ptr 4 3),vl,vi,vb,vb,vb, .one (.ptr 4 1),vi,vb,vb, .one (.ptr 1000000 0), .one (.ptr 1000000 0), .one (.ptr 1000000 2),vl, .one (.ptr 4 1),vi,vb,vb,vb, .one (.ptr 1000000 0), .one (.ptr 1000000 0), .one (.ptr 1000000 0), .one (.ptr 1000000 2),vl, .one (.ptr 4 1),vi,vl,vl, .one (.ptr 1000000 0), .one (.ptr 1000000 2), .one (.ptr 4 0),vi,vb,vb, .one (.ptr 4 0),vi, .one (.ptr 4 1),vi, .one (.ptr 4 2),vs, .one (.ptr 4 3),vl,vi,vb,vb,vb, .one (.ptr 4 3),vl,vi,vi,vb, .one (.cp tl1), .one (.ag tl1), .one (.ptr 1000000 0), .one (.ag tl1),vi,vi,vb,vb,vi],obs:=[(4,tl1),(8,tl1),(1000000,tl5)],tk:=[12,18,37,39,42,44,48,52,63,66,68,76,78,80,82,90,92,97],dp:=[69],keep:=[(0,[0,2,4]),(1,[0,2,4]),(2,[0,2,4,24]),(3,[6]),(4,[0,2,4,27]),(5,[0,4,61]),(6,[6]),(7,[]),(8,[6]),(9,[0,2,4,88]),(10,[6]),(11,[0,2,90,91,92]),(12,[0,2,90,91,92,93]),(13,[0,2,8,90,91,92]),(14,[0,2,90,91,92,101]),(15,[6]),(16,[0,2,90,91,92]),(17,[6])] }
def F134:FA:= { n:=10,sh:=[vs,vj,vb,vs,vb,vb,vs,vb,vb,vb],obs:=[],tk:=[5,6],keep:=[(0,[0]),(1,[2])] }
def F138:FA:= { n:=17,sh:=[vs,vj,vb,vs,vb,vb,vs,vb,vb,vb,vs,vb,vb,vb,vs,vb,vb],obs:=[],tk:=[5,9,13,14],keep:=[(0,[0]),(1,[2])] }
def F143:FA:= { n:=35,sh:=[.one (.ptr 1000000 0),vj,vi,vi,vi,vb, .tup [.c (.int .i64 0), .c (.int .i64 0), .c (.bool false)], .one (.ptr 1000000 0), .one (.ptr 1000000 0), .one (.ptr 1000000 0),vl, .one (.ptr 1000000 0), .one (.ptr 1000000 0), .one (.ptr 1000000 1),vi, .tup [.c (.int .i64 0), .c (.int .i64 0), .c (.bool false)],vi,vi,vb, .one (.ptr 1000000 0), .one (.ptr 1000000 0), .one (.ptr 1000000 2),vb,vb,vb,vb,vb, .one (.ptr 1000000 0), .one (.ptr 1000000 0), .one (.ptr 1000000 2), .one (.ptr 1000000 0),vi, .one (.ptr 1000000 0), .one (.ptr 1000000 1),vi],obs:=[(1000000,tl4)],tk:=[6,23,24,27,30,31,34],keep:=[(0,[0]),(1,[0,3,4,5]),(2,[0,3,4,26]),(3,[]),(4,[2]),(5,[3]),(6,[2])] }
def F144:FA:= { n:=53,sh:=[.one (.ptr 1000000 0),vj, .one (.ptr 2 0), .one (.ptr 3 0),vi,vi, .one (.ptr 6 0), .one (.ptr 1000000 0),vs, .one (.ag tl0), .one (.ptr 1000000 0),vi, .one (.ptr 3 1), .one (.ptr 1000000 0),vi, .one (.ptr 3 2), .one (.ptr 1000000 0),vi,vi,vi,vb,vb,vi,vb,vb,vb, .one (.ptr 1000000 0), .one (.ptr 1000000 0), .one (.ptr 1000000 2),vb,vb,vb,vi,vi, .one (.ptr 1000000 0),vi, .one (.ag tl2), .one (.ptr 1000000 0),vi, .one (.ptr 6 1), .one (.ptr 1000000 0),vs, .one (.ptr 6 2), .one (.ptr 1000000 0),vi, .one (.ptr 6 3), .one (.ptr 3 3),vl, .one (.ag tl2),vl,vl, .one (.ptr 3 3), .one (.ag tl0)],obs:=[(2,tl0),(3,tl0),(6,tl2),(1000000,tl4)],tk:=[21,25,32,47,48,52],dp:=[49,50],keep:=[(0,[0,2]),(1,[0,2,3]),(2,[0,2,3]),(3,[0,2,3]),(4,[0,2,3,4]),(5,[0,2,3,4,5]),(6,[0,2,3,4,5,31]),(7,[0,2,3,4,5]),(8,[0,2,3,4,5,6]),(9,[0,2,3,4,5,6]),(10,[0,2,3,4,5,6]),(11,[0,2,3,4,5,6]),(12,[0,2,3,4,5]),(13,[2])] }
def F145:FA:= { n:=51,sh:=[.one (.ptr 1000000 0),vi,vj,vj, .one (.ptr 4 0), .one (.ptr 5 0),vi,vi, .one (.ptr 1000000 0),vi, .one (.ag tl1), .one (.ptr 1000000 0),vi, .one (.ptr 5 1), .one (.ptr 1000000 0),vs, .one (.ptr 5 2), .one (.ptr 1000000 0),vi,vi,vb,vb,vi,vb,vb,vb, .one (.ptr 1000000 0), .one (.ptr 1000000 0), .one (.ptr 1000000 2),vi,vi,vb,vb, .one (.ptr 1000000 0), .one (.ptr 1000000 0), .one (.ptr 1000000 2),vb,vb,vb,vi,vi, .one (.ptr 5 3),vl, .one (.ptr 1000000 0),vi,vi, .one (.ag tl1),vl,vl, .one (.ptr 5 3), .one (.ag tl1)],obs:=[(4,tl1),(5,tl1),(1000000,tl4)],tk:=[21,32,39,42,50],dp:=[47,48],keep:=[(0,[0,1,4]),(1,[0,1,4,5]),(2,[0,1,4,5]),(3,[0,1,4,5]),(4,[0,1,4,5,6]),(5,[0,1,4,5,6,25]),(6,[0,1,4,5,6]),(7,[0,1,4,5,6,7]),(8,[0,1,4,5,6,7,38]),(9,[0,1,4,5,6,7]),(10,[0,1,4,5,6,7]),(11,[4])] }
def F146:FA:= { n:=16,sh:=[.one (.ptr 1000000 0),vi,vj,vj,vi,vi, .one (.ptr 1000000 0),vi,vi,vi,vb,vb, .one (.ptr 1000000 0), .one (.ptr 1000000 0), .one (.ptr 1000000 2),vi],obs:=[(1000000,tl4)],tk:=[9,12,15],keep:=[(0,[0,1]),(1,[0,1,5]),(2,[0,5,11]),(3,[]),(4,[4]),(5,[4])] }
def F147:FA:= { n:=42,sh:=[.one (.ptr 1000000 0),vj, .one (.ptr 2 0), .one (.ptr 3 0), .one (.ptr 4 0), .one (.ptr 1000000 0),vs, .one (.ag tl0), .one (.ptr 1000000 0),vi, .one (.ptr 3 1), .one (.ptr 1000000 0),vi, .one (.ptr 3 2), .one (.ptr 1000000 0),vi,vi,vb, .one (.ptr 1000000 0), .one (.ptr 1000000 0), .one (.ptr 1000000 2),vb, .one (.ptr 1000000 0),vi, .one (.ag tl2), .one (.ptr 1000000 0),vi, .one (.ptr 4 1), .one (.ptr 1000000 0),vs, .one (.ptr 4 2), .one (.ptr 1000000 0),vi, .one (.ptr 4 3), .one (.ptr 3 3),vl, .one (.ag tl2),vl,vl, .one (.ptr 3 3),vi, .one (.ag tl0)],obs:=[(2,tl0),(3,tl0),(4,tl2),(1000000,tl4)],tk:=[16,35,36,41],dp:=[37,38],keep:=[(0,[0,2]),(1,[0,2,3]),(2,[0,2,3]),(3,[0,2,3]),(4,[0,2,3,15,16]),(5,[0,2,3,15,16,17]),(6,[0,2,3,15,16,21]),(7,[0,2,3,4,15,16]),(8,[0,2,3,4,15,16]),(9,[0,2,3,4,15,16]),(10,[0,2,3,4,15,16]),(11,[0,2,3,15,16]),(12,[0,2,3,15,16]),(13,[2])] }
def F148:FA:= { n:=41,sh:=[.one (.ptr 1000000 0),vi,vj,vj, .one (.ptr 4 0), .one (.ptr 5 0), .one (.ptr 6 0), .one (.ptr 1000000 0),vi, .one (.ag tl1), .one (.ptr 1000000 0),vi, .one (.ptr 5 1), .one (.ptr 1000000 0),vs, .one (.ptr 5 2),vi,vb, .one (.ptr 1000000 0), .one (.ptr 1000000 0), .one (.ptr 1000000 2), .one (.ptr 1000000 0),vi,vi,vb, .one (.ptr 1000000 0), .one (.ptr 1000000 0), .one (.ptr 1000000 2),vb, .one (.ptr 1000000 0),vi,vi, .one (.ag tl1), .one (.ptr 5 3),vl, .one (.ag tl1),vl,vl, .one (.ptr 5 3),vi, .one (.ag tl1)],obs:=[(4,tl1),(5,tl1),(6,tl1),(1000000,tl4)],tk:=[23,34,35,40],dp:=[36,37],keep:=[(0,[0,1,4]),(1,[0,1,4,5]),(2,[0,1,4,5]),(3,[0,1,4,5]),(4,[0,1,4,5,17]),(5,[0,1,4,5]),(6,[0,1,4,5,22,23]),(7,[0,1,4,5,22,23,24]),(8,[0,1,4,5,22,23,28]),(9,[0,1,4,5,6,22,23]),(10,[0,1,4,5,22,23]),(11,[0,1,4,5,22,23]),(12,[4])] }
def F149:FA:= { n:=10,sh:=[vl,vl,vj,vj,vb,vl,vs,vl,vs,vb],obs:=[],tk:=[5,7],keep:=[(0,[0,1]),(1,[4])] }
def F150:FA:= { n:=50,sh:=[vl,vi,vj,vj,vi,vi,vi,vl,vi,vb,vi,vi,vl,vi, .one (.cp tl0), .one (.cp tl0),vs,vi,vs,vb,vi,vi,vl,vi, .one (.cp tl0), .one (.cp tl5),vi,vi,vb,vi,vi,vl,vi, .one (.cp tl0), .one (.cp tl6),vi,vi,vb,vi,vi,vl,vi, .one (.cp tl0), .one (.cp [.sl []]),vl,vi,vi,vi,vb,vi],obs:=[],tk:=[10,20,29,38,45,49],keep:=[(0,[0,1]),(1,[0,1,5]),(2,[0,1,5,9]),(3,[0,1,5]),(4,[0,1,5,19]),(5,[4]),(6,[0,1,5]),(7,[0,1,5,28]),(8,[4]),(9,[0,1,5]),(10,[0,1,5,37]),(11,[4]),(12,[0,1,5]),(13,[0,1,5]),(14,[0,1,5,48]),(15,[4]),(16,[4])] }
def F151:FA:= { n:=50,sh:=[vl,vi,vj,vj,vi,vi,vi,vl,vi,vb,vi,vi,vl,vi, .one (.cp tl1), .one (.cp tl1),vi,vi,vb,vi,vi,vl,vi, .one (.cp tl1), .one (.cp [.int .i64 0, .str [], .sl []]),vi,vi,vb,vi,vi,vl,vi, .one (.cp tl1), .one (.cp [.str [], .sl []]),vs,vi,vs,vb,vi,vi,vl,vi, .one (.cp tl1), .one (.cp [.sl []]),vl,vi,vi,vi,vb,vi],obs:=[],tk:=[10,19,28,38,45,49],keep:=[(0,[0,1]),(1,[0,1,5]),(2,[0,1,5,9]),(3,[0,1,5]),(4,[0,1,5,18]),(5,[4]),(6,[0,1,5]),(7,[0,1,5,27]),(8,[4]),(9,[0,1,5]),(10,[0,1,5,37]),(11,[4]),(12,[0,1,5]),(13,[0,1,5]),(14,[0,1,5,48]),(15,[4]),(16,[4])] }
def F155:FA:= { n:=36,sh:=[vs,vj,vb,vi,vi,vb,vi,vs,vi,vb,vi,vi,vs,vi,vy,vi,vi,vb,vb,vb,vb,vi,vb,vb,vi,vb,vb,vb,vi,vb,vb,vb,vb,vs,vi,vb],obs:=[],tk:=[10,18,20,23,27,28,33],keep:=[(0,[0]),(1,[0,3]),(2,[0,3,9]),(3,[0,3]),(4,[0,3,4]),(5,[0,3,4,5]),(6,[0,3,32]),(7,[2]),(8,[2])] }
def F159:FA:= { n:=35,sh:=[vs,vj,vb,vi,vi,vs,vi,vb,vi,vi,vs,vi,vy,vb,vb,vb,vi,vb,vb,vs,vi,vy,vb,vb,vb,vs,vi,vy,vb,vb,vb,vb,vs,vi,vb],obs:=[],tk:=[8,15,18,24,32],keep:=[(0,[0]),(1,[0,3]),(2,[0,3,7]),(3,[0,3]),(4,[0,3,31]),(5,[2]),(6,[2])] }
def F193:FA:= { n:=83,sh:=[.one (.ag [.sl [], .sl []]),vi, .one (.ptr 2 0),vj,vb, .one (.ptr 5 0),vi,vl,vb,vi, .one (.ptr 2 0),vl,vi, .one (.cp tl0), .one (.ag tl0), .one (.ptr 5 0),vs,vb,vb,vb, .one (.ag [.sl [], .sl []]), .one (.ptr 5 0),vs,vi,vi,vb,vb,vb, .one (.ptr 5 1),vi,vb,vb,vb,vb, .one (.ptr 5 2),vi, .one (.ptr 5 1),vi,vb,vb,vb,vb, .one (.ptr 5 3),vl,vi,vb,vb,vb,vi, .one (.ptr 5 3),vl,vi,vb,vi,vi, .one (.ag [.sl [], .sl []]), .one (.ag tl0),vi,vb,vb, .tup [.c (.sl []), .c (.bool false)], .one (.ag tl0), .tup [.c (.sl []), .c (.bool false)],vl,vb, .one (.ptr 5 3),vl, .one (.ptr 5 3),vl,vi,vi, .one (.cp tl2), .one (.cp tl2),vi,vb,vb,vi,vb,vb,vi,vb,vb,vb],obs:=[(2,[.sl [], .sl []]),(5,tl0)],tk:=[19,24,27,33,41,53,60,68,74,75,78,79],keep:=[(0,[1,2]),(1,[1,2,5]),(2,[2,5,47]),(3,[4]),(4,[2,5,6]),(5,[2,5,6,52]),(6,[2,5,6]),(7,[2,5,6,59]),(8,[4]),(9,[5,8]),(10,[8,9]),(11,[4])] }
def F194:FA:= { n:=39,sh:=[.one (.ag tl1),vi, .one (.ptr 2 0),vj,vb,vl,vi,vi,vi,vb,vb,vb, .one (.ag tl1),vi,vi,vb,vb, .one (.ag tl1),vl,vi,vl,vi,vb,vi,vi,vi,vi,vb,vi,vi,vl,vi, .one (.cp [.int .i64 0]),vi,vl,vi, .one (.cp [.int .i64 0]),vi,vb],obs:=[(2,tl1)],tk:=[11,13,17,23,28],keep:=[(0,[1,2]),(1,[2,16]),(2,[4]),(3,[5]),(4,[5,6]),(5,[5,6,22]),(6,[5,6]),(7,[5,6,7]),(8,[5,6,7,27]),(9,[5,6,7]),(10,[5,6,7,38]),(11,[4]),(12,[4])] }
def F197:FA:= { n:=26,sh:=[.one (.ag tl0), .one (.ag tl0), .one (.ptr 2 0), .one (.ptr 3 0),vb, .one (.ptr 2 0),vs, .one (.ptr 3 0),vs,vb, .one (.ptr 2 1),vi, .one (.ptr 3 1),vi,vb, .one (.ptr 2 2),vi, .one (.ptr 3 2),vi,vb, .one (.ptr 2 3),vl, .one (.ptr 3 3),vl,vb,vb],obs:=[(2,tl0),(3,tl0)],tk:=[6,8,11,13,16,18,21,23],keep:=[(0,[2,3]),(1,[2,3,9]),(2,[4]),(3,[2,3,14]),(4,[4]),(5,[2,3,19]),(6,[4]),(7,[25]),(8,[4]),(9,[4])] }
def F198:FA:= { n:=26,sh:=[.one (.ag tl1), .one (.ag tl1), .one (.ptr 2 0), .one (.ptr 3 0),vb, .one (.ptr 2 0),vi, .one (.ptr 3 0),vi,vb, .one (.ptr 2 1),vi, .one (.ptr 3 1),vi,vb, .one (.ptr 2 2),vs, .one (.ptr 3 2),vs,vb, .one (.ptr 2 3),vl, .one (.ptr 3 3),vl,vb,vb],obs:=[(2,tl1),(3,tl1)],tk:=[6,8,11,13,16,18,21,23],keep:=[(0,[2,3]),(1,[2,3,9]),(2,[4]),(3,[2,3,14]),(4,[4]),(5,[2,3,19]),(6,[4]),(7,[25]),(8,[4]),(9,[4])] }
def F199:FA:= { n:=42,sh:=[vl,vi,vj,vj,vi,vi,vi,vl,vi,vb,vi,vi, .one (.al (.s 0 0 0) []),vi,vi, .one (.pp (.s 0 0 0) [] 0 0), .one (.pp (.s 0 0 0) [] 0 0),vi,vi, .one (.al (.s 0 0 0) []),vi,vi, .one (.pp (.s 0 0 0) [] 0 0), .one (.pp (.s 0 0 0) [] 0 1),vi,vi, .one (.al (.s 0 0 0) []),vi,vi,vs, .one (.pp (.s 0 0 0) [] 0 0), .one (.pp (.s 0 0 0) [] 0 2),vi,vi, .one (.al (.s 0 0 0) []),vi,vi, .one (.pp (.s 0 0 0) [] 0 0), .one (.pp (.s 0 0 0) [] 0 3),vi,vi,vi],obs:=[],al:=[12,19,26,34],tk:=[10,17,24,32,39,41],keep:=[(0,[0,1]),(1,[0,1,5]),(2,[0,1,5,9]),(3,[0,1,5]),(4,[0,1,5]),(5,[0,1,5]),(6,[0,1,5]),(7,[0,1,5]),(8,[0,1,5]),(9,[0,1,5]),(10,[0,1,5]),(11,[0,1,5]),(12,[0,4])],io:=some 0 }
def F212:FA:= { n:=19,sh:=[vl, .one (.fn 213 [(1000000,0)]),vj,vj,vi,vi,vl,vi,vi,vb,vi, .one (.fn 213 [(1000000,0)]),vl,vi, .one (.cp tl0), .one (.ag tl0),vb,vi,vi],obs:=[(1000000,[.str []])],tk:=[8,17],keep:=[(0,[0,1]),(1,[0,1,7,8]),(2,[0,1,7,8,9]),(3,[0,1,5,7,8]),(4,[0,1,5,7,8,16]),(5,[4]),(6,[0,1,7,8]),(7,[4])] }
def F213:FA:= { n:=8,sh:=[.one (.ag tl0), .one (.ptr 1000000 0), .one (.ptr 2 0),vb, .one (.ptr 2 0),vs,vs,vb],obs:=[(2,tl0),(1000000,[.str []])],tk:=[5],keep:=[(0,[1,2]),(1,[3])] }
def F214:FA:= { n:=179,sh:=[.one (.ptr 1000000 0), .one (.cp tl0), .one (.ag tl2),vj,vj, .one (.ptr 5 0),vb,vb,vb,vi, .one (.ptr 5 2),vs,vb,vb, .one (.ptr 5 3),vi,vb,vb, .one (.ptr 5 3),vi, .one (.cp tl0), .one (.cp tl0), .one (.cp [.sl []]),vl,vi,vi,vb, .one (.ptr 5 0),vi,vb,vb,vb,vb, .one (.ptr 5 1),vi,vb,vb,vb,vb, .one (.ptr 5 1),vi,vb,vb, .one (.ptr 5 2),vs,vb,vb,vb, .one (.ptr 5 3),vi,vb,vb,vb,vb,vb,vb, .one (.ptr 5 1),vi, .one (.cp tl0), .one (.cp tl0), .one (.cp tl6),vi,vi,vb,vb,vb,vb,vb,vb,vb, .one (.ptr 5 1),vi,vb,vb,vb,vb,vb,vb, .one (.ptr 5 1),vi,vb,vb,vb,vb, .one (.ptr 5 1),vi,vb,vb, .one (.ptr 5 2),vs,vb,vb,vb, .one (.ptr 5 3),vi,vb,vb,vb,vb, .one (.ptr 1000000 0), .one (.ptr 5 2),vs,vi,vi,vb,vb, .one (.ptr 1000000 0), .one (.ptr 1000000 0), .one (.ptr 1000000 0),vl,vi, .one (.cp tl0), .one (.cp tl5),vi, .one (.ptr 5 1),vi,vb,vb,vb, .one (.ptr 5 3),vi,vb,vb,vb,vb, .one (.ptr 5 2),vs,vb,vb,vb,vb,vb, .one (.ptr 5 1),vi, .one (.ptr 1000000 0), .one (.ptr 1000000 0), .one (.ptr 1000000 1),vl,vi,vi,vb,vb,vb, .one (.ptr 1000000 0), .one (.ptr 1000000 0), .one (.ptr 1000000 1),vl, .one (.ptr 5 1),vi, .one (.cp tl1), .one (.ag tl1), .one (.cp tl0), .one (.cp tl0), .one (.cp tl6),vi,vb,vb,vb,vb, .one (.ptr 5 2),vs,vb,vb, .one (.ptr 5 1),vi,vb,vb,vb,vb,vb,vb,vb,vb,vb,vb, .one (.ptr 5 1),vi,vb,vb],obs:=[(5,tl2),(1000000,[.sl [], .sl []])],tk:=[13,28,31,32,34,40,42,44,47,49,54,55,57,58,68,69,71,76,77,79,85,87,89,92,94,101,105,106,110,115,118,120,126,128,129,131,142,143,148,151,160,162,164,167,168,173,174,176],keep:=[(0,[0,1,5]),(1,[0,1,5,7]),(2,[0,1,5,7,8]),(3,[0,1,5,7,8,28]),(4,[0,1,5,7,8,28,29]),(5,[6]),(6,[0,1,5,7,8,28,37]),(7,[6]),(8,[0,1,5,7,8,28,52]),(9,[6]),(10,[0,1,5,7,8,28,65]),(11,[0,1,5,7,8,28,65]),(12,[6]),(13,[0,1,5,7,8,28,74]),(14,[6]),(15,[0,1,5,7,8,28,82]),(16,[6]),(17,[0,1,5,7,8,28,97]),(18,[0,5,9]),(19,[6]),(20,[0,1,5,7,8,28,123]),(21,[6]),(22,[5,7,8,28,157]),(23,[6]),(24,[5,7,28,170]),(25,[5,7,170]),(26,[6]),(27,[6])] }
def F215:FA:= { n:=56,sh:=[.one (.cp tl0),vj,vl,vb, .one (.ptr 4 0),vi,vi, .one (.ptr 7 0), .one (.cp tl0), .one (.cp tl0), .one (.cp [.sl []]),vl,vi,vl, .one (.ag tl7), .one (.ptr 4 0),vl,vi,vi,vb,vi, .one (.ptr 4 0), .one (.al (.oc 4 0) []),vi, .one (.pp (.oc 4 0) [] 0 0),vi, .tup [], .one (.cp tl0), .one (.cp tl0), .one (.cp [.sl []]),vl,vi,vi,vb,vi, .one (.cp tl2), .one (.ag tl2), .one (.ptr 4 1),vb,vb, .one (.ptr 4 0),vl,vi, .one (.cp [.int .i64 0]),vi,vb,vb,vi, .one (.ag tl2), .tup [],vi, .one (.ptr 4 0),vl, .one (.ptr 4 1),vb,vb],obs:=[(4,tl7),(7,tl2)],al:=[22],tk:=[18,23,27,32,39,47,48,52,54],keep:=[(0,[0]),(1,[0,4]),(2,[0,4,17,18]),(3,[0,4,17,18,19]),(4,[0,4,5,17,18]),(5,[0,4,17,18]),(6,[0,4,17,18]),(7,[0,4]),(8,[4,30,31,32]),(9,[4,30,31,32,33]),(10,[4,6,7,30,31,32]),(11,[4,6,7,30,31,32,46]),(12,[2,3]),(13,[4,30,31,32]),(14,[4,30,31,32]),(15,[2,3])] }
def F216:FA:= { n:=9,sh:=[vl,vi,vj,vj,vb,vl,vi,vi,vb],obs:=[],tk:=[5,6],keep:=[(0,[0,1]),(1,[4])] }
def F217:FA:= { n:=107,sh:=[vi,vi,vs,vi,vj,vj,vj,vj,vb,vi,vb,vb,vi,vb,vb,vs,vb,vb,vb,vi,vb,vb,vb,vb,vi,vb,vb,vs,vb,vb,vb,vi,vb,vb,vb,vb,vi,vb,vb,vs,vb,vb,vb,vi,vb,vb,vb,vb,vb,vi,vb,vb,vs,vb,vb,vb,vi,vb,vb,vb,vb,vi,vb,vb,vs,vb,vb,vb,vi,vb,vb,vb,vb,vi,vb,vb,vs,vb,vb,vb,vi,vb,vb,vb,vb,vi,vb,vb,vs,vb,vb,vb,vi,vb,vb,vb,vb,vi,vb,vb,vs,vb,vb,vb,vi,vb,vb],obs:=[],tk:=[9,12,14,15,18,19,24,26,27,30,31,36,38,39,42,43,49,51,52,55,56,61,63,64,67,68,73,75,76,79,80,85,87,88,91,92,97,99,100,103,104],keep:=[(0,[0,1,2,3]),(1,[1,2,3,9]),(2,[1,2,3,9,10]),(3,[8]),(4,[1,2,3,9,22]),(5,[8]),(6,[1,2,3,9,34]),(7,[8]),(8,[1,2,3,9,46]),(9,[1,2,3,9,46]),(10,[8]),(11,[1,2,3,9,59]),(12,[8]),(13,[1,2,3,9,71]),(14,[8]),(15,[1,2,3,9,83]),(16,[8]),(17,[1,2,3,95]),(18,[8]),(19,[8])] }
def F220:FA:= { n:=13,sh:=[vs,vj,vb,vs,vb,vb,vs,vb,vb,vb,vs,vb,vb],obs:=[],tk:=[5,9,10],keep:=[(0,[0]),(1,[2])] }
def F228:FA:= { n:=74,sh:=[vl,vi,vj,vj,vi,vi,vb,vi,vi,vi,vi,vi,vb,vb,vi,vb,vb,vb,vi,vl,vi,vb,vb,vb,vi,vi,vi,vl,vi,vb,vb,vi,vi,vl,vi,vi,vi, .one (.cp [.int .u8 0]),vy,vi,vi,vi,vi,vi,vi, .one (.c (.int .u64 0)),vi,vi,vi,vb,vi,vi,vi,vi,vb,vi,vi,vi,vi,vb,vb,vi,vb,vb,vb,vi,vb,vb,vb,vi,vi,vi,vi,vi],obs:=[],tk:=[13,17,23,31,40,52,55,60,61,64,69,70,71],keep:=[(0,[0,1]),(1,[0,1,7]),(2,[0,1,7,8]),(3,[0,1,7,8,30]),(4,[0,1,7,8]),(5,[0,1,7,8,9]),(6,[0,1,7,8,9]),(7,[0,1,7,8,9,49]),(8,[1,7,8,9,10]),(9,[1,8,9,10,54]),(10,[1,8,9,10]),(11,[1,8,10,68]),(12,[4,5,6]),(13,[4,5,6]),(14,[4,5,6])] }
def F229:FA:= { n:=35,sh:=[.one (.ptr 1000000 0),vj,vs,vs,vi,vb, .tup [.c (.str []), .c (.int .i64 0), .c (.bool false)], .one (.ptr 1000000 0), .one (.ptr 1000000 0), .one (.ptr 1000000 0),vl, .one (.ptr 1000000 0), .one (.ptr 1000000 0), .one (.ptr 1000000 1),vi, .tup [.c (.str []), .c (.int .i64 0), .c (.bool false)],vs,vi,vb, .one (.ptr 1000000 0), .one (.ptr 1000000 0), .one (.ptr 1000000 2),vb,vb,vb,vb,vb, .one (.ptr 1000000 0), .one (.ptr 1000000 0), .one (.ptr 1000000 2), .one (.ptr 1000000 0),vi, .one (.ptr 1000000 0), .one (.ptr 1000000 1),vs],obs:=[(1000000,tl4)],tk:=[6,23,24,27,30,31,34],keep:=[(0,[0]),(1,[0,3,4,5]),(2,[0,3,4,26]),(3,[]),(4,[2]),(5,[3]),(6,[2])] }
def F230:FA:= { n:=15,sh:=[vi,vi,vi,vj,vj,vj,vb,vi,vi,vb,vb,vi,vi,vb,vb],obs:=[],tk:=[8,10,11,12],keep:=[(0,[0,1,2]),(1,[6])] }
def F231:FA:= { n:=35,sh:=[.one (.ptr 1000000 0),vj,vi,vi,vi,vb, .tup [.c (.int .i64 0), .c (.int .i64 0), .c (.bool false)], .one (.ptr 1000000 0), .one (.ptr 1000000 0), .one (.ptr 1000000 0),vl, .one (.ptr 1000000 0), .one (.ptr 1000000 0), .one (.ptr 1000000 1),vi, .tup [.c (.int .i64 0), .c (.int .i64 0), .c (.bool false)],vi,vi,vb, .one (.ptr 1000000 0), .one (.ptr 1000000 0), .one (.ptr 1000000 2),vb,vb,vb,vb,vb, .one (.ptr 1000000 0), .one (.ptr 1000000 0), .one (.ptr 1000000 2), .one (.ptr 1000000 0),vi, .one (.ptr 1000000 0), .one (.ptr 1000000 1),vi],obs:=[(1000000,tl4)],tk:=[6,23,24,27,30,31,34],keep:=[(0,[0]),(1,[0,3,4,5]),(2,[0,3,4,26]),(3,[]),(4,[2]),(5,[3]),(6,[2])] }
def F232:FA:= { n:=35,sh:=[.one (.ptr 1000000 0),vj,vs,vs,vi,vb, .tup [.c (.str []), .c (.int .i64 0), .c (.bool false)], .one (.ptr 1000000 0), .one (.ptr 1000000 0), .one (.ptr 1000000 0),vl, .one (.ptr 1000000 0), .one (.ptr 1000000 0), .one (.ptr 1000000 1),vi, .tup [.c (.str []), .c (.int .i64 0), .c (.bool false)],vs,vi,vb, .one (.ptr 1000000 0), .one (.ptr 1000000 0), .one (.ptr 1000000 2),vb,vb,vb,vb,vb, .one (.ptr 1000000 0), .one (.ptr 1000000 0), .one (.ptr 1000000 2), .one (.ptr 1000000 0),vi, .one (.ptr 1000000 0), .one (.ptr 1000000 1),vs],obs:=[(1000000,tl4)],tk:=[6,23,24,27,30,31,34],keep:=[(0,[0]),(1,[0,3,4,5]),(2,[0,3,4,26]),(3,[]),(4,[2]),(5,[3]),(6,[2])] }
def F233:FA:= { n:=50,sh:=[vl,vi,vj,vj,vi,vi,vi,vl,vi,vb,vi,vi,vl,vi, .one (.cp tl2), .one (.cp tl2),vi,vi,vb,vi,vi,vl,vi, .one (.cp tl2), .one (.cp [.int .i64 0, .str [], .int .i64 0]),vi,vi,vb,vi,vi,vl,vi, .one (.cp tl2), .one (.cp [.str [], .int .i64 0]),vs,vi,vs,vb,vi,vi,vl,vi, .one (.cp tl2), .one (.cp [.int .i64 0]),vi,vi,vb,vi,vi,vi],obs:=[],tk:=[10,19,28,38,47,49],keep:=[(0,[0,1]),(1,[0,1,5]),(2,[0,1,5,9]),(3,[0,1,5]),(4,[0,1,5,18]),(5,[4]),(6,[0,1,5]),(7,[0,1,5,27]),(8,[4]),(9,[0,1,5]),(10,[0,1,5,37]),(11,[4]),(12,[0,1,5]),(13,[0,1,5,46]),(14,[4]),(15,[0,1,5]),(16,[4])] }
def F237:FA:= { n:=9,sh:=[vy,vj,vb,vy,vb,vb,vy,vb,vb],obs:=[],tk:=[5,6],keep:=[(0,[0]),(1,[2])] }
def F238:FA:= { n:=9,sh:=[vy,vj,vb,vy,vb,vb,vy,vb,vb],obs:=[],tk:=[5,6],keep:=[(0,[0]),(1,[2])] }
def F257:FA:= { n:=22,sh:=[.one (.ag [.sl [], .sl []]),vs, .one (.ptr 2 0),vj,vi,vi,vi, .one (.ptr 2 0),vl,vi,vb,vi,vi, .one (.ptr 2 0),vl,vi, .one (.cp tl0), .one (.cp tl0),vs,vs,vb,vi],obs:=[(2,[.sl [], .sl []])],tk:=[11,21],keep:=[(0,[1,2]),(1,[1,2,5]),(2,[1,2,5,10]),(3,[1,2,5]),(4,[1,2,5,20]),(5,[4]),(6,[4])] }
def F258:FA:= { n:=172,sh:=[.one (.ag [.sl [], .sl []]), .one (.ag tl0),vi, .one (.ptr 3 0), .one (.ptr 4 0),vj,vb, .one (.ptr 7 0),vb,vb,vi, .one (.ptr 4 3),vl,vi, .one (.cp tl2), .one (.ag tl2), .one (.ptr 7 2),vs,vb,vb, .one (.ptr 7 3),vi,vb,vb, .one (.ptr 7 2),vs,vb,vb, .one (.ptr 7 3),vi,vi,vi, .one (.ptr 4 3),vl,vi,vi,vb,vb, .one (.ptr 7 0),vi,vb,vb,vb,vb, .one (.ptr 7 1),vi,vb,vb,vb,vb, .one (.ptr 7 2),vs,vb,vb, .one (.ptr 7 1),vi,vb,vb,vb, .one (.ptr 7 3),vi,vb,vb,vb,vb,vb,vb, .one (.ptr 7 1),vi, .one (.ptr 4 2),vi,vi,vb,vb,vb,vb,vb,vb,vb, .one (.ptr 7 1),vi,vb,vb,vb,vb,vb,vb, .one (.ptr 7 1),vi,vb,vb,vb,vb, .one (.ptr 7 2),vs,vb,vb, .one (.ptr 7 1),vi,vb,vb,vb, .one (.ptr 7 3),vi,vb,vb,vb,vb, .one (.ag [.sl [], .sl []]), .one (.ptr 7 2),vs,vi,vi,vb,vb, .one (.ptr 3 0),vl,vi, .one (.cp tl0), .one (.cp tl5),vi, .one (.ptr 7 1),vi,vb,vb,vb, .one (.ptr 7 3),vi,vb,vb,vb,vb,vb,vb, .one (.ptr 7 1),vi, .one (.ptr 3 1),vl,vi,vi,vb,vb,vb, .one (.ptr 3 1),vl, .one (.ptr 7 1),vi, .one (.cp tl1), .one (.ag tl1), .one (.ptr 4 2),vi,vb,vb,vb,vb,vb,vb, .one (.ptr 7 1),vi,vb,vb,vb,vb, .one (.ptr 7 1),vi,vb,vb,vb, .one (.ptr 7 0),vi,vb,vb],obs:=[(3,[.sl [], .sl []]),(4,tl0),(7,tl2)],tk:=[19,27,30,33,42,43,45,51,53,55,58,60,65,66,68,70,77,78,80,85,86,88,94,96,98,101,103,110,114,116,117,122,125,127,132,133,142,144,146,150,155,156,158,161,162,164,167,169],keep:=[(0,[2,3,4]),(1,[2,3,4,7]),(2,[2,3,4,7,8]),(3,[3,4,7,8,9]),(4,[3,4,7,8,9,39]),(5,[3,4,7,8,9,39,40]),(6,[6]),(7,[3,4,7,8,9,39,48]),(8,[6]),(9,[3,4,7,8,9,39,63]),(10,[6]),(11,[3,4,7,8,9,39,74]),(12,[3,4,7,8,9,39,74]),(13,[6]),(14,[3,4,7,8,9,39,83]),(15,[6]),(16,[3,4,7,8,9,39,91]),(17,[6]),(18,[3,4,7,8,9,39,106]),(19,[3,7,10]),(20,[6]),(21,[3,4,7,8,9,39,130]),(22,[6]),(23,[7,8,9,153]),(24,[6]),(25,[6])] }
def F259:FA:= { n:=116,sh:=[.one (.ag tl0), .one (.ptr 1 0),vl,vb,vl,vi,vi, .one (.ptr 7 0),vi,vi,vi,vb, .one (.ptr 1 3),vl,vi,vl,vi,vl,vi,vb,vi,vi, .one (.al (.s 4 0 0) []),vi, .one (.pp (.s 4 0 0) [] 0 0),vi,vl,vi,vb,vi,vi, .one (.ptr 1 3),vl,vi, .one (.cp tl2), .one (.ag tl2), .tup [.c (.int .i64 0), .c (.int .i64 0)], .one (.ag tl2), .tup [.c (.int .i64 0), .c (.int .i64 0)],vi,vi,vl,vi, .one (.cp [.int .i64 0]),vi,vi,vi,vb,vb,vi,vb,vb,vb, .one (.ptr 7 0),vi,vb,vb,vi,vb,vb,vb,vl, .one (.ptr 7 0),vi,vi,vi,vl,vi,vb,vb, .one (.al (.s 4 0 0) []),vi,vi,vi,vi,vi,vi,vi,vb,vb,vb,vb,vb,vb,vb, .one (.al (.s 4 0 0) []), .one (.ptr 7 3),vi,vi,vb,vb,vb, .one (.al (.s 4 0 0) []), .one (.ptr 7 3),vi,vi,vb,vb,vi,vi,vl,vi,vb,vb,vb, .one (.al (.s 4 0 0) []),vi,vi,vi,vi,vb,vb,vb,vb,vl,vl],obs:=[(1,tl0),(7,tl2)],al:=[22,70,85,92,105],tk:=[20,29,36,48,52,56,61,63,69,73,74,76,87,88,94,97,104,108,112,114,115],keep:=[(0,[1]),(1,[1,4]),(2,[1,4,5]),(3,[1,4,5,19]),(4,[1,4,5]),(5,[1,4,5]),(6,[1,4,6]),(7,[1,4,6,28]),(8,[1,4,6]),(9,[1,4,6,7]),(10,[1,4,6,7,8,9]),(11,[1,4,6,7,8,9,10]),(12,[1,4,6,7,8,9,10,60]),(13,[2,3]),(14,[1,4,6,7,8,9,10,11]),(15,[1,4,6,7,8,9,10,11,63]),(16,[1,4,6,11]),(17,[1,4,6,7,8,9,10,11,63,80]),(18,[1,4,6,7,8,9,10,11,63,80]),(19,[1,4,6,7,8,9,10,63,83]),(20,[1,4,6,11]),(21,[1,4,6,7,8,9,10,90]),(22,[1,4,6,11]),(23,[1,4,6,113]),(24,[2,3]),(25,[2,3])],ioa:=[70,85,92,105] }
def F260:FA:= { n:=46,sh:=[.one (.ag tl1),vi,vi,vi, .one (.ptr 4 0),vj,vj,vj,vi,vi,vi,vb,vb,vi,vb,vb,vb, .one (.ag tl1),vi,vb,vb,vb,vi,vi,vi, .one (.ptr 4 3),vl,vi,vb,vb,vi,vb,vb,vi,vi, .one (.ptr 4 3),vl,vi, .one (.cp tl1), .one (.ag tl1),vi,vi,vi,vi,vi,vi],obs:=[(4,tl1)],tk:=[12,16,22,29,33,43,45],keep:=[(0,[1,2,3,4]),(1,[1,2,3,4,21]),(2,[8]),(3,[1,2,3,4]),(4,[1,2,3,4,9]),(5,[1,2,3,4,9,32]),(6,[1,2,3,4,9]),(7,[1,2,3,4,9]),(8,[8])] }
def F261:FA:= { n:=35,sh:=[.one (.ag tl1), .one (.ptr 1 0),vl,vl,vi,vl, .one (.ptr 1 0),vi,vb,vb, .one (.ptr 1 1),vi,vb,vb,vl, .one (.ptr 1 1),vi,vl,vl,vi, .one (.ptr 1 3),vl,vi,vb,vi,vi,vl, .one (.ptr 1 3),vl,vi, .one (.cp tl1), .one (.ag tl1),vl,vl,vl],obs:=[(1,tl1)],tk:=[7,9,14,16,24,26,34],dp:=[5,17,18,33],keep:=[(0,[1]),(1,[1,3]),(2,[1,3,13]),(3,[1,3]),(4,[1,3,4]),(5,[1,3,4,23]),(6,[1,3,4]),(7,[1,3,4]),(8,[2])] }
def F263:FA:= { n:=27,sh:=[vl,vl,vj,vj,vb,vi,vl,vi,vl,vi,vb,vi,vl,vi,vb,vi,vi,vl,vi, .one (.cp tl2), .one (.ag tl2),vl,vi, .one (.cp tl2), .one (.ag tl2),vb,vb],obs:=[],tk:=[15],keep:=[(0,[0,1]),(1,[0,1,10]),(2,[4]),(3,[0,1,5]),(4,[0,1,5,14]),(5,[0,1,5]),(6,[0,1,5,26]),(7,[4]),(8,[4])] }
def F268:FA:= { n:=23,sh:=[vs,vj,vb,vi,vi,vs,vi,vb,vi,vi,vs,vi,vy,vb,vb,vs,vi,vb,vb,vs,vy,vb,vb],obs:=[],tk:=[8,18,19],keep:=[(0,[0]),(1,[0,3]),(2,[0,3,7]),(3,[0,3]),(4,[0,3,14]),(5,[2]),(6,[2])] }
def F271:FA:= { n:=10,sh:=[vs,vj,vb,vs,vb,vb,vb,vb,vb,vb],obs:=[],tk:=[3],keep:=[(0,[0]),(1,[3]),(2,[3,4]),(3,[3,4]),(4,[3,4]),(5,[3,4]),(6,[4]),(7,[2]),(8,[2])] }
def F272:FA:= { n:=50,sh:=[.one (.ptr 1000000 0),vi,vi,vj,vj,vj,vb,vi, .one (.ptr 1000000 0), .one (.ptr 1000000 0), .one (.ptr 1000000 0),vl,vi,vb,vb,vi,vb,vb, .one (.ptr 1000000 0), .one (.ptr 1000000 0), .one (.ptr 1000000 1),vb, .one (.ptr 1000000 0), .one (.ptr 1000000 0), .one (.ptr 1000000 0),vl,vi, .one (.cp [.int .i64 0]),vi,vb, .one (.ptr 1000000 0), .one (.ptr 1000000 0), .one (.ptr 1000000 0), .one (.al (.oc 1000000 0) []),vi,vi, .one (.pp (.oc 1000000 0) [] 0 0),vb, .one (.ptr 1000000 0), .one (.ptr 1000000 0), .one (.ptr 1000000 0),vl,vi, .one (.cp [.int .i64 0]),vi,vi,vb, .one (.ptr 1000000 0), .one (.ptr 1000000 0), .one (.ptr 1000000 1)],obs:=[(1000000,tl7)],al:=[33],tk:=[14,18,30,34,35,42,45,47],keep:=[(0,[0,1,2,6]),(1,[]),(2,[0,1,2,21]),(3,[]),(4,[0,37]),(5,[])] }
def F273:FA:= { n:=83,sh:=[.one (.ptr 1000000 0),vi, .one (.ag tl2),vj,vj, .one (.ptr 5 0),vi, .one (.ptr 1000000 0), .one (.ptr 1000000 0), .one (.ptr 1000000 0),vl,vi, .one (.cp [.int .i64 0]),vi,vi, .one (.ag tl2),vi,vb,vb, .one (.ptr 5 0),vi,vb,vb, .one (.ptr 5 0),vi,vb,vb,vb, .one (.ptr 5 3),vi,vi,vb,vb,vb, .one (.ptr 1000000 0), .one (.ptr 1000000 0), .one (.ptr 1000000 1), .one (.ptr 5 0),vi, .one (.ptr 1000000 0),vi,vi,vi, .one (.ag tl2),vi,vi,vi, .tup [],vb,vb, .one (.ptr 1000000 0),vi,vi,vi,vi, .tup [], .one (.ptr 1000000 0), .one (.ptr 5 3),vi,vi, .tup [],vb,vb, .one (.ptr 1000000 0), .one (.ptr 5 3),vi,vi, .tup [],vb,vb,vb,vb, .one (.ptr 1000000 0), .one (.ptr 1000000 0), .one (.ptr 1000000 0), .one (.ptr 1000000 1),vb,vb,vi,vb,vb, .one (.ptr 1000000 0), .one (.ptr 1000000 1)],obs:=[(5,tl2),(1000000,tl7)],tk:=[18,22,27,34,39,40,42,43,51,56,58,59,63,65,66,73,76,77,78],keep:=[(0,[0,1,5]),(1,[0,1,5,6]),(2,[0,1,5,6,33]),(3,[]),(4,[0,1,5,6,38]),(5,[]),(6,[0,1,5,6,38,48]),(7,[0,5,6]),(8,[]),(9,[0,1,5,6,38,61]),(10,[]),(11,[0,1,5,6,38,68]),(12,[0,1,5,6,70]),(13,[])] }
def F274:FA:= { n:=19,sh:=[vl,vi,vj,vj,vi,vi,vl,vi,vi,vb,vi,vi,vl,vi, .one (.cp [.int .i64 0]),vi,vb,vi,vi],obs:=[],tk:=[8,17],keep:=[(0,[0,1]),(1,[0,1,7,8]),(2,[0,1,7,8,9]),(3,[0,1,5,7,8]),(4,[0,1,5,7,8,16]),(5,[4]),(6,[0,1,7,8]),(7,[4])] }
def F278:FA:= { n:=41,sh:=[vl,vi,vj,vj,vs,vi,vb,vi,vi,vb, .tup [.c (.int .i64 0), .c (.int .i64 0), .c (.bool false)],vl,vi, .tup [.c (.int .i64 0), .c (.int .i64 0), .c (.bool false)],vi,vi,vb,vb,vb,vb,vi,vb,vb,vb,vi,vl,vi,vi,vi,vb,vb,vl,vi,vi,vi,vi,vl,vs,vi,vi,vi],obs:=[],tk:=[10,12,17,19,23,31,38,39],keep:=[(0,[0,1]),(1,[0,7,8,9]),(2,[0,7,8,30]),(3,[4,5,6]),(4,[4,5,6])] }
def F279:FA:= { n:=66,sh:=[vl,vi,vj,vj,vi,vi,vb,vi,vi,vi,vi,vi,vl,vi,vi,vb,vb,vi,vb,vb,vi,vl,vi,vb,vb,vi,vi,vl,vi, .one (.cp [.int .u8 0]),vy,vi,vi,vi,vi,vi,vi,vi,vi, .one (.c (.int .u64 0)),vi,vi,vi,vb,vi,vi,vi,vi,vb,vi,vi,vi,vi,vi,vb,vb,vi,vb,vb,vb,vi,vb,vb,vb,vi,vi],obs:=[],tk:=[19,25,32,34,49,53,55,56,59,64,65],keep:=[(0,[0,1]),(1,[0,1,16]),(2,[4,5,6]),(3,[0,1,7]),(4,[0,1,7,8]),(5,[0,1,7,8,24]),(6,[0,1,7,8]),(7,[0,1,7,8,9]),(8,[0,1,7,8,9]),(9,[0,1,7,8,9]),(10,[0,1,7,8,9,43]),(11,[1,7,8,9,10]),(12,[1,7,8,9,10,48]),(13,[1,8,9,10]),(14,[1,10,63]),(15,[4,5,6]),(16,[4,5,6]),(17,[4,5,6])] }
def F280:FA:= { n:=41,sh:=[vl,vi,vj,vj,vs,vi,vb,vi,vi,vb, .tup [.c (.int .i64 0), .c (.int .i64 0), .c (.bool false)],vl,vi, .tup [.c (.int .i64 0), .c (.int .i64 0), .c (.bool false)],vi,vi,vb,vb,vb,vb,vi,vb,vb,vb,vi,vl,vi,vi,vi,vb,vb,vl,vi,vi,vi,vi,vl,vs,vi,vi,vi],obs:=[],tk:=[10,12,17,19,23,31,38,39],keep:=[(0,[0,1]),(1,[0,7,8,9]),(2,[0,7,8,30]),(3,[4,5,6]),(4,[4,5,6])] }
def F286:FA:= { n:=21,sh:=[vs,vj,vb,vs,vb,vb,vs,vb,vb,vb,vs,vb,vb,vb,vs,vb,vb,vb,vs,vb,vb],obs:=[],tk:=[5,9,13,17,18],keep:=[(0,[0]),(1,[2])] }
def F289:FA:= { n:=22,sh:=[.one (.ag tl2), .one (.ptr 1 0),vi,vi, .one (.ptr 1 0),vi,vb,vb,vb,vb,vb,vb,vb,vb,vb, .one (.ptr 1 1),vi,vb,vb,vb,vb,vb],obs:=[(1,tl2)],tk:=[5,16],keep:=[(0,[1]),(1,[1,5]),(2,[1,5,6]),(3,[1,5,6]),(4,[1,5,6]),(5,[2,3]),(6,[1,5,10]),(7,[1,5,10]),(8,[1,5,10]),(9,[1,5,10]),(10,[2,3]),(11,[5,17]),(12,[2,3]),(13,[5,19]),(14,[19]),(15,[2,3]),(16,[2,3])] }
def F290:FA:= { n:=22,sh:=[vl,vi,vi,vj,vj,vj,vb,vl,vi, .one (.cp [.int .i64 0]),vi,vb, .one (.al (.s 0 0 0) []),vi,vi, .one (.pp (.s 0 0 0) [] 0 0),vl,vi, .one (.cp [.int .i64 0]),vi,vi,vb],obs:=[],al:=[12],tk:=[17,20],keep:=[(0,[0,1,2]),(1,[0,1,2,11]),(2,[0,1,2]),(3,[0,6])],io:=some 0 }
def F291:FA:= { n:=84,sh:=[.one (.ag tl1),vi, .one (.ptr 2 0),vj,vb,vi, .one (.ptr 2 3),vl,vi, .one (.ptr 2 0),vi,vb,vb, .one (.ptr 2 1),vi,vb,vb, .one (.ptr 2 2),vs,vb,vb,vb,vi,vb,vb,vb,vb, .one (.ptr 2 2),vs,vb,vb, .one (.ptr 2 1),vi,vb,vb,vb,vi,vb,vb,vb,vb, .one (.ptr 2 2),vs,vb,vb,vi,vb,vb,vb, .one (.ptr 2 1),vi,vi,vi,vb,vb,vb,vb,vb, .one (.ptr 2 2),vs,vb,vb, .one (.ptr 2 1),vi,vb,vb,vb,vi,vb,vb,vb,vb, .one (.ptr 2 2),vs,vb,vb, .one (.ptr 2 1),vi,vb,vb,vb,vi,vb,vb],obs:=[(2,tl1)],tk:=[7,10,14,16,18,21,22,28,30,32,35,36,42,44,45,48,50,51,59,61,63,66,67,73,75,77,80,81],keep:=[(0,[1,2]),(1,[1,2,5]),(2,[1,2,5,10]),(3,[1,2,5,10,11]),(4,[4]),(5,[1,2,5,10,25]),(6,[4]),(7,[1,2,5,10,39]),(8,[4]),(9,[2,5,10,55]),(10,[2,5,10,55]),(11,[4]),(12,[2,5,70]),(13,[4]),(14,[4])] }
def F293:FA:= { n:=25,sh:=[.one (.ag tl2), .one (.ag tl2), .one (.ptr 2 0), .one (.ptr 3 0),vb, .one (.ptr 2 0),vi, .one (.ptr 3 0),vi,vb, .one (.ptr 2 1),vi, .one (.ptr 3 1),vi,vb, .one (.ptr 2 2),vs, .one (.ptr 3 2),vs,vb, .one (.ptr 2 3),vi, .one (.ptr 3 3),vi,vb],obs:=[(2,tl2),(3,tl2)],tk:=[6,8,11,13,16,18,21,23],keep:=[(0,[2,3]),(1,[2,3,9]),(2,[4]),(3,[2,3,14]),(4,[4]),(5,[2,3,19]),(6,[4]),(7,[24]),(8,[4]),(9,[4])] }
def F298:FA:= { n:=13,sh:=[vy,vj,vb,vy,vb,vb,vy,vb,vb,vb,vy,vb,vb],obs:=[],tk:=[5,9,10],keep:=[(0,[0]),(1,[2])] }
def F299:FA:= { n:=13,sh:=[vy,vj,vb,vy,vb,vb,vy,vb,vb,vb,vy,vb,vb],obs:=[],tk:=[5,9,10],keep:=[(0,[0]),(1,[2])] }
def F301:FA:= { n:=17,sh:=[.one (.ag tl2), .one (.ptr 1 0),vi, .one (.ptr 1 0),vi,vb,vb,vb,vb,vb, .one (.ptr 1 1),vi,vb,vb,vb,vb,vb],obs:=[(1,tl2)],tk:=[4,11],keep:=[(0,[1]),(1,[1,4]),(2,[1,4,5]),(3,[1,4,5]),(4,[1,4,5]),(5,[1,4,5]),(6,[2]),(7,[4,12]),(8,[2]),(9,[4,14]),(10,[14]),(11,[2]),(12,[2])] }
def An:FuncId→FA
  | 8=>F8
  | 32=>F32
  | 34=>F34
  | 35=>F35
  | 36=>F36
  | 38=>F38
  | 44=>F44
  | 45=>F45
  | 53=>F53
  | 54=>F54
  | 55=>F55
  | 56=>F56
  | 88=>F88
  | 102=>F102
  | 103=>F103
  | 104=>F104
  | 105=>F105
  | 106=>F106
  | 109=>F109
  | 110=>F110
  | 111=>F111
  | 112=>F112
  | 113=>F113
  | 114=>F114
  | 115=>F115
  | 116=>F116
  | 128=>F128
  | 129=>F129
  | 130=>F130
  | 131=>F131
  | 134=>F134
  | 138=>F138
  | 143=>F143
  | 144=>F144
  | 145=>F145
  | 146=>F146
  | 147=>F147
  | 148=>F148
  | 149=>F149
  | 150=>F150
  | 151=>F151
  | 155=>F155
  | 159=>F159
  | 193=>F193
  | 194=>F194
  | 197=>F197
  | 198=>F198
  | 199=>F199
  | 212=>F212
  | 213=>F213
  | 214=>F214
  | 215=>F215
  | 216=>F216
  | 217=>F217
  | 220=>F220
  | 228=>F228
  | 229=>F229
  | 230=>F230
  | 231=>F231
  | 232=>F232
  | 233=>F233
  | 237=>F237
  | 238=>F238
  | 257=>F257
  | 258=>F258
  | 259=>F259
  | 260=>F260
  | 261=>F261
  | 263=>F263
  | 268=>F268
  | 271=>F271
  | 272=>F272
  | 273=>F273
  | 274=>F274
  | 278=>F278
  | 279=>F279
  | 280=>F280
  | 286=>F286
  | 289=>F289
  | 290=>F290
  | 291=>F291
  | 293=>F293
  | 298=>F298
  | 299=>F299
  | 301=>F301
  | _=> { n:=0,sh:=[],obs:=[] }
abbrev sg8:Sg:= { bi:=⟨[(0,[[.F]])],[]⟩,bo:=⟨[(0,[[.S]])],[]⟩,np:=1,ext:=false }
abbrev sg32:Sg:= { bi:=⟨[(0,[[.F, .F]])],[]⟩,bo:=⟨[(0,[[.U 1]])],[]⟩,np:=1,ext:=false }
abbrev sg34:Sg:= { bi:=⟨[(0,[[.F, .F]])],[]⟩,bo:=⟨[(0,[[.U 1]])],[]⟩,np:=1,ext:=false }
abbrev sg35:Sg:= { bi:=⟨[(0,[[.F]]),(1,[[.F]])],[]⟩,bo:=⟨[(0,[[.S]])],[]⟩,np:=2,ext:=false }
abbrev sg36:Sg:= { bi:=⟨[(0,[[.F, .F]]),(1,[[.F, .F]])],[]⟩,bo:=⟨[(0,[[.S]])],[]⟩,np:=2,ext:=false }
abbrev sg38:Sg:= { bi:=⟨[(0,[[.U 0]]),(1,[[.S]])],[]⟩,bo:=⟨[(0,[[.S]]),(1,[[.U 0]])],[]⟩,np:=2,io:=some 0 }
abbrev sg44:Sg:= { bi:=⟨[(0,[[.F, .F]])],[]⟩,bo:=⟨[(0,[[.S]])],[]⟩,np:=1,ext:=false }
abbrev sg45:Sg:= { bi:=⟨[(0,[[.S, .S, .S, .F]]),(1,[[.S]])],[]⟩,bo:=⟨[(0,[[.S]])],[]⟩,np:=2,ext:=false }
abbrev sg53:Sg:= { bi:=⟨[(0,[[.F]])],[]⟩,bo:=⟨[(0,[[.U 4, .U 4],[.S]])],[]⟩,np:=1,ext:=false }
abbrev sg54:Sg:= { bi:=⟨[(0,[[.F]])],[]⟩,bo:=⟨[(0,[[.U 1]])],[]⟩,np:=1,ext:=false }
abbrev sg55:Sg:= { bi:=⟨[(0,[[.F]])],[]⟩,bo:=⟨[(0,[[.U 4, .U 4],[.S]])],[]⟩,np:=1,ext:=false }
abbrev sg56:Sg:= { bi:=⟨[(0,[[.F, .F]]),(1,[[.S]])],[]⟩,bo:=⟨[(0,[[.S]])],[]⟩,np:=2,ext:=false }
abbrev sg88:Sg:= { bi:=⟨[(0,[[.S]])],[]⟩,bo:=⟨[(0,[[.S]])],[]⟩,np:=1,ext:=false }
abbrev SX:Sg:= { bi:=⟨[(0,[[.F, .F]])],[]⟩,bo:=⟨[(0,[[.S]])],[]⟩,np:=1,ext:=false }
abbrev SW:Sg:= { bi:=⟨[(0,[[.F, .F]])],[]⟩,bo:=⟨[(0,[[.S]])],[]⟩,np:=1,ext:=false }
abbrev SV:Sg:= { bi:=⟨[(0,[[.F]]),(1,[[.S]])],[]⟩,bo:=⟨[(0,[[.U 1]])],[]⟩,np:=2,ext:=false }
abbrev SU:Sg:= { bi:=⟨[(0,[[.F]]),(1,[[.S]])],[]⟩,bo:=⟨[(0,[[.U 1]])],[]⟩,np:=2,ext:=false }
abbrev ST:Sg:= { bi:=⟨[(0,[[.F]]),(1,[[.S, .S, .S, .F]])],[]⟩,bo:=⟨[(0,[[.U 1]])],[]⟩,np:=2,ext:=false }
abbrev SR:Sg:= { bi:=⟨[(0,[[.F, .F]])],[]⟩,bo:=⟨[(0,[[.S]])],[]⟩,np:=1,ext:=false }
abbrev SQ:Sg:= { bi:=⟨[(0,[[.U 1]]),(1,[[.S]])],[]⟩,bo:=⟨[(0,[[.U 1]])],[]⟩,np:=2 }
abbrev SP:Sg:= { bi:=⟨[(0,[[.U 1]]),(1,[[.S]])],[]⟩,bo:=⟨[(0,[[.U 1]])],[]⟩,np:=2 }
abbrev SO:Sg:= { bi:=⟨[(0,[[.U 1]]),(1,[[.S, .S, .S, .F]])],[]⟩,bo:=⟨[(0,[[.U 1]])],[]⟩,np:=2 }
abbrev SN:Sg:= { bi:=⟨[(0,[[.F]]),(1,[[.F]])],[]⟩,bo:=⟨[(0,[[.S]])],[]⟩,np:=2,ext:=false }
abbrev SM:Sg:= { bi:=⟨[(0,[[.F]]),(1,[[.F]])],[]⟩,bo:=⟨[(0,[[.S]])],[]⟩,np:=2,ext:=false }
abbrev SL:Sg:= { bi:=⟨[(0,[[.U 0]]),(1,[[.S]])],[]⟩,bo:=⟨[(0,[[.S]]),(1,[[.U 0]])],[]⟩,np:=2,io:=some 0 }
abbrev SK:Sg:= { bi:=⟨[(0,[[.U 0]]),(1,[[.S]])],[]⟩,bo:=⟨[(0,[[.S]]),(1,[[.U 0]])],[]⟩,np:=2,io:=some 0 }
abbrev SJ:Sg:= { bi:=⟨[(0,[[.S]]),(1,[[.S]])],[(1000000,[.F, .F])]⟩,bo:=⟨[(0,[[.S]])],[(1000000,[.F, .F])]⟩,np:=2,no:=1 }
abbrev SI:Sg:= { bi:=⟨[(0,[[.S]]),(1,[[.F]])],[(1000000,[.F, .F])]⟩,bo:=⟨[(0,[[.S]])],[(1000000,[.F, .F])]⟩,np:=2,no:=1 }
abbrev SH:Sg:= { bi:=⟨[(0,[[.S]]),(1,[[.S]]),(2,[[.S]])],[]⟩,bo:=⟨[(0,[[.S]])],[]⟩,np:=3,ext:=false }
abbrev SG:Sg:= { bi:=⟨[(0,[[.S]]),(1,[[.S, .S, .S, .F]]),(2,[[.S]])],[(1000000,[.S, .S, .A 1])]⟩,bo:=⟨[(0,[[.S]])],[(1000000,[.S, .S, .A 1])]⟩,np:=3,no:=1 }
abbrev SF:Sg:= { bi:=⟨[(0,[[.S]])],[]⟩,bo:=⟨[(0,[[.S]])],[]⟩,np:=1,ext:=false }
abbrev SE:Sg:= { bi:=⟨[(0,[[.S]])],[]⟩,bo:=⟨[(0,[[.S]])],[]⟩,np:=1,ext:=false }
abbrev SC:Sg:= { bi:=⟨[(0,[[.S]])],[(1000000,[.F, .S, .S])]⟩,bo:=⟨[(0,[[.S]])],[(1000000,[.F, .S, .S])]⟩,np:=1,no:=1 }
abbrev SB:Sg:= { bi:=⟨[(0,[[.S]])],[(1000000,[.F, .S, .S])]⟩,bo:=⟨[(0,[[.S, .S, .S, .U 4]])],[(1000000,[.F, .S, .S])]⟩,np:=1,no:=1 }
abbrev SA:Sg:= { bi:=⟨[(0,[[.S]]),(1,[[.S]])],[(1000000,[.F, .S, .S])]⟩,bo:=⟨[(0,[[.S, .S, .S, .U 4]])],[(1000000,[.F, .S, .S])]⟩,np:=2,no:=1 }
abbrev Rz:Sg:= { bi:=⟨[(0,[[.S]]),(1,[[.S]])],[(1000000,[.F, .S, .S])]⟩,bo:=⟨[(0,[[.S]])],[(1000000,[.F, .S, .S])]⟩,np:=2,no:=1 }
abbrev Ry:Sg:= { bi:=⟨[(0,[[.S]])],[(1000000,[.F, .S, .S])]⟩,bo:=⟨[(0,[[.S, .S, .S, .U 4]])],[(1000000,[.F, .S, .S])]⟩,np:=1,no:=1 }
abbrev Rx:Sg:= { bi:=⟨[(0,[[.S]]),(1,[[.S]])],[(1000000,[.F, .S, .S])]⟩,bo:=⟨[(0,[[.S, .S, .S, .U 4]])],[(1000000,[.F, .S, .S])]⟩,np:=2,no:=1 }
abbrev Rw:Sg:= { bi:=⟨[(0,[[.F]]),(1,[[.F]])],[]⟩,bo:=⟨[(0,[[.S]])],[]⟩,np:=2,ext:=false }
abbrev Rv:Sg:= { bi:=⟨[(0,[[.F]]),(1,[[.S]])],[]⟩,bo:=⟨[(0,[[.S]])],[]⟩,np:=2,ext:=false }
abbrev Ru:Sg:= { bi:=⟨[(0,[[.F]]),(1,[[.S]])],[]⟩,bo:=⟨[(0,[[.S]])],[]⟩,np:=2,ext:=false }
abbrev Rt:Sg:= { bi:=⟨[(0,[[.S]])],[]⟩,bo:=⟨[(0,[[.S]])],[]⟩,np:=1,ext:=false }
abbrev Rs:Sg:= { bi:=⟨[(0,[[.S]])],[]⟩,bo:=⟨[(0,[[.S]])],[]⟩,np:=1,ext:=false }
abbrev Rr:Sg:= { bi:=⟨[(0,[[.F, .F]]),(1,[[.S]])],[]⟩,bo:=⟨[(0,[[.S]])],[]⟩,np:=2,ext:=false }
abbrev Rq:Sg:= { bi:=⟨[(0,[[.S, .S, .S, .F]]),(1,[[.S]])],[]⟩,bo:=⟨[(0,[[.S]])],[]⟩,np:=2,ext:=false }
abbrev Rp:Sg:= { bi:=⟨[(0,[[.S, .S, .S, .F]]),(1,[[.S, .S, .S, .F]])],[]⟩,bo:=⟨[(0,[[.S]])],[]⟩,np:=2,ext:=false }
abbrev Ro:Sg:= { bi:=⟨[(0,[[.S, .S, .S, .F]]),(1,[[.S, .S, .S, .F]])],[]⟩,bo:=⟨[(0,[[.S]])],[]⟩,np:=2,ext:=false }
abbrev Rn:Sg:= { bi:=⟨[(0,[[.U 0]]),(1,[[.S]])],[]⟩,bo:=⟨[(0,[[.S]]),(1,[[.U 0]])],[]⟩,np:=2,io:=some 0 }
abbrev Rm:Sg:= { bi:=⟨[(0,[[.F]]),(1,[[.S]])],[(1000000,[.S])]⟩,bo:=⟨[(0,[[.S]])],[(1000000,[.S])]⟩,np:=2,ext:=false,no:=1 }
abbrev Rl:Sg:= { bi:=⟨[(0,[[.S, .S, .S, .F]]),(1,[[.S]])],[(1000000,[.S])]⟩,bo:=⟨[(0,[[.S]])],[(1000000,[.S])]⟩,np:=2,ext:=false,no:=1 }
abbrev Rk:Sg:= { bi:=⟨[(0,[[.S]]),(1,[[.F]]),(2,[[.S, .S, .S, .S]])],[(1000000,[.F, .F])]⟩,bo:=⟨[(0,[[.S]])],[(1000000,[.F, .F])]⟩,np:=3,no:=1 }
abbrev Rj:Sg:= { bi:=⟨[(0,[[.F]])],[]⟩,bo:=⟨[(0,[[.U 1],[.S]])],[]⟩,np:=1,ext:=false }
abbrev Ri:Sg:= { bi:=⟨[(0,[[.F]]),(1,[[.S]])],[]⟩,bo:=⟨[(0,[[.S]])],[]⟩,np:=2,ext:=false }
abbrev Rh:Sg:= { bi:=⟨[(0,[[.S]]),(1,[[.S]]),(2,[[.S]]),(3,[[.S]])],[]⟩,bo:=⟨[(0,[[.S]])],[]⟩,np:=4,ext:=false }
abbrev Rg:Sg:= { bi:=⟨[(0,[[.S]])],[]⟩,bo:=⟨[(0,[[.S]])],[]⟩,np:=1,ext:=false }
abbrev Rf:Sg:= { bi:=⟨[(0,[[.F]]),(1,[[.S]])],[]⟩,bo:=⟨[(0,[[.S],[.S],[.S]])],[]⟩,np:=2,ext:=false }
abbrev Re:Sg:= { bi:=⟨[(0,[[.S]])],[(1000000,[.F, .S, .S])]⟩,bo:=⟨[(0,[[.S]])],[(1000000,[.F, .S, .S])]⟩,np:=1,no:=1 }
abbrev Rc:Sg:= { bi:=⟨[(0,[[.S]]),(1,[[.S]]),(2,[[.S]])],[]⟩,bo:=⟨[(0,[[.S]])],[]⟩,np:=3,ext:=false }
abbrev Rb:Sg:= { bi:=⟨[(0,[[.S]])],[(1000000,[.F, .S, .S])]⟩,bo:=⟨[(0,[[.S]])],[(1000000,[.F, .S, .S])]⟩,np:=1,no:=1 }
abbrev Ra:Sg:= { bi:=⟨[(0,[[.S]])],[(1000000,[.F, .S, .S])]⟩,bo:=⟨[(0,[[.S]])],[(1000000,[.F, .S, .S])]⟩,np:=1,no:=1 }
abbrev RZ:Sg:= { bi:=⟨[(0,[[.F]]),(1,[[.S]])],[]⟩,bo:=⟨[(0,[[.S]])],[]⟩,np:=2,ext:=false }
abbrev RY:Sg:= { bi:=⟨[(0,[[.S]])],[]⟩,bo:=⟨[(0,[[.S]])],[]⟩,np:=1,ext:=false }
abbrev RX:Sg:= { bi:=⟨[(0,[[.S]])],[]⟩,bo:=⟨[(0,[[.S]])],[]⟩,np:=1,ext:=false }
abbrev RU:Sg:= { bi:=⟨[(0,[[.F, .F]]),(1,[[.S]])],[]⟩,bo:=⟨[(0,[[.S]])],[]⟩,np:=2,ext:=false }
abbrev RT:Sg:= { bi:=⟨[(0,[[.F, .F]]),(1,[[.S, .S, .S, .F]]),(2,[[.S]])],[]⟩,bo:=⟨[(0,[[.S]])],[]⟩,np:=3,ext:=false }
abbrev RS:Sg:= { bi:=⟨[(0,[[.S, .S, .S, .F]])],[]⟩,bo:=⟨[(0,[[.U 0],[.S]])],[]⟩,np:=1,ext:=false }
abbrev RR:Sg:= { bi:=⟨[(0,[[.S, .S, .S, .F]]),(1,[[.S]]),(2,[[.S]]),(3,[[.S]])],[]⟩,bo:=⟨[(0,[[.S]])],[]⟩,np:=4,ext:=false }
abbrev RQ:Sg:= { bi:=⟨[(0,[[.S, .S, .S, .F]])],[]⟩,bo:=⟨[(0,[[.U 1]])],[]⟩,np:=1,ext:=false }
abbrev RO:Sg:= { bi:=⟨[(0,[[.F]]),(1,[[.F]])],[]⟩,bo:=⟨[(0,[[.S]])],[]⟩,np:=2,ext:=false }
abbrev RN:Sg:= { bi:=⟨[(0,[[.S]])],[]⟩,bo:=⟨[(0,[[.S]])],[]⟩,np:=1,ext:=false }
abbrev RM:Sg:= { bi:=⟨[(0,[[.S]])],[]⟩,bo:=⟨[(0,[[.S]])],[]⟩,np:=1,ext:=false }
abbrev RL:Sg:= { bi:=⟨[(0,[[.S]]),(1,[[.S]]),(2,[[.S]])],[(1000000,[.U 1, .S])]⟩,bo:=⟨[(0,[])],[(1000000,[.U 1, .S])]⟩,np:=3,no:=1 }
abbrev RK:Sg:= { bi:=⟨[(0,[[.S]]),(1,[[.S]]),(2,[[.S, .S, .S, .S]])],[(1000000,[.U 1, .S])]⟩,bo:=⟨[(0,[])],[(1000000,[.U 1, .S])]⟩,np:=3,no:=1 }
abbrev RJ:Sg:= { bi:=⟨[(0,[[.F]]),(1,[[.S]])],[]⟩,bo:=⟨[(0,[[.S]])],[]⟩,np:=2,ext:=false }
abbrev RI:Sg:= { bi:=⟨[(0,[[.F]]),(1,[[.S]])],[]⟩,bo:=⟨[(0,[[.S],[.S],[.S]])],[]⟩,np:=2,ext:=false }
abbrev RH:Sg:= { bi:=⟨[(0,[[.F]]),(1,[[.S]])],[]⟩,bo:=⟨[(0,[[.S],[.S],[.S]])],[]⟩,np:=2,ext:=false }
abbrev RG:Sg:= { bi:=⟨[(0,[[.F]]),(1,[[.S]])],[]⟩,bo:=⟨[(0,[[.S],[.S],[.S]])],[]⟩,np:=2,ext:=false }
abbrev RF:Sg:= { bi:=⟨[(0,[[.S]])],[]⟩,bo:=⟨[(0,[[.S]])],[]⟩,np:=1,ext:=false }
abbrev RE:Sg:= { bi:=⟨[(0,[[.S, .S, .S, .S]])],[]⟩,bo:=⟨[(0,[[.S],[.S]])],[]⟩,np:=1,ext:=false }
abbrev RD:Sg:= { bi:=⟨[(0,[[.U 0]]),(1,[[.S]]),(2,[[.S]])],[]⟩,bo:=⟨[(0,[[.S]]),(1,[[.U 0]])],[]⟩,np:=3,io:=some 0 }
abbrev RC:Sg:= { bi:=⟨[(0,[[.S, .S, .S, .F]]),(1,[[.S]])],[]⟩,bo:=⟨[(0,[[.S]])],[]⟩,np:=2,ext:=false }
abbrev RB:Sg:= { bi:=⟨[(0,[[.S, .S, .S, .S]]),(1,[[.S, .S, .S, .S]])],[]⟩,bo:=⟨[(0,[[.S]])],[]⟩,np:=2,ext:=false }
abbrev RA:Sg:= { bi:=⟨[(0,[[.S]])],[]⟩,bo:=⟨[(0,[[.S]])],[]⟩,np:=1,ext:=false }
abbrev Qz:Sg:= { bi:=⟨[(0,[[.S]])],[]⟩,bo:=⟨[(0,[[.S]])],[]⟩,np:=1,ext:=false }
abbrev Qy:Sg:= { bi:=⟨[(0,[[.S, .S, .S, .S]])],[]⟩,bo:=⟨[(0,[[.S]])],[]⟩,np:=1,ext:=false }
def Sgs:FuncId→List Sg
  | 8=> [sg8]
  | 32=> [sg32]
  | 34=> [sg34]
  | 35=> [sg35]
  | 36=> [sg36]
  | 38=> [sg38]
  | 44=> [sg44]
  | 45=> [sg45]
  | 53=> [sg53]
  | 54=> [sg54]
  | 55=> [sg55]
  | 56=> [sg56]
  | 88=> [sg88]
  | 102=> [SX]
  | 103=> [SW]
  | 104=> [SV]
  | 105=> [SU]
  | 106=> [ST]
  | 109=> [SR]
  | 110=> [SQ]
  | 111=> [SP]
  | 112=> [SO]
  | 113=> [SN]
  | 114=> [SM]
  | 115=> [SL]
  | 116=> [SK]
  | 128=> [SJ]
  | 129=> [SI]
  | 130=> [SH]
  | 131=> [SG]
  | 134=> [SF]
  | 138=> [SE]
  | 143=> [SC]
  | 144=> [SB]
  | 145=> [SA]
  | 146=> [Rz]
  | 147=> [Ry]
  | 148=> [Rx]
  | 149=> [Rw]
  | 150=> [Rv]
  | 151=> [Ru]
  | 155=> [Rt]
  | 159=> [Rs]
  | 193=> [Rr]
  | 194=> [Rq]
  | 197=> [Rp]
  | 198=> [Ro]
  | 199=> [Rn]
  | 212=> [Rm]
  | 213=> [Rl]
  | 214=> [Rk]
  | 215=> [Rj]
  | 216=> [Ri]
  | 217=> [Rh]
  | 220=> [Rg]
  | 228=> [Rf]
  | 229=> [Re]
  | 230=> [Rc]
  | 231=> [Rb]
  | 232=> [Ra]
  | 233=> [RZ]
  | 237=> [RY]
  | 238=> [RX]
  | 257=> [RU]
  | 258=> [RT]
  | 259=> [RS]
  | 260=> [RR]
  | 261=> [RQ]
  | 263=> [RO]
  | 268=> [RN]
  | 271=> [RM]
  | 272=> [RL]
  | 273=> [RK]
  | 274=> [RJ]
  | 278=> [RI]
  | 279=> [RH]
  | 280=> [RG]
  | 286=> [RF]
  | 289=> [RE]
  | 290=> [RD]
  | 291=> [RC]
  | 293=> [RB]
  | 298=> [RA]
  | 299=> [Qz]
  | 301=> [Qy]
  | _=> []
end Go.Own
