/- What is told of the functions: shapes and kinds. No conditions. -/
import Derived.Test.YtloebajamceclaaProg
import Derived.KernelRfl
import Derived.Test.YtloebajamceclaaOwn4
set_option linter.unusedVariables false
set_option linter.unusedSimpArgs false
set_option linter.unnecessarySimpa false
namespace Go.Own
open Go Go.Proofs
def τ:TypeId→Option TI
  | 3=>some { size:=1,bytes:=8,zero:=[.int .i64 0],agg:=false,kind:= .int .i64 }
  | 4=>some { size:=1,bytes:=1,zero:=[.bool false],agg:=false,kind:= .bool }
  | 5=>some { size:=1,bytes:=1,zero:=[.int .u8 0],agg:=false,kind:= .int .u8 }
  | 9=>some { size:=1,bytes:=16,zero:=[.str []],agg:=false,kind:= .str }
  | 22=>some { size:=1,bytes:=24,zero:=[.sl []],agg:=false,kind:= .sl 25 }
  | 23=>some { size:=1,bytes:=24,zero:=[.sl []],agg:=false,kind:= .sl 124 }
  | 25=>some { size:=5,bytes:=80,zero:=[.int .i64 0, .int .i64 0, .str [], .sl [], .sl []],agg:=true,kind:= .struct [(0,1,false),(1,1,false),(2,1,false),(3,1,false),(4,1,false)] }
  | 34=>some { size:=1,bytes:=24,zero:=[.sl []],agg:=false,kind:= .sl 37 }
  | 35=>some { size:=1,bytes:=24,zero:=[.sl []],agg:=false,kind:= .sl 132 }
  | 37=>some { size:=5,bytes:=80,zero:=[.int .i64 0, .int .i64 0, .str [], .sl [], .sl []],agg:=true,kind:= .struct [(0,1,false),(1,1,false),(2,1,false),(3,1,false),(4,1,false)] }
  | 47=>some { size:=1,bytes:=24,zero:=[.sl []],agg:=false,kind:= .sl 5 }
  | 62=>some { size:=1,bytes:=24,zero:=[.sl []],agg:=false,kind:= .sl 155 }
  | 64=>some { size:=1,bytes:=24,zero:=[.sl []],agg:=true,kind:= .struct [(0,1,false)] }
  | 66=>some { size:=1,bytes:=24,zero:=[.sl []],agg:=false,kind:= .sl 117 }
  | 68=>some { size:=1,bytes:=24,zero:=[.sl []],agg:=true,kind:= .struct [(0,1,false)] }
  | 115=>some { size:=1,bytes:=24,zero:=[.sl []],agg:=false,kind:= .sl 9 }
  | 117=>some { size:=7,bytes:=120,zero:=[.str [], .sl [], .int .i64 0, .int .i64 0, .str [], .sl [], .sl []],agg:=true,kind:= .struct [(0,1,false),(1,1,false),(2,5,true)] }
  | 124=>some { size:=10,bytes:=160,zero:=[.int .i64 0, .int .i64 0, .str [], .sl [], .sl [], .int .i64 0, .int .i64 0, .str [], .sl [], .sl []],agg:=true,kind:= .struct [(0,5,true),(5,5,true)] }
  | 132=>some { size:=10,bytes:=160,zero:=[.int .i64 0, .int .i64 0, .str [], .sl [], .sl [], .int .i64 0, .int .i64 0, .str [], .sl [], .sl []],agg:=true,kind:= .struct [(0,5,true),(5,5,true)] }
  | 147=>some { size:=2,bytes:=32,zero:=[.int .i64 0, .sl []],agg:=true,kind:= .struct [(0,1,false),(1,1,false)] }
  | 155=>some { size:=7,bytes:=120,zero:=[.str [], .sl [], .int .i64 0, .int .i64 0, .str [], .sl [], .sl []],agg:=true,kind:= .struct [(0,1,false),(1,1,false),(2,5,true)] }
  | _=>none
set_option maxRecDepth 100000 in
theorem Te:bH Try.prog τ:=by
  intro t i h; unfold τ at h; split at h<;>(try cases h)
  · exact⟨_,_,_,rfl,rfl,rfl,rfl,rfl,rfl,rfl,by decide,rfl,rfl,nofun⟩
  · exact⟨_,_,_,rfl,rfl,rfl,rfl,rfl,rfl,rfl,by decide,rfl,rfl,nofun⟩
  · exact⟨_,_,_,rfl,rfl,rfl,rfl,rfl,rfl,rfl,by decide,rfl,rfl,nofun⟩
  · exact⟨_,_,_,rfl,rfl,rfl,rfl,rfl,rfl,rfl,by decide,rfl,rfl,nofun⟩
  · exact⟨_,_,_,rfl,rfl,rfl,rfl,rfl,rfl,rfl,by decide,rfl,rfl,nofun⟩
  · exact⟨_,_,_,rfl,rfl,rfl,rfl,rfl,rfl,rfl,by decide,rfl,rfl,nofun⟩
  · refine⟨_,_,_,rfl,rfl,rfl,rfl,rfl,rfl,rfl,by decide,rfl,⟨_,rfl,rfl,fun j f hf=> ?_⟩,nofun⟩
    match j with
    | 0=>simp at hf; subst hf; exact⟨_,_,rfl,rfl,rfl,rfl,by decide,rfl,rfl⟩
    | 1=>simp at hf; subst hf; exact⟨_,_,rfl,rfl,rfl,rfl,by decide,rfl,rfl⟩
    | 2=>simp at hf; subst hf; exact⟨_,_,rfl,rfl,rfl,rfl,by decide,rfl,rfl⟩
    | 3=>simp at hf; subst hf; exact⟨_,_,rfl,rfl,rfl,rfl,by decide,rfl,rfl⟩
    | 4=>simp at hf; subst hf; exact⟨_,_,rfl,rfl,rfl,rfl,by decide,rfl,rfl⟩
    | j+5=>simp at hf
  · exact⟨_,_,_,rfl,rfl,rfl,rfl,rfl,rfl,rfl,by decide,rfl,rfl,nofun⟩
  · exact⟨_,_,_,rfl,rfl,rfl,rfl,rfl,rfl,rfl,by decide,rfl,rfl,nofun⟩
  · refine⟨_,_,_,rfl,rfl,rfl,rfl,rfl,rfl,rfl,by decide,rfl,⟨_,rfl,rfl,fun j f hf=> ?_⟩,nofun⟩
    match j with
    | 0=>simp at hf; subst hf; exact⟨_,_,rfl,rfl,rfl,rfl,by decide,rfl,rfl⟩
    | 1=>simp at hf; subst hf; exact⟨_,_,rfl,rfl,rfl,rfl,by decide,rfl,rfl⟩
    | 2=>simp at hf; subst hf; exact⟨_,_,rfl,rfl,rfl,rfl,by decide,rfl,rfl⟩
    | 3=>simp at hf; subst hf; exact⟨_,_,rfl,rfl,rfl,rfl,by decide,rfl,rfl⟩
    | 4=>simp at hf; subst hf; exact⟨_,_,rfl,rfl,rfl,rfl,by decide,rfl,rfl⟩
    | j+5=>simp at hf
  · exact⟨_,_,_,rfl,rfl,rfl,rfl,rfl,rfl,rfl,by decide,rfl,rfl,nofun⟩
  · exact⟨_,_,_,rfl,rfl,rfl,rfl,rfl,rfl,rfl,by decide,rfl,rfl,nofun⟩
  · refine⟨_,_,_,rfl,rfl,rfl,rfl,rfl,rfl,rfl,by decide,rfl,⟨_,rfl,rfl,fun j f hf=> ?_⟩,nofun⟩
    match j with
    | 0=>simp at hf; subst hf; exact⟨_,_,rfl,rfl,rfl,rfl,by decide,rfl,rfl⟩
    | j+1=>simp at hf
  · exact⟨_,_,_,rfl,rfl,rfl,rfl,rfl,rfl,rfl,by decide,rfl,rfl,nofun⟩
  · refine⟨_,_,_,rfl,rfl,rfl,rfl,rfl,rfl,rfl,by decide,rfl,⟨_,rfl,rfl,fun j f hf=> ?_⟩,nofun⟩
    match j with
    | 0=>simp at hf; subst hf; exact⟨_,_,rfl,rfl,rfl,rfl,by decide,rfl,rfl⟩
    | j+1=>simp at hf
  · exact⟨_,_,_,rfl,rfl,rfl,rfl,rfl,rfl,rfl,by decide,rfl,rfl,nofun⟩
  · refine⟨_,_,_,rfl,rfl,rfl,rfl,rfl,rfl,rfl,by decide,rfl,⟨_,rfl,rfl,fun j f hf=> ?_⟩,nofun⟩
    match j with
    | 0=>simp at hf; subst hf; exact⟨_,_,rfl,rfl,rfl,rfl,by decide,rfl,rfl⟩
    | 1=>simp at hf; subst hf; exact⟨_,_,rfl,rfl,rfl,rfl,by decide,rfl,rfl⟩
    | 2=>simp at hf; subst hf; exact⟨_,_,rfl,rfl,rfl,rfl,by decide,rfl,rfl⟩
    | j+3=>simp at hf
  · refine⟨_,_,_,rfl,rfl,rfl,rfl,rfl,rfl,rfl,by decide,rfl,⟨_,rfl,rfl,fun j f hf=> ?_⟩,nofun⟩
    match j with
    | 0=>simp at hf; subst hf; exact⟨_,_,rfl,rfl,rfl,rfl,by decide,rfl,rfl⟩
    | 1=>simp at hf; subst hf; exact⟨_,_,rfl,rfl,rfl,rfl,by decide,rfl,rfl⟩
    | j+2=>simp at hf
  · refine⟨_,_,_,rfl,rfl,rfl,rfl,rfl,rfl,rfl,by decide,rfl,⟨_,rfl,rfl,fun j f hf=> ?_⟩,nofun⟩
    match j with
    | 0=>simp at hf; subst hf; exact⟨_,_,rfl,rfl,rfl,rfl,by decide,rfl,rfl⟩
    | 1=>simp at hf; subst hf; exact⟨_,_,rfl,rfl,rfl,rfl,by decide,rfl,rfl⟩
    | j+2=>simp at hf
  · refine⟨_,_,_,rfl,rfl,rfl,rfl,rfl,rfl,rfl,by decide,rfl,⟨_,rfl,rfl,fun j f hf=> ?_⟩,nofun⟩
    match j with
    | 0=>simp at hf; subst hf; exact⟨_,_,rfl,rfl,rfl,rfl,by decide,rfl,rfl⟩
    | 1=>simp at hf; subst hf; exact⟨_,_,rfl,rfl,rfl,rfl,by decide,rfl,rfl⟩
    | j+2=>simp at hf
  · refine⟨_,_,_,rfl,rfl,rfl,rfl,rfl,rfl,rfl,by decide,rfl,⟨_,rfl,rfl,fun j f hf=> ?_⟩,nofun⟩
    match j with
    | 0=>simp at hf; subst hf; exact⟨_,_,rfl,rfl,rfl,rfl,by decide,rfl,rfl⟩
    | 1=>simp at hf; subst hf; exact⟨_,_,rfl,rfl,rfl,rfl,by decide,rfl,rfl⟩
    | 2=>simp at hf; subst hf; exact⟨_,_,rfl,rfl,rfl,rfl,by decide,rfl,rfl⟩
    | j+3=>simp at hf
abbrev vi:V:= .one (.c (.int .i64 0))
abbrev vy:V:= .one (.c (.int .u8 0))
abbrev vb:V:= .one (.c (.bool false))
abbrev vl:V:= .one (.c (.sl []))
abbrev vs:V:= .one (.c (.str []))
abbrev vj:V:= .one .junk
abbrev tl0:List T:=[.int .i64 0, .int .i64 0, .str [], .sl [], .sl []]
abbrev tl1:List T:=[.int .i64 0, .int .i64 0, .str [], .sl [], .sl [], .int .i64 0, .int .i64 0, .str [], .sl [], .sl []]
abbrev tl2:List T:=[.str [], .sl [], .int .i64 0, .int .i64 0, .str [], .sl [], .sl []]
abbrev tl3:List T:=[.int .i64 0, .sl []]
abbrev x0:B:=⟨[(0,[[.S]])],[]⟩
abbrev x1:B:=⟨[(0,[[.F]]),(1,[[.S]])],[]⟩
abbrev x2:B:=⟨[(0,[[.S, .S, .S, .F, .F]])],[]⟩
abbrev x3:B:=⟨[(0,[[.F]])],[]⟩
abbrev x4:B:=⟨[(0,[[.F]]),(1,[[.F]])],[]⟩
abbrev x5:B:=⟨[(0,[[.S, .S, .S, .U 5, .U 10]])],[]⟩
abbrev x6:B:=⟨[(0,[[.U 0]]),(1,[[.S]])],[]⟩
abbrev x7:B:=⟨[(0,[[.S]]),(1,[[.U 0]])],[]⟩
abbrev x8:B:=⟨[(0,[[.F]]),(1,[[.S]]),(2,[[.S]])],[]⟩
abbrev x9:B:=⟨[(0,[[.S, .F, .S, .S, .S, .F, .F]])],[]⟩
abbrev x10:B:=⟨[(0,[[.S]]),(1,[[.S, .S, .S, .F, .F]]),(2,[[.S]])],[(1000000,[.S, .A 1])]⟩
abbrev x11:B:=⟨[(0,[[.U 7]])],[]⟩
abbrev x12:B:=⟨[(0,[[.A 1]])],[]⟩
abbrev x13:B:=⟨[(0,[[.S, .S, .S, .F, .F]]),(1,[[.S]])],[]⟩
abbrev x14:B:=⟨[(0,[])],[(1000000,[.F]),(1000001,[.S])]⟩
abbrev x15:B:=⟨[(0,[[.S]]),(1,[[.S]]),(2,[[.S]])],[]⟩
abbrev x16:B:=⟨[(0,[[.S]])],[(1000000,[.S, .A 1])]⟩
abbrev x17:B:=⟨[(0,[[.U 1]])],[]⟩
abbrev x18:B:=⟨[(0,[[.S]])],[(1000000,[.S])]⟩
abbrev x19:B:=⟨[(0,[[.U 7],[.S]])],[]⟩
abbrev y0:V:= .one (.ag tl0)
abbrev y1:V:= .one (.ag [.sl []])
abbrev y2:V:= .one (.pp (.s 0 0 0) [] 0 0)
abbrev y3:V:= .one (.ptr 1000000 0)
abbrev y4:V:= .one (.ptr 1 0)
abbrev y5:V:= .one (.ptr 2 0)
abbrev y6:V:= .one (.cp tl0)
abbrev y7:V:= .one (.al (.s 0 0 0) [])
abbrev y8:V:= .one (.ptr 3 0)
abbrev y9:V:= .one (.cp [.str []])
abbrev y10:V:= .one (.cp tl1)
abbrev y11:V:= .one (.ag tl2)
abbrev y12:V:= .one (.cp tl2)
abbrev y13:V:= .one (.al (.s 0 0 0) [(0,0)])
abbrev y14:V:= .one (.ag tl1)
abbrev y15:V:= .one (.pp (.s 0 0 0) [] 0 2)
abbrev y16:V:= .tup [.ag [.sl []], .c (.bool false)]
abbrev y17:V:= .one (.ptr 3 3)
abbrev y18:V:= .one (.pp (.oc 8 0) [] 0 0)
abbrev y19:V:= .one (.cp [.sl []])
abbrev y20:V:= .one (.ptr 4 0)
abbrev y21:V:= .one (.pp (.s 0 0 0) [] 0 5)
abbrev y22:V:= .one (.cp [.int .i64 0])
abbrev y23:V:= .one (.ptr 3 4)
abbrev y24:V:= .one (.ptr 2 2)
abbrev y25:V:= .one (.ptr 8 0)
abbrev y26:V:= .one (.ptr 3 2)
abbrev y27:V:= .one (.fn 151 [(1000000,0),(1000001,0)])
abbrev y28:V:= .one (.ptr 5 0)
abbrev y29:V:= .one (.ptr 1 2)
abbrev y30:V:= .one (.al (.oc 8 0) [])
abbrev y31:V:= .one (.ptr 1 1)
abbrev y32:V:= .one (.ptr 4 4)
abbrev y33:V:= .one (.ptr 4 2)
abbrev y34:V:= .one (.ptr 3 1)
abbrev y35:V:= .one (.ptr 1 3)
abbrev y36:V:= .one (.pp (.s 3 0 0) [] 0 0)
abbrev y37:V:= .one (.al (.s 3 0 0) [])
abbrev y38:V:= .one (.ptr 7 0)
abbrev y39:V:= .one (.ptr 4 3)
abbrev y40:V:= .one (.ptr 1 4)
abbrev y41:V:= .one (.ptr 1000000 1)
abbrev y42:V:= .one (.pp (.s 0 0 0) [] 0 4)
abbrev y43:V:= .one (.pp (.s 0 0 0) [] 0 3)
abbrev y44:V:= .one (.pp (.s 0 0 0) [] 0 1)
abbrev y45:V:= .one (.ptr 5 2)
abbrev y46:V:= .one (.ptr 2 4)
abbrev y47:V:= .one (.ptr 2 1)
abbrev y48:V:= .one (.pp (.oc 8 0) [] 0 2)
abbrev y49:V:= .one (.ptr 11 0)
abbrev y50:V:= .one (.ptr 6 0)
abbrev y51:V:= .one (.ptr 4 1)
abbrev y52:V:= .one (.ptr 2 3)
abbrev y53:V:= .one (.ptr 10 0)
abbrev y54:V:= .one (.fn 119 [(1000000,0)])
abbrev y55:V:= .one (.pp (.s 0 0 0) [] 0 6)
abbrev y56:V:= .one (.ptr 7 5)
abbrev y57:V:= .one (.ptr 5 4)
abbrev y58:V:= .one (.pp (.oc 3 4) [] 0 5)
abbrev y59:V:= .one (.pp (.oc 3 4) [] 0 0)
abbrev y60:V:= .one (.pp (.oc 3 3) [] 0 0)
def F6:FA:= { n:=112,sh:=[y1,vs,vs,y8,vj,vj,vb,vi,y25,vb,y53,y49,vb,vi,vi,vi, .one (.ptr 16 0),vb,vs,vi,vb,vs,vi,vb,y1,vi,vi,vi,vb,y16,y1,y1,vs,vs,y16,y1,vb,y1,y1,y16,y1,vs,vs,y16,y1,vb,y1,y1,vb,vb,vb,vb,vb,vb,vb,y1,y1,y1,vb,vb,y1,vi,vi,vi,vb,vb,y1,y1,vb,vb,vb,vb,vb,vb,vb,vb,y1,vi,vi,y1,vi,vi,vi,vb,vi,vi,vb,y16,y1,y1,vs,vs,y16,y1,vb,y1,y1,vb,vb,vb,vb,vb,vb,vb,y1,vi,vi,vi,vb,vi,vi,vb],obs:=[(3,[.sl []]),(8,[.sl []]),(10,[.sl []]),(11,[.sl []]),(16,[.sl []])],tk:=[25,27,29,39,50,60,61,63,65,71,72,77,80,84,87,88,90,91,95,96,99,100,101,104,105,109,110],keep:=[(0,[1,2,3]),(1,[1,2,3,20]),(2,[6]),(3,[1,2,3,23]),(4,[6]),(5,[1,2,3,7]),(6,[1,2,3,7]),(7,[1,2,3,28]),(8,[6]),(9,[1,2,3,8,9]),(10,[1,2,3,8,9,10]),(11,[1,2,3,8,9,10,11,12]),(12,[1,2,3,8,9,10,11,12,54]),(13,[6]),(14,[1,2,3,8,9,10,11,12,59]),(15,[6]),(16,[1,2,3,8,9,10,11,12,13]),(17,[1,2,3,8,9,11,12,13]),(18,[1,2,3,8,9,11,75]),(19,[6]),(20,[1,2,3,8,9,11,14]),(21,[1,2,3,8,9,11,14]),(22,[1,2,3,8,9,11,14,15]),(23,[1,2,3,8,9,11,14,15]),(24,[1,2,3,8,9,11,14,15,83]),(25,[6]),(26,[1,2,3,8,9,11,14,86]),(27,[6]),(28,[8,9,11,14,16,17]),(29,[11,14,103]),(30,[6]),(31,[11,14,15]),(32,[14,15]),(33,[14,15,108]),(34,[6]),(35,[111]),(36,[6]),(37,[6])],mks:=[(17,[(0,83)]),(21,[(0,83)])] }
def F7:FA:= { n:=25,sh:=[y0,vi,y5,vj,vi,vi,y24,vs,vi,vi,vi,vb,y52,vl,vi,vi,vi,vb,y46,vl,vi,vi,vi,vb,vi],obs:=[(2,tl0)],tk:=[5,7,13,14,19,20,24],keep:=[(0,[1,2]),(1,[1,2]),(2,[1,2,11]),(3,[4]),(4,[1,2]),(5,[1,2,17]),(6,[4]),(7,[1]),(8,[1,23]),(9,[4]),(10,[4])] }
def F10:FA:= { n:=22,sh:=[y0,y4,y5,y8,y4,vi,y8,y31,vi,y34,y29,vs,y26,y35,vl,vl,y17,y40,vl,vl,y23,y0],obs:=[(1,tl0),(2,tl0),(3,tl0)],tk:=[5,8,11,14,18,21],keep:=[(0,[1,2]),(1,[1,2,3]),(2,[1,2,3]),(3,[1,2,3]),(4,[1,2,3]),(5,[1,2,3]),(6,[2,3]),(7,[2])] }
def F15:FA:= { n:=32,sh:=[y0,y0,y5,y8,vb,y5,vi,y8,vi,vb,y47,vi,y34,vi,vb,y24,vs,y26,vs,vb,y52,vl,y17,vl,vb,vb,y46,vl,y23,vl,vb,vb],obs:=[(2,tl0),(3,tl0)],tk:=[6,8,11,13,16,18,21,23,27,29],keep:=[(0,[2,3]),(1,[2,3,9]),(2,[4]),(3,[2,3,14]),(4,[4]),(5,[2,3,19]),(6,[4]),(7,[2,3,25]),(8,[4]),(9,[31]),(10,[4]),(11,[4])] }
def F32:FA:= { n:=12,sh:=[y1,vi,y5,vj,vi,y5,vl,vi,vi,vi,vb,vi],obs:=[(2,[.sl []])],tk:=[6,7,11],keep:=[(0,[1,2]),(1,[1]),(2,[1,10]),(3,[4]),(4,[4])] }
def F33:FA:= { n:=63,sh:=[y1,vs,vs,y8,vj,vj,y50,vb,y25,vi,vi,y1,y1,y1,vs,vi,y1,vb,vb,vb,vi,vb,vb,vb,vs,vb,vb,vb,vb,y1,vs,vi,vb,vb,y1,y25,y30,vi,vs,y18,y18,vi,y25,vl,vi,vb,vi,vi,y25,y30,vi,y25,y30,vi,y18,y48,y0,vs,vs,y0,y18,y48,y1],obs:=[(3,[.sl []]),(6,[.sl []]),(8,[.sl []])],al:=[36,49,52],tk:=[19,23,28,29,34,37,46,56,62],keep:=[(0,[1,2,3,6]),(1,[1,2,3,6,8]),(2,[1,2,3,6,8,9]),(3,[1,2,6,8,9,33]),(4,[6,7]),(5,[1,2,6,8]),(6,[1,2,6,8,10]),(7,[1,2,6,8,10,45]),(8,[1,2,6,8,10]),(9,[1,2,6,8,10]),(10,[6,7])] }
def F34:FA:= { n:=9,sh:=[y1,y4,y5,y8,y4,vl,vl,y8,y1],obs:=[(1,[.sl []]),(2,[.sl []]),(3,[.sl []])],tk:=[5,8],keep:=[(0,[1,2]),(1,[1,2,3]),(2,[2,3]),(3,[2])] }
def F35:FA:= { n:=62,sh:=[y1,vs,vs,y8,vj,vj,y50,vb,y25,vi,vi,y49,y1,y1,y1,vs,vi,vi,vb,vb,vs,vb,vb,vb,vb,y1,vs,vi,vb,vb,vb,y1,vb,vb,vb,y1,y25,y30,vi,vs,y18,y18,y25,y30,vi,vi,vb,vi,y18,y11,y25,y30,vi, .one (.ptr 11 2),y0,vs,vs,y0,y18,y48,vi,y1],obs:=[(3,[.sl []]),(6,[.sl []]),(8,[.sl []]),(11,tl2)],al:=[37,43,51],tk:=[19,24,30,31,35,38,45,52,54,61],keep:=[(0,[1,2,3,6]),(1,[1,2,3,6,8]),(2,[1,2,3,6,8,9]),(3,[1,2,6,8,9,34]),(4,[6,7]),(5,[1,2,6,8]),(6,[1,2,6,8,43,44,45]),(7,[1,2,6,8,43,44,45,46]),(8,[1,2,6,8,10,11,43,44,45]),(9,[1,2,6,8,43,44,45]),(10,[1,2,6,8,43,44,45]),(11,[6,7])] }
def F36:FA:= { n:=11,sh:=[y1,y1,y5,y8,vb,y5,vl,y8,vl,vb,vb],obs:=[(2,[.sl []]),(3,[.sl []])],tk:=[6,8],keep:=[(0,[2,3]),(1,[10]),(2,[4]),(3,[4])] }
def F38:FA:= { n:=12,sh:=[y1,vi,y5,vj,vi,y5,vl,vi,vi,vi,vb,vi],obs:=[(2,[.sl []])],tk:=[6,7,11],keep:=[(0,[1,2]),(1,[1]),(2,[1,10]),(3,[4]),(4,[4])] }
def F39:FA:= { n:=27,sh:=[vl,vi,vj,vj,vi,vi,vi,vl,vi,vi,vi,vb,vi,vl,vi,vb,vi,vi,vl,vi,y6,y0,vi,vi,vi,vb,vi],obs:=[],tk:=[6,16,22,26],keep:=[(0,[0,1]),(1,[0,1]),(2,[0,1,11]),(3,[4]),(4,[0,1,5]),(5,[0,1,5,15]),(6,[0,1,5]),(7,[0,1,5]),(8,[0,1,5,25]),(9,[4]),(10,[4])] }
def F40:FA:= { n:=27,sh:=[vl,vi,vj,vj,vi,vi,vi,vl,vi,vi,vi,vb,vi,vl,vi,vb,vi,vi,vl,vi,y10,y14,vi,vi,vi,vb,vi],obs:=[],tk:=[6,16,22,26],keep:=[(0,[0,1]),(1,[0,1]),(2,[0,1,11]),(3,[4]),(4,[0,1,5]),(5,[0,1,5,15]),(6,[0,1,5]),(7,[0,1,5]),(8,[0,1,5,25]),(9,[4]),(10,[4])] }
def F46:FA:= { n:=23,sh:=[vl,vj,vl,vl,vi,vl,vi,vl,vi,vl,vi,vb,vi,vi,y37,vi,vl,vi,y6,y0,y0,y36,vl],obs:=[],al:=[14],tk:=[12,22],keep:=[(0,[0]),(1,[0,3]),(2,[0,3,4]),(3,[0,3,4,11]),(4,[0,3,4]),(5,[0,3,4]),(6,[2])] }
def F47:FA:= { n:=23,sh:=[vl,vj,vl,vl,vi,vl,vi,vl,vi,vl,vi,vb,vi,vi,y37,vi,vl,vi,y10,y14,y14,y36,vl],obs:=[],al:=[14],tk:=[12,22],keep:=[(0,[0]),(1,[0,3]),(2,[0,3,4]),(3,[0,3,4,11]),(4,[0,3,4]),(5,[0,3,4]),(6,[2])] }
def F51:FA:= { n:=27,sh:=[vl,vl,vj,vj,vb,vi,vl,vi,vl,vi,vb,vi,vl,vi,vb,vi,vi,vl,vi,y6,y0,vl,vi,y6,y0,vb,vb],obs:=[],tk:=[15],keep:=[(0,[0,1]),(1,[0,1,10]),(2,[4]),(3,[0,1,5]),(4,[0,1,5,14]),(5,[0,1,5]),(6,[0,1,5,26]),(7,[4]),(8,[4])] }
def F52:FA:= { n:=27,sh:=[vl,vl,vj,vj,vb,vi,vl,vi,vl,vi,vb,vi,vl,vi,vb,vi,vi,vl,vi,y10,y14,vl,vi,y10,y14,vb,vb],obs:=[],tk:=[15],keep:=[(0,[0,1]),(1,[0,1,10]),(2,[4]),(3,[0,1,5]),(4,[0,1,5,14]),(5,[0,1,5]),(6,[0,1,5,26]),(7,[4]),(8,[4])] }
def F53:FA:= { n:=49,sh:=[vl,vi,vj,vj,vi,vi,vi,vl,vi,vb,vi,vi,y7,vi,vi,y2,y2,vi,vi,y7,vi,vi,y2,y44,vi,vi,y7,vi,vi,vs,y2,y15,vi,vi,y7,vi,y2,y43,y13,vi,vi,y7,vi,y2,y42,y13,vi,vi,vi],obs:=[],al:=[12,19,26,34,38,41,45],tk:=[10,17,24,32,39,46,48],keep:=[(0,[0,1]),(1,[0,1,5]),(2,[0,1,5,9]),(3,[0,1,5]),(4,[0,1,5]),(5,[0,1,5]),(6,[0,1,5]),(7,[0,1,5]),(8,[0,1,5]),(9,[0,1,5]),(10,[0,1,5]),(11,[0,1,5]),(12,[0,4])],io:=some 0,ioa:=[38,45] }
def F54:FA:= { n:=95,sh:=[vl,vi,vj,vj,vi,vi,vi,vl,vi,vb,vi,vi,y7,vi,vi,y2,y2,y2,vi,vi,y7,vi,vi,y2,y2,y44,vi,vi,y7,vi,vi,vs,y2,y2,y15,vi,vi,y7,vi,y2,y2,y43,y13,vi,vi,y7,vi,y2,y2,y42,y13,vi,vi,y7,vi,vi,y2,y21,y21,vi,vi,y7,vi,vi,y2,y21,y55,vi,vi,y7,vi,vi,vs,y2,y21, .one (.pp (.s 0 0 0) [] 0 7),vi,vi,y7,vi,y2,y21, .one (.pp (.s 0 0 0) [] 0 8),y13,vi,vi,y7,vi,y2,y21, .one (.pp (.s 0 0 0) [] 0 9),y13,vi,vi,vi],obs:=[],al:=[12,20,28,37,42,45,50,53,61,69,78,83,86,91],tk:=[10,18,26,35,43,51,59,67,76,84,92,94],keep:=[(0,[0,1]),(1,[0,1,5]),(2,[0,1,5,9]),(3,[0,1,5]),(4,[0,1,5]),(5,[0,1,5]),(6,[0,1,5]),(7,[0,1,5]),(8,[0,1,5]),(9,[0,1,5]),(10,[0,1,5]),(11,[0,1,5]),(12,[0,1,5]),(13,[0,1,5]),(14,[0,1,5]),(15,[0,1,5]),(16,[0,1,5]),(17,[0,1,5]),(18,[0,1,5]),(19,[0,1,5]),(20,[0,4])],io:=some 0,ioa:=[42,50,83,91] }
def F55:FA:= { n:=20,sh:=[vi,vj,vs,vs,vi,vb,vi,vb,vi,vi,vi,vy,vl,vs,vs,vs,vi,vi,vs,vs],obs:=[],tk:=[14,16,18],dp:=[12],keep:=[(0,[0]),(1,[0,5]),(2,[2]),(3,[0,3]),(4,[0,3,7]),(5,[0,3]),(6,[0,3]),(7,[2])] }
def F70:FA:= { n:=27,sh:=[vl,vi,vj,vj,vi,vi,vi,vl,vi,vi,vi,vb,vi,vl,vi,vb,vi,vi,vl,vi,y12,y11,vi,vi,vi,vb,vi],obs:=[],tk:=[6,16,22,26],keep:=[(0,[0,1]),(1,[0,1]),(2,[0,1,11]),(3,[4]),(4,[0,1,5]),(5,[0,1,5,15]),(6,[0,1,5]),(7,[0,1,5]),(8,[0,1,5,25]),(9,[4]),(10,[4])] }
def F71:FA:= { n:=35,sh:=[y1,y4,y5,y8,vi,y28,y1,vi,y4,vl,vi,vb,vi,vi,y4,vl,vi,y12,y11,y8,vl,y28,vs,vl, .one (.ptr 5 1),vl,vl,y45,y0,y0,y11,vl,vl,y8,y1],obs:=[(1,[.sl []]),(2,[.sl []]),(3,[.sl []]),(5,tl2)],tk:=[12,20,22,25,28,34],dp:=[23,26,31,32],keep:=[(0,[1,2]),(1,[1,2,3]),(2,[1,2,3,4]),(3,[1,2,3,4,11]),(4,[1,2,3,4]),(5,[1,2,3,4,5]),(6,[1,2,3,4]),(7,[2])] }
def F72:FA:= { n:=22,sh:=[y1,vs,y5,vj,vi,vi,vi,y5,vl,vi,vb,vi,vi,y5,vl,vi,y12,y9,vs,vs,vb,vi],obs:=[(2,[.sl []])],tk:=[11,21],keep:=[(0,[1,2]),(1,[1,2,5]),(2,[1,2,5,10]),(3,[1,2,5]),(4,[1,2,5,20]),(5,[4]),(6,[4])] }
def F73:FA:= { n:=58,sh:=[y1,y4,vb,vi,y20,vl,vi,y1,vb,vb,vi,y4,vl,vi,vb,vi,vi,y4,vl,vi,y12,y11,y33,y0,vl,vi,vl,vi,vb,vi,vi,y51,vl,vl,vi,y9,vs,vb,vb,y1,y20,vs,vi,vi,vb,vb,y51,vl,vb,vb,vb,vb,y1,y33,y0,vb,vb,vb],obs:=[(1,[.sl []]),(4,tl2)],tk:=[15,29,41,45,47,51,54],keep:=[(0,[1]),(1,[1,9]),(2,[2]),(3,[1,3]),(4,[1,3,14]),(5,[1,3]),(6,[1,3,4]),(7,[1,3,4,5]),(8,[1,3,4,5,6]),(9,[1,3,4,5,6,28]),(10,[1,3,4,5,6]),(11,[1,3,4,5,6,38]),(12,[2]),(13,[1,3,57]),(14,[2]),(15,[2])] }
def F74:FA:= { n:=10,sh:=[vs,vj,vb,vs,vb,vb,vs,vb,vb,vb],obs:=[],tk:=[5,6],keep:=[(0,[0]),(1,[2])] }
def F75:FA:= { n:=61,sh:=[y0,vs,vs,y8,vj,vj,y50,vi,vi,y8,vi,vb,vb,y26,vs,vs,vb,vb,vs,y26,vi,y17,vl,vi,vb,vi,vi,y17, .one (.al (.oc 3 3) []),vi,y17, .one (.al (.oc 3 3) []),vi,y60,y0,vs,vs,y0,y60,vi,y23,vl,vi,vb,vi,vi,y23, .one (.al (.oc 3 4) []),vi,y23, .one (.al (.oc 3 4) []),vi,y59,y58,y0,vs,vs,y0,y59,y58,y0],obs:=[(3,tl0),(6,tl0)],al:=[28,31,47,50],tk:=[12,25,34,44,54,60],keep:=[(0,[1,2,3,6]),(1,[1,2,3,6,17]),(2,[1,2,3,6]),(3,[1,2,3,6,7]),(4,[1,2,3,6,7,24]),(5,[1,2,3,6,7]),(6,[1,2,3,6,7]),(7,[1,2,3,6,8]),(8,[1,2,3,6,8,43]),(9,[1,2,3,6,8]),(10,[1,2,3,6,8]),(11,[6])] }
def F76:FA:= { n:=23,sh:=[vl,vj,vl,vl,vi,vl,vi,vl,vi,vl,vi,vb,vi,vi,y37,vi,vl,vi,y12,y11,y11,y36,vl],obs:=[],al:=[14],tk:=[12,22],keep:=[(0,[0]),(1,[0,3]),(2,[0,3,4]),(3,[0,3,4,11]),(4,[0,3,4]),(5,[0,3,4]),(6,[2])] }
def F77:FA:= { n:=31,sh:=[y1,y4,y5,y8,vj,y28,vl,y4,vl,vi,vi,vb,y12,y11, .one (.ptr 5 1),vl,vl,y8,vl,y28,vs,vl,y45,y0,y0,y11,vl,vl,y8,vi,y1],obs:=[(1,[.sl []]),(2,[.sl []]),(3,[.sl []]),(5,tl2)],tk:=[8,10,15,18,20,21,23,30],dp:=[16,26,27],keep:=[(0,[1,2]),(1,[1,2,3]),(2,[2,3,8,9,10]),(3,[2,3,8,9,10,11]),(4,[2,3,5,8,9,10]),(5,[2,3,5,6,8,9,10]),(6,[2,3,8,9,10]),(7,[2,3,8,9,10]),(8,[2])] }
def F78:FA:= { n:=9,sh:=[y1,vs,y5,y8,vi,y5,vl, .one (.fn 119 [(3,0)]),vi],obs:=[(2,[.sl []]),(3,[.str []])],tk:=[6],keep:=[(0,[2,3]),(1,[4])] }
def F79:FA:= { n:=17,sh:=[vs,vj,vb,vs,vb,vb,vs,vb,vb,vb,vs,vb,vb,vb,vs,vb,vb],obs:=[],tk:=[5,9,13,14],keep:=[(0,[0]),(1,[2])] }
def F80:FA:= { n:=29,sh:=[y1,y4,vb,vi,y20,y1,vb,vb,y4,vl,vi,vi,vb,vi,y12,y11,y1,y20,vs,vi,vi,vb,vb,y1,y11,vb,vb,vb,vi],obs:=[(1,[.sl []]),(4,tl2)],tk:=[11,20,22,24],keep:=[(0,[1]),(1,[1,7]),(2,[2]),(3,[1,9,10,11]),(4,[1,9,10,11,12]),(5,[1,3,4,9,10,11]),(6,[1,9,10,11,27]),(7,[2]),(8,[1,9,10,11]),(9,[2])] }
def F81:FA:= { n:=70,sh:=[y0,vs,vs,y8,vj,vj,y50,y38,vj, .one (.ptr 9 0),vj,y49,y8,vi,y34,vi,y26,vs,y0,y8,vi,vb,vb,y26,vs,vs,vb,vb,vs, .one (.ptr 7 2),y17,vl,vi,vi,vb,y6,y0, .one (.ptr 7 3),vl,y0,vs,vs,y0,vl,vl, .one (.ptr 7 3),vi,y23,vl,vi,vi,vb,y10,y14, .one (.ptr 7 4),vl,y49,y0,y0, .one (.ptr 11 5),y0,vs,vs,y0,y14,vl,vl, .one (.ptr 7 4),vi,y0],obs:=[(3,tl0),(6,tl0),(7,tl0),(9,tl0),(11,tl1)],tk:=[15,20,22,24,31,33,38,39,48,50,55,57,60,69],dp:=[43,44,65,66],keep:=[(0,[1,2,3,6]),(1,[1,2,3,6,7]),(2,[1,2,3,6,7,27]),(3,[1,2,3,6,7]),(4,[1,2,3,6,7,31,32,33]),(5,[1,2,3,6,7,31,32,33,34]),(6,[1,2,3,6,7,9,31,32,33]),(7,[1,2,3,6,7,31,32,33]),(8,[1,2,3,6,7,31,32,33]),(9,[1,2,6,7,48,49,50]),(10,[1,2,6,7,48,49,50,51]),(11,[1,2,6,7,11,48,49,50]),(12,[1,2,6,7,48,49,50]),(13,[1,2,6,7,48,49,50]),(14,[6])] }
def F82:FA:= { n:=27,sh:=[vl,vl,vj,vj,vb,vi,vl,vi,vl,vi,vb,vi,vl,vi,vb,vi,vi,vl,vi,y12,y11,vl,vi,y12,y11,vb,vb],obs:=[],tk:=[15],keep:=[(0,[0,1]),(1,[0,1,10]),(2,[4]),(3,[0,1,5]),(4,[0,1,5,14]),(5,[0,1,5]),(6,[0,1,5,26]),(7,[4]),(8,[4])] }
def F83:FA:= { n:=69,sh:=[vl,vi,vj,vj,vi,vi,vi,vl,vi,vb,vi,vi,y7,vi,vi,vs,y2,y2,vi,vi,y7,vi,y2,y44,y13,vi,vi,y7,vi,vi,y2,y15,y15,vi,vi,y7,vi,vi,y2,y15,y43,vi,vi,y7,vi,vi,vs,y2,y15,y42,vi,vi,y7,vi,y2,y15,y21,y13,vi,vi,y7,vi,y2,y15,y55,y13,vi,vi,vi],obs:=[],al:=[12,20,24,27,35,43,52,57,60,65],tk:=[10,18,25,33,41,50,58,66,68],keep:=[(0,[0,1]),(1,[0,1,5]),(2,[0,1,5,9]),(3,[0,1,5]),(4,[0,1,5]),(5,[0,1,5]),(6,[0,1,5]),(7,[0,1,5]),(8,[0,1,5]),(9,[0,1,5]),(10,[0,1,5]),(11,[0,1,5]),(12,[0,1,5]),(13,[0,1,5]),(14,[0,1,5]),(15,[0,4])],io:=some 0,ioa:=[24,57,65] }
def F84:FA:= { n:=83,sh:=[vl,vi,vj,vj,vi,vi,vi,vl,vi,vb,vi,vi,vl,vi,y12,y9,vs,vi,vs,vb,vi,vi,vl,vi,y12,y19,vl,vi,vi,vi,vb,vl,vi,y12,y6,y22,vi,vi,vb,vi,vi,vl,vi,y12,y6,y22,vi,vi,vb,vi,vi,vl,vi,y12,y6,y9,vs,vi,vs,vb,vi,vi,vl,vi,y12,y6,y19,vl,vi,vi,vi,vb,vl,vi,y12,y6,y19,vl,vi,vi,vi,vb,vi],obs:=[],tk:=[10,20,27,39,49,60,68,78,82],keep:=[(0,[0,1]),(1,[0,1,5]),(2,[0,1,5,9]),(3,[0,1,5]),(4,[0,1,5,19]),(5,[4]),(6,[0,1,5]),(7,[0,1,5]),(8,[0,1,5,30]),(9,[4]),(10,[0,1,5,38]),(11,[4]),(12,[0,1,5]),(13,[0,1,5,48]),(14,[4]),(15,[0,1,5]),(16,[0,1,5,59]),(17,[4]),(18,[0,1,5]),(19,[0,1,5]),(20,[0,1,5,71]),(21,[4]),(22,[0,1,5]),(23,[0,1,5,81]),(24,[4]),(25,[4])] }
def F85:FA:= { n:=18,sh:=[y14,vi,y5,vj,vi,y5,y0,vi,vi,vi,vb, .one (.ptr 2 5),y0,vi,vi,vi,vb,vi],obs:=[(2,tl1)],tk:=[6,7,12,13,17],keep:=[(0,[1,2]),(1,[1,2]),(2,[1,2,10]),(3,[4]),(4,[1]),(5,[1,16]),(6,[4]),(7,[4])] }
def F87:FA:= { n:=89,sh:=[y0,vb,vi,vi,y20,vj,vj,vj,vi,vi,vi,vi,vb,vb,vi,vb,vb,vb,y0,vb,vb,vb,vb,vi,vi,vi,y39,vl,vi,vb,vb,vi,vb,vb,vi,vi,y39,vl,vi,y6,y0,vb,vi,vi,vi,vi,vi,y32,vl,vi,vb,vb,vi,vb,vb,vi,vi,y32,vl,vi,y10,y6,y0,vl,vb,vb,y32,vl,vi,y10,y6,y0,vi,vi,vi,vi,vi,vb,y32,vl,vi,y10,y6,y0,vi,vi,vi,vi,vi],obs:=[(4,tl0)],tk:=[13,17,23,30,34,44,51,55,74,86,88],keep:=[(0,[1,2,3,4]),(1,[1,2,3,4,22]),(2,[8]),(3,[1,2,3,4]),(4,[1,2,3,4,9]),(5,[1,2,3,4,9,33]),(6,[1,2,3,4,9]),(7,[1,2,3,4,9]),(8,[2,3,4,10]),(9,[2,3,4,10,54]),(10,[2,3,4,10]),(11,[2,3,4,10,65]),(12,[8]),(13,[2,3,4,10]),(14,[2,3,4,10,77]),(15,[2,3,4,10]),(16,[8])] }
def F88:FA:= { n:=18,sh:=[vl,vj,vb,vi,vi,vl,vi,vb,vi,vi,vl,vi,vl,vl,vi,y9,vs,vb],obs:=[],tk:=[8],keep:=[(0,[0]),(1,[0,3]),(2,[0,3,7]),(3,[0,3]),(4,[0,3,17]),(5,[2]),(6,[2])] }
def F89:FA:= { n:=34,sh:=[y0,y4,vl,vl,vi,vl,y4,vi,vb,y29,vs,vb,vl,y29,vs,vl,vl,vl,vi,y35,vl,vi,vb,vi,vi,vl,y35,vl,vi,y6,y0,vl,vl,vl],obs:=[(1,tl0)],tk:=[7,12,14,17,23,25,33],dp:=[5,15,16,32],keep:=[(0,[1]),(1,[1,3]),(2,[1,3,8]),(3,[1,3,11]),(4,[3]),(5,[2]),(6,[1,3,4]),(7,[1,3,4,22]),(8,[1,3,4]),(9,[1,3,4]),(10,[2])] }
def F92:FA:= { n:=13,sh:=[y14,y4,y5,y8,y4,y0,y0,y8, .one (.ptr 1 5),y0,y0, .one (.ptr 3 5),y14],obs:=[(1,tl1),(2,tl1),(3,tl1)],tk:=[5,9,12],keep:=[(0,[1,2]),(1,[1,2,3]),(2,[1,2,3]),(3,[2,3]),(4,[2])] }
def F94:FA:= { n:=17,sh:=[y14,y14,y5,y8,vb,y5,y0,y8,y0,vb,vb, .one (.ptr 2 5),y0, .one (.ptr 3 5),y0,vb,vb],obs:=[(2,tl1),(3,tl1)],tk:=[6,8,12,14],keep:=[(0,[2,3]),(1,[2,3,10]),(2,[4]),(3,[16]),(4,[4]),(5,[4])] }
def F102:FA:= { n:=89,sh:=[y3,y0,vi,vj,y20,vj,vb,vj,y25,y3,y3,y3,vi,vi,y3,y3,vi,vb,vb,y3,y3,y3,vi,vb,vb,vb,y20,vi,vb,vb,vb,y32,vl,vi,vb,vb,vb,y20,vi,y51,vi,y33,vs,y39,vl,vi,vb,vb,vb,y20,vi,vb,vb,y33,vs,vb,vb,y3,y3,y41,vl,y33,vs,vb,y3,y3,y3,y41,vl,y33,vs,vl,vl,y3,y41,y39,vl,vi,vi,vb,y6,y0,y3,y0,vi,vi,vb,vb,vi],obs:=[(4,tl0),(8,tl0),(1000000,tl3)],tk:=[12,18,25,30,32,36,40,50,52,68,70,76,78,83],dp:=[71],keep:=[(0,[0,2,4]),(1,[0,2,4]),(2,[0,2,4,48]),(3,[6]),(4,[0,2,4,56]),(5,[0,2,4,63]),(6,[6]),(7,[0,2,4]),(8,[0,2,76,77,78]),(9,[0,2,76,77,78,79]),(10,[0,2,8,76,77,78]),(11,[0,2,76,77,78,87]),(12,[6]),(13,[0,2,76,77,78]),(14,[6])] }
def F108:FA:= { n:=25,sh:=[y11,vi,y5,vj,vi,vi,y5,vs,vi,vi,vi,vb,y47,vl,vi,vi,vi,vb,y24,y0,vi,vi,vi,vb,vi],obs:=[(2,tl2)],tk:=[5,7,13,14,19,20,24],keep:=[(0,[1,2]),(1,[1,2]),(2,[1,2,11]),(3,[4]),(4,[1,2]),(5,[1,2,17]),(6,[4]),(7,[1]),(8,[1,23]),(9,[4]),(10,[4])] }
def F109:FA:= { n:=57,sh:=[y0,y4,y5,y8,vi,vi,y0,vl,y17,vl,y23,vi,y35,vl,vi,vb,vi,vi,y17,vl,y35,vl,vi,y6,y0,y0,vl,vl,y17,vi,y40,vl,vi,vb,vi,vi,y23,vl,y40,vl,vi,y10,y6,y0,y0,y40,vl,vi,y10,y6,y0,y0,y14,vl,vl,y23,y0],obs:=[(1,tl0),(2,tl0),(3,tl0)],tk:=[16,19,34,37,56],dp:=[7,9,26,27,53,54],keep:=[(0,[1,2]),(1,[1,2,3]),(2,[1,2,3]),(3,[1,2,3]),(4,[1,2,3,4]),(5,[1,2,3,4,15]),(6,[1,2,3,4]),(7,[1,2,3,4]),(8,[1,2,3,5]),(9,[1,2,3,5,33]),(10,[1,2,3,5]),(11,[1,2,3,5]),(12,[2])] }
def F110:FA:= { n:=22,sh:=[y1,y4,vb,vi,vi,y4,vl,vi,vb,vi,vi,y4,vl,vi,y12,y11,vb,vb,y4,vl,vi,vb],obs:=[(1,[.sl []])],tk:=[9,19],keep:=[(0,[1]),(1,[1,3]),(2,[1,3,8]),(3,[1,3]),(4,[1,3,17]),(5,[2]),(6,[2])] }
def F111:FA:= { n:=7,sh:=[y0,y4,vl,vl,vl,y0,vl],obs:=[(1,tl0)],tk:=[5],dp:=[3,4],fz:=[4],keep:=[(0,[1]),(1,[2])] }
def F112:FA:= { n:=18,sh:=[vl,vs,vj,vj,vb,vi,vi,vl,vi,vb,vi,vi,vl,vi,y9,vs,vs,vb],obs:=[],tk:=[10],keep:=[(0,[0,1]),(1,[0,1,5]),(2,[0,1,5,9]),(3,[0,1,5]),(4,[0,1,5,17]),(5,[4]),(6,[4])] }
def F113:FA:= { n:=61,sh:=[y1,y0,y5,y8,vb,vi,vi,vi,y8,vi,vb,y1,y26,vs,vi,vi,vb,vb,y5,vl,vi,y12,y19,vl,vi,y17,vl,vi,vb,vb,vi,y17,vl,vi,vb,vi,vi,y1,y17,vl,vi,y6,y0,vb,vb,vi,y23,vl,vi,vb,vi,vi,y1,y23,vl,vi,y10,y6,y0,vb,vb],obs:=[(2,[.sl []]),(3,tl0)],tk:=[9,13,17,20,35,50],keep:=[(0,[2,3]),(1,[2,3,10]),(2,[2,3,5]),(3,[2,3,29]),(4,[4]),(5,[2,3,6]),(6,[2,3,6,34]),(7,[2,3,6]),(8,[2,3,6,44]),(9,[4]),(10,[2,3,7]),(11,[2,3,7,49]),(12,[2,3,7]),(13,[2,3,7,60]),(14,[4]),(15,[4])] }
def F114:FA:= { n:=36,sh:=[vs,vj,vb,vi,vi,vb,vi,vs,vi,vb,vi,vi,vs,vi,vy,vi,vi,vb,vb,vb,vb,vi,vb,vb,vi,vb,vb,vb,vi,vb,vb,vb,vb,vs,vi,vb],obs:=[],tk:=[10,18,20,23,27,28,33],keep:=[(0,[0]),(1,[0,3]),(2,[0,3,9]),(3,[0,3]),(4,[0,3,4]),(5,[0,3,4,5]),(6,[0,3,32]),(7,[2]),(8,[2])] }
def F115:FA:= { n:=13,sh:=[vs,vj,vb,vs,vb,vb,vs,vb,vb,vb,vs,vb,vb],obs:=[],tk:=[5,9,10],keep:=[(0,[0]),(1,[2])] }
def F116:FA:= { n:=16,sh:=[y11,y4,y5,y8,y4,vs,y8,y31,vl,vl,y34,y29,y0,y0,y26,y11],obs:=[(1,tl2),(2,tl2),(3,tl2)],tk:=[5,8,12,15],keep:=[(0,[1,2]),(1,[1,2,3]),(2,[1,2,3]),(3,[1,2,3]),(4,[2,3]),(5,[2])] }
def F117:FA:= { n:=51,sh:=[y0,y4,y5,y8,vj,y28,vj,y38,y4,vi,y31,vi,y29,vs,y0,y35,vl,vi,vi,vb,y6,y0,y17,vl,y0,y0,vl,vl,y17,vi,y40,vl,vi,vi,vb,y10,y14,y23,vl,y38,y0,y0,y56,y0,y0,y14,vl,vl,y23,vi,y0],obs:=[(1,tl0),(2,tl0),(3,tl0),(5,tl0),(7,tl1)],tk:=[9,11,13,16,18,23,24,31,33,38,40,43,50],dp:=[26,27,46,47],keep:=[(0,[1,2]),(1,[1,2,3]),(2,[1,2,3,16,17,18]),(3,[1,2,3,16,17,18,19]),(4,[1,2,3,5,16,17,18]),(5,[1,2,3,16,17,18]),(6,[1,2,3,16,17,18]),(7,[2,3,31,32,33]),(8,[2,3,31,32,33,34]),(9,[2,3,7,31,32,33]),(10,[2,3,31,32,33]),(11,[2,3,31,32,33]),(12,[2])] }
def F118:FA:= { n:=19,sh:=[vl,y54,vj,vj,vi,vi,vl,vi,vi,vb,vi,y54,vl,vi,y12,y11,vb,vi,vi],obs:=[(1000000,[.str []])],tk:=[8,17],keep:=[(0,[0,1]),(1,[0,1,7,8]),(2,[0,1,7,8,9]),(3,[0,1,5,7,8]),(4,[0,1,5,7,8,16]),(5,[4]),(6,[0,1,7,8]),(7,[4])] }
def F119:FA:= { n:=8,sh:=[y11,y3,y5,vb,y5,vs,vs,vb],obs:=[(2,tl2),(1000000,[.str []])],tk:=[5],keep:=[(0,[1,2]),(1,[3])] }
def F120:FA:= { n:=35,sh:=[vs,vj,vb,vi,vi,vs,vi,vb,vi,vi,vs,vi,vy,vb,vb,vb,vi,vb,vb,vs,vi,vy,vb,vb,vb,vs,vi,vy,vb,vb,vb,vb,vs,vi,vb],obs:=[],tk:=[8,15,18,24,32],keep:=[(0,[0]),(1,[0,3]),(2,[0,3,7]),(3,[0,3]),(4,[0,3,31]),(5,[2]),(6,[2])] }
def F121:FA:= { n:=20,sh:=[y1,y4,vb,vj,y20,y4,vl,vi,vi,vb,y12,y11,y11,vb,vb,vi,y4,vl,vi,vb],obs:=[(1,[.sl []]),(4,tl2)],tk:=[8,12,17],keep:=[(0,[1]),(1,[1,6,7,8]),(2,[1,6,7,8,9]),(3,[1,4,6,7,8]),(4,[1,6,7,8,14]),(5,[2]),(6,[1,6,7,8]),(7,[2])] }
def F122:FA:= { n:=44,sh:=[y1,y11,y5,y8,vb,vi,vs,vj,vs, .one (.ptr 9 0),y34,vl,vi,vi,vb,vi,y9,vs,y34,vl,vs,vi,vi,vb,vi,y26,y0,vl,vi,vi,vb,y9,vs,y34,vl,vs,vb,vb,vi,y26,y0, .one (.fn 151 [(2,0),(9,0)]), .tup [],vb],obs:=[(2,[.sl []]),(3,tl2),(9,[.bool false])],tk:=[13,20,22,29,35,40,43],keep:=[(0,[2,3]),(1,[2,3,11,12,13]),(2,[2,3,11,12,13,14]),(3,[2,3,5,6,11,12,13]),(4,[2,3,11,12,13,23]),(5,[4]),(6,[2,3,11,12,13]),(7,[2,3,27,28,29]),(8,[2,3,27,28,29,30]),(9,[2,3,8,27,28,29]),(10,[2,3,27,28,29,37]),(11,[4]),(12,[2,3,27,28,29]),(13,[2,3,9]),(14,[9]),(15,[4])] }
def F123:FA:= { n:=22,sh:=[y11,y11,y5,y8,vb,y5,vs,y8,vs,vb,y47,vl,y34,vl,vb,vb,y24,y0,y26,y0,vb,vb],obs:=[(2,tl2),(3,tl2)],tk:=[6,8,11,13,17,19],keep:=[(0,[2,3]),(1,[2,3,9]),(2,[4]),(3,[2,3,15]),(4,[4]),(5,[21]),(6,[4]),(7,[4])] }
def F124:FA:= { n:=20,sh:=[vl,vi,vj,vj,vi,vi,vi,vl,vi,vb,vi,vi,y7,vi,vi,vs,y2,vi,vi,vi],obs:=[],al:=[12],tk:=[10,17,19],keep:=[(0,[0,1]),(1,[0,1,5]),(2,[0,1,5,9]),(3,[0,1,5]),(4,[0,1,5]),(5,[0,1,5]),(6,[0,4])],io:=some 0 }
def F125:FA:= { n:=22,sh:=[vl,vi,vj,vj,vi,vi,vi,vl,vi,vb,vi,vi,vl,vi,y9,vs,vi,vs,vb,vi,vi,vi],obs:=[],tk:=[10,19,21],keep:=[(0,[0,1]),(1,[0,1,5]),(2,[0,1,5,9]),(3,[0,1,5]),(4,[0,1,5,18]),(5,[4]),(6,[0,1,5]),(7,[4])] }
def F126:FA:= { n:=59,sh:=[vl,vi,vj,vj,vi,vi,vi,vl,vi,vb,vi,vi,vl,vi,y6,y22,vi,vi,vb,vi,vi,vl,vi,y6,y22,vi,vi,vb,vi,vi,vl,vi,y6,y9,vs,vi,vs,vb,vi,vi,vl,vi,y6,y19,vl,vi,vi,vi,vb,vl,vi,y6,y19,vl,vi,vi,vi,vb,vi],obs:=[],tk:=[10,19,28,38,45,54,58],keep:=[(0,[0,1]),(1,[0,1,5]),(2,[0,1,5,9]),(3,[0,1,5]),(4,[0,1,5,18]),(5,[4]),(6,[0,1,5]),(7,[0,1,5,27]),(8,[4]),(9,[0,1,5]),(10,[0,1,5,37]),(11,[4]),(12,[0,1,5]),(13,[0,1,5]),(14,[0,1,5,48]),(15,[4]),(16,[0,1,5]),(17,[0,1,5,57]),(18,[4]),(19,[4])] }
def F127:FA:= { n:=115,sh:=[vl,vi,vj,vj,vi,vi,vi,vl,vi,vb,vi,vi,vl,vi,y10,y6,y22,vi,vi,vb,vi,vi,vl,vi,y10,y6,y22,vi,vi,vb,vi,vi,vl,vi,y10,y6,y9,vs,vi,vs,vb,vi,vi,vl,vi,y10,y6,y19,vl,vi,vi,vi,vb,vl,vi,y10,y6,y19,vl,vi,vi,vi,vb,vl,vi,y10,y6,y22,vi,vi,vb,vi,vi,vl,vi,y10,y6,y22,vi,vi,vb,vi,vi,vl,vi,y10,y6,y9,vs,vi,vs,vb,vi,vi,vl,vi,y10,y6,y19,vl,vi,vi,vi,vb,vl,vi,y10,y6,y19,vl,vi,vi,vi,vb,vi],obs:=[],tk:=[10,20,30,41,49,59,71,81,92,100,110,114],keep:=[(0,[0,1]),(1,[0,1,5]),(2,[0,1,5,9]),(3,[0,1,5]),(4,[0,1,5,19]),(5,[4]),(6,[0,1,5]),(7,[0,1,5,29]),(8,[4]),(9,[0,1,5]),(10,[0,1,5,40]),(11,[4]),(12,[0,1,5]),(13,[0,1,5]),(14,[0,1,5,52]),(15,[4]),(16,[0,1,5]),(17,[0,1,5,62]),(18,[4]),(19,[0,1,5,70]),(20,[4]),(21,[0,1,5]),(22,[0,1,5,80]),(23,[4]),(24,[0,1,5]),(25,[0,1,5,91]),(26,[4]),(27,[0,1,5]),(28,[0,1,5]),(29,[0,1,5,103]),(30,[4]),(31,[0,1,5]),(32,[0,1,5,113]),(33,[4]),(34,[4])] }
def F128:FA:= { n:=134,sh:=[y0,vb,y5,vj,vb,vi,y52,vl,vi,y5,vi,vb,vb,y46,vl,vi,vb,vb,vb,y5,vi,vb,vb,y47,vi,vb,vb,vb,y5,vi,vb,vb,y47,vi,vb,vb,y24,vs,vb,vb,vb,vi,vb,vb,vb,vb,y24,vs,vb,vb,vi,vb,vb,vb,vb,y24,vs,vb,vb,vi,vb,vb,vb,vb,vb,y24,vs,vb,vb,vb,vb,vb,vb,y24,vs,vb,vb,vi,vb,vb,vb,vb,y24,vs,vb,vb,vi,vb,vb,vb,vb,vb,vb,vb,y24,vs,vb,vb,vb,vi,vb,vb,vb,vb,vb,vb,vb,y24,vs,vb,vb,vb,vi,vb,vb,vb,vb,vb,vb,vb,y24,vs,vb,vb,vb,vi,vb,vb,vb,y46,vl,vi,vb,vb],obs:=[(2,tl0)],tk:=[7,12,18,22,29,33,35,37,40,41,47,49,50,58,59,62,63,64,66,74,76,77,83,85,86,91,93,95,98,99,104,106,108,111,112,117,119,121,124,125,128,130],keep:=[(0,[1,2]),(1,[1,2,5]),(2,[1,2,5,27]),(3,[4]),(4,[1,2,5,29]),(5,[1,2,5,29,30]),(6,[4]),(7,[1,2,5,29,44]),(8,[4]),(9,[1,2,5,29,53]),(10,[4]),(11,[1,2,5,29,70]),(12,[1,2,5,29,70]),(13,[4]),(14,[1,2,5,29,80]),(15,[4]),(16,[1,2,5,29,89]),(17,[4]),(18,[1,2,5,29,102]),(19,[4]),(20,[1,2,5,115]),(21,[4]),(22,[4])] }
def F135:FA:= { n:=107,sh:=[vi,vi,vs,vi,vj,vj,vj,vj,vb,vi,vb,vb,vi,vb,vb,vs,vb,vb,vb,vi,vb,vb,vb,vb,vi,vb,vb,vs,vb,vb,vb,vi,vb,vb,vb,vb,vi,vb,vb,vs,vb,vb,vb,vi,vb,vb,vb,vb,vb,vi,vb,vb,vs,vb,vb,vb,vi,vb,vb,vb,vb,vi,vb,vb,vs,vb,vb,vb,vi,vb,vb,vb,vb,vi,vb,vb,vs,vb,vb,vb,vi,vb,vb,vb,vb,vi,vb,vb,vs,vb,vb,vb,vi,vb,vb,vb,vb,vi,vb,vb,vs,vb,vb,vb,vi,vb,vb],obs:=[],tk:=[9,12,14,15,18,19,24,26,27,30,31,36,38,39,42,43,49,51,52,55,56,61,63,64,67,68,73,75,76,79,80,85,87,88,91,92,97,99,100,103,104],keep:=[(0,[0,1,2,3]),(1,[1,2,3,9]),(2,[1,2,3,9,10]),(3,[8]),(4,[1,2,3,9,22]),(5,[8]),(6,[1,2,3,9,34]),(7,[8]),(8,[1,2,3,9,46]),(9,[1,2,3,9,46]),(10,[8]),(11,[1,2,3,9,59]),(12,[8]),(13,[1,2,3,9,71]),(14,[8]),(15,[1,2,3,9,83]),(16,[8]),(17,[1,2,3,95]),(18,[8]),(19,[8])] }
def F136:FA:= { n:=9,sh:=[vl,vs,vj,vj,vb,vl,vs,vi,vb],obs:=[],tk:=[5,6],keep:=[(0,[0,1]),(1,[4])] }
def F139:FA:= { n:=28,sh:=[vl,vi,vj,vj,vi,vi,vi,vl,vi,vi,vi,vb,vi,vl,vi,vb,vi,vi,vi,vl,vi,y9,vs,vi,vi,vi,vb,vi],obs:=[],tk:=[6,16,18,27],keep:=[(0,[0,1]),(1,[0,1]),(2,[0,1,11]),(3,[4]),(4,[0,1,5]),(5,[0,1,5,15]),(6,[0,1,5]),(7,[0,1,5]),(8,[0,1,5,26]),(9,[4]),(10,[4])] }
def F140:FA:= { n:=40,sh:=[y11,y4,vb,vi,vi,y31,vl,vi,vb,vi,vi,y31,vl,vi,y9,vs,vb,vb,vb,y31,vl,vi,y9,vs,vb,vb,y4,vs,vb,vb,y31,vl,vi,vb,vb,vb,y29,y0,vb,vb],obs:=[(1,tl2)],tk:=[9,18,27,29,31,35,37],keep:=[(0,[1]),(1,[1,3]),(2,[1,3,8]),(3,[1,3]),(4,[1,3,25]),(5,[2]),(6,[2])] }
def F141:FA:= { n:=74,sh:=[vl,vl,y0,vj,vj,y28,vl,vi,vi,vl,y28,vi,vb,vl,y45,vs,vb,vb,vb,vl,y45,vs,vb,vb,vb,vl,y45,vs,vl,vl,vl,vi, .one (.ptr 5 3),vl,vi,vb,vi,vi,vl,vl, .one (.ptr 5 3),vl,vi,y6,y0,vl,vi,y57,vl,vi,vb,vi,vi,vl,vl,vl,y57,vl,vi,y10,y6,y0,vl,vl,vl,vl,y57,vl,vi,y10,y6,y0,vl,vl],obs:=[(5,tl0)],tk:=[11,13,18,25,27,30,36,38,51,64,65,73],dp:=[28,53,55,63],fz:=[65],keep:=[(0,[0,1,5]),(1,[0,1,5,12]),(2,[0,5,24]),(3,[0]),(4,[6]),(5,[0,1,5,7]),(6,[0,1,5,7,35]),(7,[0,1,5,7]),(8,[0,1,5,7]),(9,[0,1,5,8]),(10,[0,1,5,8,50]),(11,[0,1,5,8]),(12,[0,1,5,8,9]),(13,[0,1,5,8]),(14,[6])] }
def F142:FA:= { n:=15,sh:=[vi,vi,vi,vj,vj,vj,vb,vi,vi,vb,vb,vi,vi,vb,vb],obs:=[],tk:=[8,10,11,12],keep:=[(0,[0,1,2]),(1,[6])] }
def F143:FA:= { n:=22,sh:=[vl,vj,vl,vl,vi,vl,vi,vl,vi,vl,vi,vb,vi,vi,y37,vi,vl,vi,y9,vs,y36,vl],obs:=[],al:=[14],tk:=[12,21],keep:=[(0,[0]),(1,[0,3]),(2,[0,3,4]),(3,[0,3,4,11]),(4,[0,3,4]),(5,[0,3,4]),(6,[2])] }
def F144:FA:= { n:=9,sh:=[vy,vj,vb,vy,vb,vb,vy,vb,vb],obs:=[],tk:=[5,6],keep:=[(0,[0]),(1,[2])] }
def F145:FA:= { n:=9,sh:=[vy,vj,vb,vy,vb,vb,vy,vb,vb],obs:=[],tk:=[5,6],keep:=[(0,[0]),(1,[2])] }
def F146:FA:= { n:=15,sh:=[vi,vi,vi,vj,vj,vj,vb,vi,vi,vb,vb,vi,vi,vb,vb],obs:=[],tk:=[8,10,11,12],keep:=[(0,[0,1,2]),(1,[6])] }
def F147:FA:= { n:=34,sh:=[y11,y4,vb,vj,vs,y31,vl,vi,vi,vb,y9,vs,vs,vb,vb,vb,vs,vb,vb,vi,y4,vs,vb,vb,y31,vl,vi,vb,vb,vb,y29,y0,vb,vb],obs:=[(1,tl2)],tk:=[8,15,16,21,23,25,29,31],keep:=[(0,[1]),(1,[1,6,7,8]),(2,[1,6,7,8,9]),(3,[1,4,6,7,8]),(4,[1,6,7,8,18]),(5,[2]),(6,[1,6,7,8]),(7,[2])] }
def F148:FA:= { n:=19,sh:=[vl,vs,vj,vj,vi,vi,vl,vi,vi,vb,vi,vs,vl,vi,y9,vs,vb,vi,vi],obs:=[],tk:=[8,17],keep:=[(0,[0,1]),(1,[0,1,7,8]),(2,[0,1,7,8,9]),(3,[0,1,5,7,8]),(4,[0,1,5,7,8,16]),(5,[4]),(6,[0,1,7,8]),(7,[4])] }
def F149:FA:= { n:=58,sh:=[y0,y4,vl,vl,vj,y28,vj,y38,vl,vj,vs,y4,vi,vb,y29,vs,vl,y35,vl,vi,vi,vb,y6,y0,vl,y0,vl,vl,vi,y40,vl,vi,vi,vb,y10,y14,y38,y0,vl,y56,y0,vl,vi,vi,vb,y9,vs,vl,vs,vb,vb,vl,vs,vl,vl,vi,vi,vl],obs:=[(1,tl0),(5,tl0),(7,tl1)],tk:=[12,15,18,20,24,25,30,32,37,40,43,51,52,57],dp:=[16,53],fz:=[26,53],keep:=[(0,[1]),(1,[1,13]),(2,[2]),(3,[1,3]),(4,[1,3,18,19,20]),(5,[1,3,18,19,20,21]),(6,[1,3,5,18,19,20]),(7,[1,3,18,19,20]),(8,[1,3,18,19,20]),(9,[3,30,31,32]),(10,[3,30,31,32,33]),(11,[3,7,30,31,32]),(12,[3,7,8,30,31,32]),(13,[3,8,30,31,32,41,42,43]),(14,[3,8,30,31,32,41,42,43,44]),(15,[3,8,10,30,31,32,41,42,43]),(16,[3,8,10,30,31,32,41,42,43,50]),(17,[3,8,30,31,32,41,42,43]),(18,[3,8,30,31,32,41,42,43]),(19,[3,30,31,32]),(20,[2])] }
def F150:FA:= { n:=37,sh:=[y0,y27,y5,vj,vj,y28,vj,y38,y5,vi,vb,y27,y0, .tup [],y52,vl,vi,vi,vb,y6,y0,y0,y27, .tup [],vi,y46,vl,vi,vi,vb,y10,y14,y56,y0,y27, .tup [],vi],obs:=[(2,tl0),(5,tl0),(7,tl1),(1000000,[.sl []]),(1000001,[.bool false])],tk:=[15,17,21,26,28,33],keep:=[(0,[1,2]),(1,[1,2,10]),(2,[1,2]),(3,[1,2,15,16,17]),(4,[1,2,15,16,17,18]),(5,[1,2,5,15,16,17]),(6,[1,2,15,16,17]),(7,[1,2,15,16,17]),(8,[1,26,27,28]),(9,[1,26,27,28,29]),(10,[1,7,26,27,28]),(11,[1,26,27,28]),(12,[1,26,27,28])] }
def F151:FA:= { n:=27,sh:=[y0,y3, .one (.ptr 1000001 0),y8,vi,y1,y26,vs,vi,vb,vb,vi,vb,vb,vb,y3,vl,vi,y12,y19,vl,vi,y17,vl,vi,vb,vb],obs:=[(3,tl0),(1000000,[.sl []]),(1000001,[.bool false])],tk:=[7,9,10,14,17,23],keep:=[(0,[1,2,3]),(1,[1,2,3,4]),(2,[])] }
def F152:FA:= { n:=26,sh:=[vl,vl,vj,vj,vb,vi,vl,vi,vl,vi,vb,vi,vl,vi,vb,vi,vi,vl,vi,y9,vs,vl,vi,y9,vs,vb],obs:=[],tk:=[15],keep:=[(0,[0,1]),(1,[0,1,10]),(2,[4]),(3,[0,1,5]),(4,[0,1,5,14]),(5,[0,1,5]),(6,[0,1,5,25]),(7,[4]),(8,[4])] }
def F153:FA:= { n:=36,sh:=[vs,vj,vb,vi,vi,vs,vi,vb,vi,vi,vs,vi,vy,vb,vb,vb,vi,vb,vb,vs,vi,vy,vb,vb,vb,vs,vi,vy,vb,vb,vb,vb,vb,vs,vi,vb],obs:=[],tk:=[8,15,18,24,33],keep:=[(0,[0]),(1,[0,3]),(2,[0,3,7]),(3,[0,3]),(4,[0,3,32]),(5,[2]),(6,[2])] }
def F154:FA:= { n:=21,sh:=[vs,vj,vb,vs,vb,vb,vs,vb,vb,vb,vs,vb,vb,vb,vs,vb,vb,vb,vs,vb,vb],obs:=[],tk:=[5,9,13,17,18],keep:=[(0,[0]),(1,[2])] }
def F156:FA:= { n:=23,sh:=[vs,vj,vb,vi,vi,vs,vi,vb,vi,vi,vs,vi,vy,vb,vb,vs,vi,vb,vb,vs,vy,vb,vb],obs:=[],tk:=[8,18,19],keep:=[(0,[0]),(1,[0,3]),(2,[0,3,7]),(3,[0,3]),(4,[0,3,14]),(5,[2]),(6,[2])] }
def F157:FA:= { n:=10,sh:=[vs,vj,vb,vs,vb,vb,vb,vb,vb,vb],obs:=[],tk:=[3],keep:=[(0,[0]),(1,[3]),(2,[3,4]),(3,[3,4]),(4,[3,4]),(5,[3,4]),(6,[4]),(7,[2]),(8,[2])] }
def F159:FA:= { n:=6,sh:=[y0,y4,vb,y0,vi,vb],obs:=[(1,tl0)],tk:=[3],keep:=[(0,[1]),(1,[2])] }
def F160:FA:= { n:=6,sh:=[y0,y4,vb,y8,y0,vb],obs:=[(1,tl0),(3,tl3)],tk:=[4],keep:=[(0,[1]),(1,[1,3]),(2,[2])] }
def F161:FA:= { n:=23,sh:=[vl,vl,vj,vj,vl,vj,vs,vl,vi,vi,vb,y9,vs,vl,vs,vb,vb,vl,vs,vl,vl,vi,vl],obs:=[],tk:=[7,9,17,18,22],dp:=[19],keep:=[(0,[0,1]),(1,[0,7,8,9]),(2,[0,7,8,9,10]),(3,[0,6,7,8,9]),(4,[0,6,7,8,9,16]),(5,[0,7,8,9]),(6,[0,7,8,9]),(7,[4])] }
def F162:FA:= { n:=33,sh:=[y0,y4,vl,vl,vj,y28,y4,vi,vb,vb,y29,vs,vb,vb,y29,vs,vl,y4,vi,vb,y35,vl,vi,vi,vb,y6,y0,vl,y0,vl,vl,vi,vl],obs:=[(1,tl0),(5,tl0)],tk:=[9,15,18,21,23,27,28,32],dp:=[16,30],keep:=[(0,[1]),(1,[1,13]),(2,[2]),(3,[1,19]),(4,[2]),(5,[1,3]),(6,[3,21,22,23]),(7,[3,21,22,23,24]),(8,[3,5,21,22,23]),(9,[3,21,22,23]),(10,[3,21,22,23]),(11,[2])] }
def F163:FA:= { n:=10,sh:=[vy,vj,vb,vy,vi,vb,vb,vy,vb,vb],obs:=[],tk:=[6,7],keep:=[(0,[0]),(1,[2])] }
def F164:FA:= { n:=6,sh:=[vy,vj,vb,vy,vi,vb],obs:=[],tk:=[3],keep:=[(0,[0]),(1,[2])] }
def F165:FA:= { n:=6,sh:=[vy,vj,vb,vy,vi,vb],obs:=[],tk:=[3],keep:=[(0,[0]),(1,[2])] }
def F167:FA:= { n:=13,sh:=[vy,vj,vb,vy,vb,vb,vy,vb,vb,vb,vy,vb,vb],obs:=[],tk:=[5,9,10],keep:=[(0,[0]),(1,[2])] }
def F168:FA:= { n:=13,sh:=[vy,vj,vb,vy,vb,vb,vy,vb,vb,vb,vy,vb,vb],obs:=[],tk:=[5,9,10],keep:=[(0,[0]),(1,[2])] }
def F169:FA:= { n:=105,sh:=[y3,y0,vi,vj,y20,vj,vb,vj,y25,vj,y53,y3,y3,y3,vi,vi,y3,y3,vi,vb,vb,y3,y3,y3,vi,vb,vb,vb,y20,vi,y51,vi,y33,vs,y39,vl,vi,vb,vb,vb,vb,y20,vi,vb,vb,y33,vs,vb,vb,vb,y20,vi,vb,y32,vl,vi,vb,vb,vb,y32,vl,vi,vb,vb,y39,vl,vi,vi,vb,y6,y0,y3,y0,vi,vi,vb,vb,vi,y32,vl,vi,vi,vb,y10,y14,y3,y3,y41,y3,y53,y0,vi,vi,vb,vb,vb,y3, .one (.ptr 10 5),y0,vi,vi,vb,vb,vb,vi],obs:=[(4,tl0),(8,tl0),(10,tl1),(1000000,tl3)],tk:=[14,20,27,31,40,44,46,51,58,65,67,72,79,81,90,95,98],keep:=[(0,[0,2,4]),(1,[0,2,4]),(2,[0,2,4,49]),(3,[6]),(4,[0,2,4,63]),(5,[6]),(6,[0,2,4,65,66,67]),(7,[0,2,4,65,66,67,68]),(8,[0,2,4,8,65,66,67]),(9,[0,2,4,65,66,67,76]),(10,[6]),(11,[0,2,4,65,66,67]),(12,[0,2,79,80,81]),(13,[0,2,79,80,81,82]),(14,[0,2,10,79,80,81]),(15,[0,2,10,79,80,81]),(16,[0,2,79,80,81,103]),(17,[6]),(18,[0,2,79,80,81]),(19,[6])] }
def An:FuncId→FA
  | 6=>F6
  | 7=>F7
  | 10=>F10
  | 15=>F15
  | 32=>F32
  | 33=>F33
  | 34=>F34
  | 35=>F35
  | 36=>F36
  | 38=>F38
  | 39=>F39
  | 40=>F40
  | 46=>F46
  | 47=>F47
  | 51=>F51
  | 52=>F52
  | 53=>F53
  | 54=>F54
  | 55=>F55
  | 70=>F70
  | 71=>F71
  | 72=>F72
  | 73=>F73
  | 74=>F74
  | 75=>F75
  | 76=>F76
  | 77=>F77
  | 78=>F78
  | 79=>F79
  | 80=>F80
  | 81=>F81
  | 82=>F82
  | 83=>F83
  | 84=>F84
  | 85=>F85
  | 87=>F87
  | 88=>F88
  | 89=>F89
  | 92=>F92
  | 94=>F94
  | 102=>F102
  | 108=>F108
  | 109=>F109
  | 110=>F110
  | 111=>F111
  | 112=>F112
  | 113=>F113
  | 114=>F114
  | 115=>F115
  | 116=>F116
  | 117=>F117
  | 118=>F118
  | 119=>F119
  | 120=>F120
  | 121=>F121
  | 122=>F122
  | 123=>F123
  | 124=>F124
  | 125=>F125
  | 126=>F126
  | 127=>F127
  | 128=>F128
  | 135=>F135
  | 136=>F136
  | 139=>F139
  | 140=>F140
  | 141=>F141
  | 142=>F142
  | 143=>F143
  | 144=>F144
  | 145=>F145
  | 146=>F146
  | 147=>F147
  | 148=>F148
  | 149=>F149
  | 150=>F150
  | 151=>F151
  | 152=>F152
  | 153=>F153
  | 154=>F154
  | 156=>F156
  | 157=>F157
  | 159=>F159
  | 160=>F160
  | 161=>F161
  | 162=>F162
  | 163=>F163
  | 164=>F164
  | 165=>F165
  | 167=>F167
  | 168=>F168
  | 169=>F169
  | _=> { n:=0,sh:=[],obs:=[] }
abbrev sg6:Sg:= { bi:=x8,bo:=x0,np:=3,ext:=false }
abbrev sg7:Sg:= { bi:=x13,bo:=x0,np:=2,ext:=false }
abbrev sg10:Sg:= { bi:=x2,bo:=x5,np:=1,ext:=false }
abbrev sg15:Sg:= { bi:=⟨[(0,[[.S, .S, .S, .F, .F]]),(1,[[.S, .S, .S, .F, .F]])],[]⟩,bo:=x0,np:=2,ext:=false }
abbrev sg32:Sg:= { bi:=x1,bo:=x0,np:=2,ext:=false }
abbrev sg33:Sg:= { bi:=x8,bo:=x19,np:=3,ext:=false }
abbrev sg34:Sg:= { bi:=x3,bo:=x11,np:=1,ext:=false }
abbrev sg35:Sg:= { bi:=x8,bo:=x19,np:=3,ext:=false }
abbrev sg36:Sg:= { bi:=x4,bo:=x0,np:=2,ext:=false }
abbrev sg38:Sg:= { bi:=x1,bo:=x0,np:=2,ext:=false }
abbrev sg39:Sg:= { bi:=x1,bo:=x0,np:=2,ext:=false }
abbrev sg40:Sg:= { bi:=x1,bo:=x0,np:=2,ext:=false }
abbrev sg46:Sg:= { bi:=x3,bo:=⟨[(0,[[.U 5]])],[]⟩,np:=1,ext:=false }
abbrev sg47:Sg:= { bi:=x3,bo:=⟨[(0,[[.U 10]])],[]⟩,np:=1,ext:=false }
abbrev sg51:Sg:= { bi:=x4,bo:=x0,np:=2,ext:=false }
abbrev sg52:Sg:= { bi:=x4,bo:=x0,np:=2,ext:=false }
abbrev sg53:Sg:= { bi:=x6,bo:=x7,np:=2,io:=some 0 }
abbrev sg54:Sg:= { bi:=x6,bo:=x7,np:=2,io:=some 0 }
abbrev sg55:Sg:= { bi:=x0,bo:=x0,np:=1,ext:=false }
abbrev sg70:Sg:= { bi:=x1,bo:=x0,np:=2,ext:=false }
abbrev sg71:Sg:= { bi:=x3,bo:=x11,np:=1,ext:=false }
abbrev sg72:Sg:= { bi:=x1,bo:=x0,np:=2,ext:=false }
abbrev sg73:Sg:= { bi:=x3,bo:=x0,np:=1,ext:=false }
abbrev sg74:Sg:= { bi:=x0,bo:=x0,np:=1,ext:=false }
abbrev sg75:Sg:= { bi:=⟨[(0,[[.S, .S, .S, .U 0, .U 0]]),(1,[[.S]]),(2,[[.S]])],[]⟩,bo:=⟨[(0,[[.S, .S, .S, .U 0, .U 0]])],[]⟩,np:=3 }
abbrev sg76:Sg:= { bi:=x3,bo:=x11,np:=1,ext:=false }
abbrev sg77:Sg:= { bi:=x3,bo:=x11,np:=1,ext:=false }
abbrev sg78:Sg:= { bi:=x1,bo:=x0,np:=2,ext:=false }
abbrev sg79:Sg:= { bi:=x0,bo:=x0,np:=1,ext:=false }
abbrev sg80:Sg:= { bi:=x3,bo:=x0,np:=1,ext:=false }
abbrev sg81:Sg:= { bi:=⟨[(0,[[.S, .S, .S, .F, .F]]),(1,[[.S]]),(2,[[.S]])],[]⟩,bo:=x5,np:=3,ext:=false }
abbrev sg82:Sg:= { bi:=x4,bo:=x0,np:=2,ext:=false }
abbrev sg83:Sg:= { bi:=x6,bo:=x7,np:=2,io:=some 0 }
abbrev sg84:Sg:= { bi:=x1,bo:=x0,np:=2,ext:=false }
abbrev sg85:Sg:= { bi:=⟨[(0,[[.S, .S, .S, .F, .F, .S, .S, .S, .F, .F]]),(1,[[.S]])],[]⟩,bo:=x0,np:=2,ext:=false }
abbrev sg87:Sg:= { bi:=⟨[(0,[[.S, .S, .S, .F, .F]]),(1,[[.S]]),(2,[[.S]]),(3,[[.S]])],[]⟩,bo:=x0,np:=4,ext:=false }
abbrev sg88:Sg:= { bi:=x3,bo:=x0,np:=1,ext:=false }
abbrev sg89:Sg:= { bi:=x2,bo:=x17,np:=1,ext:=false }
abbrev sg92:Sg:= { bi:=⟨[(0,[[.S, .S, .S, .F, .F, .S, .S, .S, .F, .F]])],[]⟩,bo:=⟨[(0,[[.S, .S, .S, .U 5, .U 10, .S, .S, .S, .U 5, .U 10]])],[]⟩,np:=1,ext:=false }
abbrev sg94:Sg:= { bi:=⟨[(0,[[.S, .S, .S, .F, .F, .S, .S, .S, .F, .F]]),(1,[[.S, .S, .S, .F, .F, .S, .S, .S, .F, .F]])],[]⟩,bo:=x0,np:=2,ext:=false }
abbrev XR:Sg:= { bi:=x10,bo:=x16,np:=3,no:=1 }
abbrev XQ:Sg:= { bi:=⟨[(0,[[.S, .F, .S, .S, .S, .F, .F]]),(1,[[.S]])],[]⟩,bo:=x0,np:=2,ext:=false }
abbrev XP:Sg:= { bi:=x2,bo:=x5,np:=1,ext:=false }
abbrev XO:Sg:= { bi:=x3,bo:=x0,np:=1,ext:=false }
abbrev XN:Sg:= { bi:=x2,bo:=x12,np:=1 }
abbrev XM:Sg:= { bi:=x1,bo:=x0,np:=2,ext:=false }
abbrev XL:Sg:= { bi:=⟨[(0,[[.F]]),(1,[[.S, .S, .S, .F, .F]])],[]⟩,bo:=x0,np:=2,ext:=false }
abbrev XK:Sg:= { bi:=x0,bo:=x0,np:=1,ext:=false }
abbrev XJ:Sg:= { bi:=x0,bo:=x0,np:=1,ext:=false }
abbrev XI:Sg:= { bi:=x9,bo:=⟨[(0,[[.S, .U 1, .S, .S, .S, .U 5, .U 10]])],[]⟩,np:=1,ext:=false }
abbrev XH:Sg:= { bi:=x2,bo:=x5,np:=1,ext:=false }
abbrev XG:Sg:= { bi:=⟨[(0,[[.F]]),(1,[[.S]])],[(1000000,[.S])]⟩,bo:=x18,np:=2,ext:=false,no:=1 }
abbrev XF:Sg:= { bi:=⟨[(0,[[.S, .F, .S, .S, .S, .F, .F]]),(1,[[.S]])],[(1000000,[.S])]⟩,bo:=x18,np:=2,ext:=false,no:=1 }
abbrev XE:Sg:= { bi:=x0,bo:=x0,np:=1,ext:=false }
abbrev XD:Sg:= { bi:=x3,bo:=x0,np:=1,ext:=false }
abbrev XC:Sg:= { bi:=⟨[(0,[[.F]]),(1,[[.S, .F, .S, .S, .S, .F, .F]])],[]⟩,bo:=x0,np:=2,ext:=false }
abbrev XB:Sg:= { bi:=⟨[(0,[[.S, .F, .S, .S, .S, .F, .F]]),(1,[[.S, .F, .S, .S, .S, .F, .F]])],[]⟩,bo:=x0,np:=2,ext:=false }
abbrev XA:Sg:= { bi:=x6,bo:=x7,np:=2,io:=some 0 }
abbrev Wz:Sg:= { bi:=x1,bo:=x0,np:=2,ext:=false }
abbrev Wy:Sg:= { bi:=x1,bo:=x0,np:=2,ext:=false }
abbrev Wx:Sg:= { bi:=x1,bo:=x0,np:=2,ext:=false }
abbrev Ww:Sg:= { bi:=x13,bo:=x0,np:=2,ext:=false }
abbrev Wv:Sg:= { bi:=⟨[(0,[[.S]]),(1,[[.S]]),(2,[[.S]]),(3,[[.S]])],[]⟩,bo:=x0,np:=4,ext:=false }
abbrev Wu:Sg:= { bi:=x1,bo:=x0,np:=2,ext:=false }
abbrev Wt:Sg:= { bi:=x1,bo:=x0,np:=2,ext:=false }
abbrev Ws:Sg:= { bi:=x9,bo:=x0,np:=1,ext:=false }
abbrev Wr:Sg:= { bi:=⟨[(0,[[.A 1]]),(1,[[.F]]),(2,[[.S, .S, .S, .F, .F]])],[]⟩,bo:=x12,np:=3 }
abbrev Wq:Sg:= { bi:=x15,bo:=x0,np:=3,ext:=false }
abbrev Wp:Sg:= { bi:=x3,bo:=x17,np:=1,ext:=false }
abbrev Wn:Sg:= { bi:=x0,bo:=x0,np:=1,ext:=false }
abbrev Wm:Sg:= { bi:=x0,bo:=x0,np:=1,ext:=false }
abbrev Wl:Sg:= { bi:=x15,bo:=x0,np:=3,ext:=false }
abbrev Wk:Sg:= { bi:=x9,bo:=x0,np:=1,ext:=false }
abbrev Wj:Sg:= { bi:=x1,bo:=x0,np:=2,ext:=false }
abbrev Wi:Sg:= { bi:=x2,bo:=x12,np:=1 }
abbrev Wh:Sg:= { bi:=⟨[(0,[[.S, .S, .S, .F, .F]]),(1,[[.S]])],[(1000000,[.F]),(1000001,[.S])]⟩,bo:=x14,np:=2,no:=2 }
abbrev Wg:Sg:= { bi:=⟨[(0,[[.S, .S, .S, .F, .F]]),(1,[[.S]]),(2,[[.S]])],[(1000000,[.F]),(1000001,[.S])]⟩,bo:=x14,np:=3,no:=2 }
abbrev Wf:Sg:= { bi:=x4,bo:=x0,np:=2,ext:=false }
abbrev We:Sg:= { bi:=x0,bo:=x0,np:=1,ext:=false }
abbrev Wc:Sg:= { bi:=x0,bo:=x0,np:=1,ext:=false }
abbrev Wb:Sg:= { bi:=x0,bo:=x0,np:=1,ext:=false }
abbrev Wa:Sg:= { bi:=x0,bo:=x0,np:=1,ext:=false }
abbrev WZ:Sg:= { bi:=x2,bo:=x0,np:=1,ext:=false }
abbrev WY:Sg:= { bi:=x2,bo:=x0,np:=1,ext:=false }
abbrev WX:Sg:= { bi:=⟨[(0,[[.A 1]]),(1,[[.F]])],[]⟩,bo:=x12,np:=2 }
abbrev WW:Sg:= { bi:=x2,bo:=x17,np:=1,ext:=false }
abbrev WV:Sg:= { bi:=x0,bo:=x0,np:=1,ext:=false }
abbrev WU:Sg:= { bi:=x0,bo:=x0,np:=1,ext:=false }
abbrev WT:Sg:= { bi:=x0,bo:=x0,np:=1,ext:=false }
abbrev WS:Sg:= { bi:=x0,bo:=x0,np:=1,ext:=false }
abbrev WR:Sg:= { bi:=x0,bo:=x0,np:=1,ext:=false }
abbrev WQ:Sg:= { bi:=x10,bo:=x16,np:=3,no:=1 }
def Sgs:FuncId→List Sg
  | 6=> [sg6]
  | 7=> [sg7]
  | 10=> [sg10]
  | 15=> [sg15]
  | 32=> [sg32]
  | 33=> [sg33]
  | 34=> [sg34]
  | 35=> [sg35]
  | 36=> [sg36]
  | 38=> [sg38]
  | 39=> [sg39]
  | 40=> [sg40]
  | 46=> [sg46]
  | 47=> [sg47]
  | 51=> [sg51]
  | 52=> [sg52]
  | 53=> [sg53]
  | 54=> [sg54]
  | 55=> [sg55]
  | 70=> [sg70]
  | 71=> [sg71]
  | 72=> [sg72]
  | 73=> [sg73]
  | 74=> [sg74]
  | 75=> [sg75]
  | 76=> [sg76]
  | 77=> [sg77]
  | 78=> [sg78]
  | 79=> [sg79]
  | 80=> [sg80]
  | 81=> [sg81]
  | 82=> [sg82]
  | 83=> [sg83]
  | 84=> [sg84]
  | 85=> [sg85]
  | 87=> [sg87]
  | 88=> [sg88]
  | 89=> [sg89]
  | 92=> [sg92]
  | 94=> [sg94]
  | 102=> [XR]
  | 108=> [XQ]
  | 109=> [XP]
  | 110=> [XO]
  | 111=> [XN]
  | 112=> [XM]
  | 113=> [XL]
  | 114=> [XK]
  | 115=> [XJ]
  | 116=> [XI]
  | 117=> [XH]
  | 118=> [XG]
  | 119=> [XF]
  | 120=> [XE]
  | 121=> [XD]
  | 122=> [XC]
  | 123=> [XB]
  | 124=> [XA]
  | 125=> [Wz]
  | 126=> [Wy]
  | 127=> [Wx]
  | 128=> [Ww]
  | 135=> [Wv]
  | 136=> [Wu]
  | 139=> [Wt]
  | 140=> [Ws]
  | 141=> [Wr]
  | 142=> [Wq]
  | 143=> [Wp]
  | 144=> [Wn]
  | 145=> [Wm]
  | 146=> [Wl]
  | 147=> [Wk]
  | 148=> [Wj]
  | 149=> [Wi]
  | 150=> [Wh]
  | 151=> [Wg]
  | 152=> [Wf]
  | 153=> [We]
  | 154=> [Wc]
  | 156=> [Wb]
  | 157=> [Wa]
  | 159=> [WZ]
  | 160=> [WY]
  | 161=> [WX]
  | 162=> [WW]
  | 163=> [WV]
  | 164=> [WU]
  | 165=> [WT]
  | 167=> [WS]
  | 168=> [WR]
  | 169=> [WQ]
  | _=> []
end Go.Own
