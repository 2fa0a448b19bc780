/- What is told of the functions: shapes and kinds. No conditions. -/
import Derived.Test.YtgeomhdbckjkcaaProg
import Derived.KernelRfl
import Derived.Test.YtgeomhdbckjkcaaOwn4
set_option linter.unusedVariables false
set_option linter.unusedSimpArgs false
set_option linter.unnecessarySimpa false
namespace Go.Own
open Go Go.Proofs
def τ:TypeId→Option TI
  | 3=>some { size:=1,bytes:=8,zero:=[.int .i64 0],agg:=false,kind:= .int .i64 }
  | 4=>some { size:=1,bytes:=1,zero:=[.bool false],agg:=false,kind:= .bool }
  | 5=>some { size:=1,bytes:=1,zero:=[.int .u8 0],agg:=false,kind:= .int .u8 }
  | 9=>some { size:=1,bytes:=16,zero:=[.str []],agg:=false,kind:= .str }
  | 31=>some { size:=1,bytes:=24,zero:=[.sl []],agg:=false,kind:= .sl 189 }
  | 32=>some { size:=1,bytes:=24,zero:=[.sl []],agg:=false,kind:= .sl 196 }
  | 34=>some { size:=2,bytes:=48,zero:=[.sl [], .sl []],agg:=true,kind:= .struct [(0,1,false),(1,1,false)] }
  | 49=>some { size:=1,bytes:=24,zero:=[.sl []],agg:=false,kind:= .sl 149 }
  | 51=>some { size:=1,bytes:=24,zero:=[.sl []],agg:=true,kind:= .struct [(0,1,false)] }
  | 67=>some { size:=1,bytes:=24,zero:=[.sl []],agg:=false,kind:= .sl 70 }
  | 68=>some { size:=1,bytes:=24,zero:=[.sl []],agg:=false,kind:= .sl 223 }
  | 70=>some { size:=5,bytes:=80,zero:=[.int .i64 0, .int .i64 0, .str [], .sl [], .sl []],agg:=true,kind:= .struct [(0,1,false),(1,1,false),(2,1,false),(3,1,false),(4,1,false)] }
  | 80=>some { size:=1,bytes:=24,zero:=[.sl []],agg:=false,kind:= .sl 5 }
  | 98=>some { size:=1,bytes:=24,zero:=[.sl []],agg:=false,kind:= .sl 9 }
  | 112=>some { size:=1,bytes:=24,zero:=[.sl []],agg:=false,kind:= .sl 3 }
  | 149=>some { size:=7,bytes:=120,zero:=[.str [], .sl [], .int .i64 0, .int .i64 0, .str [], .sl [], .sl []],agg:=true,kind:= .struct [(0,1,false),(1,1,false),(2,5,true)] }
  | 187=>some { size:=1,bytes:=24,zero:=[.sl []],agg:=false,kind:= .sl 192 }
  | 189=>some { size:=4,bytes:=56,zero:=[.str [], .int .i64 0, .int .i64 0, .sl []],agg:=true,kind:= .struct [(0,1,false),(1,1,false),(2,1,false),(3,1,false)] }
  | 192=>some { size:=4,bytes:=40,zero:=[.int .i64 0, .int .i64 0, .str [], .int .i64 0],agg:=true,kind:= .struct [(0,1,false),(1,1,false),(2,1,false),(3,1,false)],cmp:=true }
  | 196=>some { size:=4,bytes:=56,zero:=[.int .i64 0, .int .i64 0, .str [], .sl []],agg:=true,kind:= .struct [(0,1,false),(1,1,false),(2,1,false),(3,1,false)] }
  | 223=>some { size:=10,bytes:=160,zero:=[.int .i64 0, .int .i64 0, .str [], .sl [], .sl [], .int .i64 0, .int .i64 0, .str [], .sl [], .sl []],agg:=true,kind:= .struct [(0,5,true),(5,5,true)] }
  | 238=>some { size:=3,bytes:=40,zero:=[.sl [], .int .i64 0, .int .i64 0],agg:=true,kind:= .struct [(0,1,false),(1,1,false),(2,1,false)] }
  | 289=>some { size:=3,bytes:=40,zero:=[.int .i64 0, .int .i64 0, .sl []],agg:=true,kind:= .struct [(0,1,false),(1,1,false),(2,1,false)] }
  | 309=>some { size:=3,bytes:=56,zero:=[.sl [], .sl [], .int .i64 0],agg:=true,kind:= .struct [(0,1,false),(1,1,false),(2,1,false)] }
  | 313=>some { size:=2,bytes:=32,zero:=[.sl [], .bool false],agg:=true,kind:= .struct [(0,1,false),(1,1,false)] }
  | _=>none
set_option maxRecDepth 100000 in
theorem Uj:bC Try.prog τ:=by
  intro t i h
  unfold τ at h
  split at h<;>(try cases h)
  · exact⟨_,_,_,rfl,rfl,rfl,rfl,rfl,rfl,rfl,by decide,rfl,rfl,nofun⟩
  · exact⟨_,_,_,rfl,rfl,rfl,rfl,rfl,rfl,rfl,by decide,rfl,rfl,nofun⟩
  · exact⟨_,_,_,rfl,rfl,rfl,rfl,rfl,rfl,rfl,by decide,rfl,rfl,nofun⟩
  · exact⟨_,_,_,rfl,rfl,rfl,rfl,rfl,rfl,rfl,by decide,rfl,rfl,nofun⟩
  · exact⟨_,_,_,rfl,rfl,rfl,rfl,rfl,rfl,rfl,by decide,rfl,rfl,nofun⟩
  · exact⟨_,_,_,rfl,rfl,rfl,rfl,rfl,rfl,rfl,by decide,rfl,rfl,nofun⟩
  · refine⟨_,_,_,rfl,rfl,rfl,rfl,rfl,rfl,rfl,by decide,rfl,⟨_,rfl,rfl,fun j f hf=> ?_⟩,nofun⟩
    match j with
    | 0=>simp at hf; subst hf; exact⟨_,_,rfl,rfl,rfl,rfl,by decide,rfl,rfl⟩
    | 1=>simp at hf; subst hf; exact⟨_,_,rfl,rfl,rfl,rfl,by decide,rfl,rfl⟩
    | j+2=>simp at hf
  · exact⟨_,_,_,rfl,rfl,rfl,rfl,rfl,rfl,rfl,by decide,rfl,rfl,nofun⟩
  · refine⟨_,_,_,rfl,rfl,rfl,rfl,rfl,rfl,rfl,by decide,rfl,⟨_,rfl,rfl,fun j f hf=> ?_⟩,nofun⟩
    match j with
    | 0=>simp at hf; subst hf; exact⟨_,_,rfl,rfl,rfl,rfl,by decide,rfl,rfl⟩
    | j+1=>simp at hf
  · exact⟨_,_,_,rfl,rfl,rfl,rfl,rfl,rfl,rfl,by decide,rfl,rfl,nofun⟩
  · exact⟨_,_,_,rfl,rfl,rfl,rfl,rfl,rfl,rfl,by decide,rfl,rfl,nofun⟩
  · refine⟨_,_,_,rfl,rfl,rfl,rfl,rfl,rfl,rfl,by decide,rfl,⟨_,rfl,rfl,fun j f hf=> ?_⟩,nofun⟩
    match j with
    | 0=>simp at hf; subst hf; exact⟨_,_,rfl,rfl,rfl,rfl,by decide,rfl,rfl⟩
    | 1=>simp at hf; subst hf; exact⟨_,_,rfl,rfl,rfl,rfl,by decide,rfl,rfl⟩
    | 2=>simp at hf; subst hf; exact⟨_,_,rfl,rfl,rfl,rfl,by decide,rfl,rfl⟩
    | 3=>simp at hf; subst hf; exact⟨_,_,rfl,rfl,rfl,rfl,by decide,rfl,rfl⟩
    | 4=>simp at hf; subst hf; exact⟨_,_,rfl,rfl,rfl,rfl,by decide,rfl,rfl⟩
    | j+5=>simp at hf
  · exact⟨_,_,_,rfl,rfl,rfl,rfl,rfl,rfl,rfl,by decide,rfl,rfl,nofun⟩
  · exact⟨_,_,_,rfl,rfl,rfl,rfl,rfl,rfl,rfl,by decide,rfl,rfl,nofun⟩
  · exact⟨_,_,_,rfl,rfl,rfl,rfl,rfl,rfl,rfl,by decide,rfl,rfl,nofun⟩
  · refine⟨_,_,_,rfl,rfl,rfl,rfl,rfl,rfl,rfl,by decide,rfl,⟨_,rfl,rfl,fun j f hf=> ?_⟩,nofun⟩
    match j with
    | 0=>simp at hf; subst hf; exact⟨_,_,rfl,rfl,rfl,rfl,by decide,rfl,rfl⟩
    | 1=>simp at hf; subst hf; exact⟨_,_,rfl,rfl,rfl,rfl,by decide,rfl,rfl⟩
    | 2=>simp at hf; subst hf; exact⟨_,_,rfl,rfl,rfl,rfl,by decide,rfl,rfl⟩
    | j+3=>simp at hf
  · exact⟨_,_,_,rfl,rfl,rfl,rfl,rfl,rfl,rfl,by decide,rfl,rfl,nofun⟩
  · refine⟨_,_,_,rfl,rfl,rfl,rfl,rfl,rfl,rfl,by decide,rfl,⟨_,rfl,rfl,fun j f hf=> ?_⟩,nofun⟩
    match j with
    | 0=>simp at hf; subst hf; exact⟨_,_,rfl,rfl,rfl,rfl,by decide,rfl,rfl⟩
    | 1=>simp at hf; subst hf; exact⟨_,_,rfl,rfl,rfl,rfl,by decide,rfl,rfl⟩
    | 2=>simp at hf; subst hf; exact⟨_,_,rfl,rfl,rfl,rfl,by decide,rfl,rfl⟩
    | 3=>simp at hf; subst hf; exact⟨_,_,rfl,rfl,rfl,rfl,by decide,rfl,rfl⟩
    | j+4=>simp at hf
  · refine⟨_,_,_,rfl,rfl,rfl,rfl,rfl,rfl,rfl,by decide,rfl,⟨_,rfl,rfl,fun j f hf=> ?_⟩,fun _=>⟨Try.eqGuardType192,Try.stoodInHeld192,_,rfl,rfl,fun j=>match j with | 0=>by intro g hg; simp at hg; subst hg; exact⟨by decide,rfl,rfl⟩ | 1=>by intro g hg; simp at hg; subst hg; exact⟨by decide,rfl,rfl⟩ | 2=>by intro g hg; simp at hg; subst hg; exact⟨by decide,rfl,rfl⟩ | 3=>by intro g hg; simp at hg; subst hg; exact⟨by decide,rfl,rfl⟩ | j+4=>by intro g hg; simp at hg⟩⟩
    match j with
    | 0=>simp at hf; subst hf; exact⟨_,_,rfl,rfl,rfl,rfl,by decide,rfl,rfl⟩
    | 1=>simp at hf; subst hf; exact⟨_,_,rfl,rfl,rfl,rfl,by decide,rfl,rfl⟩
    | 2=>simp at hf; subst hf; exact⟨_,_,rfl,rfl,rfl,rfl,by decide,rfl,rfl⟩
    | 3=>simp at hf; subst hf; exact⟨_,_,rfl,rfl,rfl,rfl,by decide,rfl,rfl⟩
    | j+4=>simp at hf
  · refine⟨_,_,_,rfl,rfl,rfl,rfl,rfl,rfl,rfl,by decide,rfl,⟨_,rfl,rfl,fun j f hf=> ?_⟩,nofun⟩
    match j with
    | 0=>simp at hf; subst hf; exact⟨_,_,rfl,rfl,rfl,rfl,by decide,rfl,rfl⟩
    | 1=>simp at hf; subst hf; exact⟨_,_,rfl,rfl,rfl,rfl,by decide,rfl,rfl⟩
    | 2=>simp at hf; subst hf; exact⟨_,_,rfl,rfl,rfl,rfl,by decide,rfl,rfl⟩
    | 3=>simp at hf; subst hf; exact⟨_,_,rfl,rfl,rfl,rfl,by decide,rfl,rfl⟩
    | j+4=>simp at hf
  · refine⟨_,_,_,rfl,rfl,rfl,rfl,rfl,rfl,rfl,by decide,rfl,⟨_,rfl,rfl,fun j f hf=> ?_⟩,nofun⟩
    match j with
    | 0=>simp at hf; subst hf; exact⟨_,_,rfl,rfl,rfl,rfl,by decide,rfl,rfl⟩
    | 1=>simp at hf; subst hf; exact⟨_,_,rfl,rfl,rfl,rfl,by decide,rfl,rfl⟩
    | j+2=>simp at hf
  · refine⟨_,_,_,rfl,rfl,rfl,rfl,rfl,rfl,rfl,by decide,rfl,⟨_,rfl,rfl,fun j f hf=> ?_⟩,nofun⟩
    match j with
    | 0=>simp at hf; subst hf; exact⟨_,_,rfl,rfl,rfl,rfl,by decide,rfl,rfl⟩
    | 1=>simp at hf; subst hf; exact⟨_,_,rfl,rfl,rfl,rfl,by decide,rfl,rfl⟩
    | 2=>simp at hf; subst hf; exact⟨_,_,rfl,rfl,rfl,rfl,by decide,rfl,rfl⟩
    | j+3=>simp at hf
  · refine⟨_,_,_,rfl,rfl,rfl,rfl,rfl,rfl,rfl,by decide,rfl,⟨_,rfl,rfl,fun j f hf=> ?_⟩,nofun⟩
    match j with
    | 0=>simp at hf; subst hf; exact⟨_,_,rfl,rfl,rfl,rfl,by decide,rfl,rfl⟩
    | 1=>simp at hf; subst hf; exact⟨_,_,rfl,rfl,rfl,rfl,by decide,rfl,rfl⟩
    | 2=>simp at hf; subst hf; exact⟨_,_,rfl,rfl,rfl,rfl,by decide,rfl,rfl⟩
    | j+3=>simp at hf
  · refine⟨_,_,_,rfl,rfl,rfl,rfl,rfl,rfl,rfl,by decide,rfl,⟨_,rfl,rfl,fun j f hf=> ?_⟩,nofun⟩
    match j with
    | 0=>simp at hf; subst hf; exact⟨_,_,rfl,rfl,rfl,rfl,by decide,rfl,rfl⟩
    | 1=>simp at hf; subst hf; exact⟨_,_,rfl,rfl,rfl,rfl,by decide,rfl,rfl⟩
    | 2=>simp at hf; subst hf; exact⟨_,_,rfl,rfl,rfl,rfl,by decide,rfl,rfl⟩
    | j+3=>simp at hf
  · refine⟨_,_,_,rfl,rfl,rfl,rfl,rfl,rfl,rfl,by decide,rfl,⟨_,rfl,rfl,fun j f hf=> ?_⟩,nofun⟩
    match j with
    | 0=>simp at hf; subst hf; exact⟨_,_,rfl,rfl,rfl,rfl,by decide,rfl,rfl⟩
    | 1=>simp at hf; subst hf; exact⟨_,_,rfl,rfl,rfl,rfl,by decide,rfl,rfl⟩
    | j+2=>simp at hf
abbrev vi:V:= .one (.c (.int .i64 0))
abbrev vy:V:= .one (.c (.int .u8 0))
abbrev vb:V:= .one (.c (.bool false))
abbrev vl:V:= .one (.c (.sl []))
abbrev vs:V:= .one (.c (.str []))
abbrev vj:V:= .one .junk
abbrev tl0:List T:=[.int .i64 0, .int .i64 0, .str [], .sl [], .sl []]
abbrev tl1:List T:=[.int .i64 0, .int .i64 0, .str [], .sl []]
abbrev tl2:List T:=[.str [], .int .i64 0, .int .i64 0, .sl []]
abbrev tl3:List T:=[.int .i64 0, .int .i64 0, .str [], .int .i64 0]
abbrev tl5:List T:=[.int .i64 0, .int .i64 0, .str [], .sl [], .sl [], .int .i64 0, .int .i64 0, .str [], .sl [], .sl []]
abbrev tl6:List T:=[.sl [], .int .i64 0, .int .i64 0]
abbrev tl7:List T:=[.str [], .sl [], .int .i64 0, .int .i64 0, .str [], .sl [], .sl []]
abbrev tl8:List T:=[.sl [], .sl [], .int .i64 0]
abbrev tl9:List T:=[.int .i64 0, .int .i64 0, .sl []]
abbrev US:List T:=[.sl [], .bool false]
abbrev x0:B:=⟨[(0,[[.S]])],[]⟩
abbrev x1:B:=⟨[(0,[[.S]])],[(1000000,[.F, .S, .S])]⟩
abbrev x2:B:=⟨[(0,[[.S, .S, .S, .F]]),(1,[[.S, .S, .S, .F]])],[]⟩
abbrev x3:B:=⟨[(0,[[.S]]),(1,[[.F]])],[(1000000,[.F, .S, .S])]⟩
abbrev x4:B:=⟨[(0,[[.S]]),(1,[[.S, .S, .S, .F, .F]]),(2,[[.F]]),(3,[[.F]])],[(1000000,[.A 4, .A 4, .S])]⟩
abbrev x5:B:=⟨[(0,[[.F]])],[]⟩
abbrev x6:B:=⟨[(0,[[.F]]),(1,[[.F]]),(2,[[.S]])],[]⟩
abbrev x7:B:=⟨[(0,[])],[(1000000,[.A 4, .A 4, .S])]⟩
abbrev x8:B:=⟨[(0,[[.U 1]])],[]⟩
abbrev x9:B:=⟨[(0,[[.S]])],[(1000000,[.F, .F])]⟩
abbrev x10:B:=⟨[(0,[[.S, .S, .S, .U 5, .U 10]])],[(1000000,[.F, .S, .S])]⟩
abbrev x11:B:=⟨[(0,[[.F, .F]])],[]⟩
abbrev x12:B:=⟨[(0,[[.F]]),(1,[[.S]])],[]⟩
abbrev x13:B:=⟨[(0,[[.S]]),(1,[[.S]])],[(1000000,[.F, .S, .S])]⟩
abbrev x14:B:=⟨[(0,[[.A 4, .A 4]])],[(1000000,[.F, .S, .S])]⟩
abbrev x15:B:=⟨[(0,[[.S]]),(1,[[.S]]),(2,[[.S]])],[]⟩
abbrev x16:B:=⟨[(0,[[.F, .F]]),(1,[[.F, .F]])],[]⟩
abbrev x17:B:=⟨[(0,[])],[(1000000,[.U 1, .S])]⟩
abbrev x18:B:=⟨[(0,[[.S, .S, .S, .N, .N]])],[]⟩
abbrev x19:B:=⟨[(0,[[.S, .S, .S, .F, .F]])],[]⟩
abbrev x20:B:=⟨[(0,[[.U 1]]),(1,[[.S]])],[]⟩
abbrev x21:B:=⟨[(0,[[.S]])],[(1000000,[.S])]⟩
abbrev x22:B:=⟨[(0,[[.F]]),(1,[[.F]])],[]⟩
abbrev y0:V:= .one (.ptr 1000000 0)
abbrev y1:V:= .one (.ag [.sl [], .sl []])
abbrev y2:V:= .one (.ag tl0)
abbrev y3:V:= .one (.pp (.oc 3 0) [] 0 0)
abbrev y4:V:= .one (.ag tl1)
abbrev y5:V:= .one (.ptr 3 0)
abbrev y6:V:= .one (.cp tl2)
abbrev y7:V:= .one (.ptr 2 0)
abbrev y8:V:= .one (.ag tl3)
abbrev y9:V:= .one (.ptr 1000000 1)
abbrev y10:V:= .one (.cp [.int .i64 0])
abbrev y11:V:= .one (.ptr 5 0)
abbrev y12:V:= .one (.ptr 1 0)
abbrev y13:V:= .one (.ptr 1000001 0)
abbrev y14:V:= .one (.ptr 5 1)
abbrev y15:V:= .one (.ptr 5 3)
abbrev y16:V:= .one (.ptr 5 2)
abbrev y17:V:= .one (.pp (.oc 3 0) [] 0 3)
abbrev y18:V:= .one (.ag tl2)
abbrev y19:V:= .one (.ptr 1000000 2)
abbrev y20:V:= .one (.ptr 4 0)
abbrev y21:V:= .one (.ptr 3 1)
abbrev y22:V:= .one (.ptr 2 2)
abbrev y23:V:= .one (.cp tl1)
abbrev y24:V:= .one (.ptr 28 0)
abbrev y25:V:= .one (.ptr 3 3)
abbrev y26:V:= .one (.cp [.str []])
abbrev y27:V:= .one (.ptr 2 1)
abbrev y28:V:= .one (.ptr 2 3)
abbrev y29:V:= .one (.ptr 1000002 0)
abbrev y30:V:= .one (.pp (.oc 3 0) [(0,0)] 0 0)
abbrev y31:V:= .one (.cp tl0)
abbrev y32:V:= .tup []
abbrev y33:V:= .one (.ptr 7 0)
abbrev y34:V:= .one (.ptr 8 0)
abbrev y35:V:= .one (.ptr 4 1)
abbrev y36:V:= .one (.ptr 1 1)
abbrev y37:V:= .one (.cp tl3)
abbrev y38:V:= .one (.cp [.sl []])
abbrev y39:V:= .one (.ptr 8 3)
abbrev y40:V:= .one (.pp (.oc 1000000 0) [] 0 0)
abbrev y41:V:= .one (.cp [.int .u8 0])
abbrev y42:V:= .one (.al (.oc 3 0) [(0,0)])
abbrev y43:V:= .one (.al (.oc 1000000 0) [])
abbrev y44:V:= .one (.ptr 4 3)
abbrev y45:V:= .one (.ptr 3 2)
abbrev y46:V:= .one (.ag [.sl []])
abbrev y47:V:= .tup [.ag [.sl [], .sl []], .ag [.sl [], .sl []]]
abbrev y48:V:= .one (.cp tl5)
abbrev y49:V:= .one (.ptr 13 4)
abbrev y50:V:= .one (.ptr 9 0)
abbrev y51:V:= .one (.ptr 6 0)
abbrev y52:V:= .one (.ptr 4 4)
abbrev y53:V:= .one (.ptr 1 3)
abbrev y54:V:= .tup [.c (.sl []), .c (.bool false)]
abbrev y55:V:= .one (.pp (.oc 1000000 0) [] 0 3)
abbrev y56:V:= .one (.fn 243 [(1000000,0)])
abbrev y57:V:= .one (.ptr 9 1)
abbrev y58:V:= .one (.ptr 5 4)
def F11:FA:= { n:=48,sh:=[vl,vj,vb,y5,y20,vb,vl,vl,vl,vb,y47,vl,y47,y1,y1,y1,y1,vb,vb,y1,y1,vb,vb,vb,y1,y1,vb,vb,vb,y1,vl,y1,vl,vl,vi,vb,vb,vl,vi,vb,vb,vb,vl,vl,vb,vb,vb,vb],obs:=[(3,[.sl [], .sl []]),(4,[.sl [], .sl []])],tk:=[10,11,23,29,31,36,41,42,43,45],keep:=[(0,[0]),(1,[0,9]),(2,[2]),(3,[3,4]),(4,[3,4,5]),(5,[3,4,5,28]),(6,[2]),(7,[4,5,6]),(8,[5,6,7]),(9,[2])] }
def F45:FA:= { n:=6,sh:=[vl,vj,vb,vl,vi,vb],obs:=[],tk:=[3],keep:=[(0,[0]),(1,[2])] }
def F63:FA:= { n:=19,sh:=[vl,vj,y7,y5,y33,y11,vl,y33,y33,y1,y33,vb,y1,y1,y1,y1,y33,y1,y1],obs:=[(2,[.sl [], .sl []]),(3,[.sl [], .sl []]),(5,[.sl [], .sl []]),(7,tl6)],tk:=[6,13,16,17],fz:=[9,17],nw:=[7],keep:=[(0,[0,2,3]),(1,[2,3,4]),(2,[2,3,4,5]),(3,[2,3,4,5,11]),(4,[2,3]),(5,[2,3])] }
def F64:FA:= { n:=19,sh:=[y1,y1,y7,y5,vb,vb,y7,vl,y5,vl,vb,vb,vb,y27,vl,y21,vl,vb,vb],obs:=[(2,[.sl [], .sl []]),(3,[.sl [], .sl []])],tk:=[7,9,11,12,14,16],keep:=[(0,[2,3]),(1,[2,3,5]),(2,[4])] }
def F65:FA:= { n:=61,sh:=[y1,y1,y7,y5,vb,vi,vi,y7,vl,vi,y5,vl,vi,vb,vb,y27,vl,vi,y21,vl,vi,vb,vb,vi,y7,vl,vi,vb,vi,vi,y7,vl,vi,y6,y18,y5,vl,vi,y6,y18,vb,vb,vi,y27,vl,vi,vb,vi,vi,y27,vl,vi,y23,y4,y21,vl,vi,y23,y4,vb,vb],obs:=[(2,[.sl [], .sl []]),(3,[.sl [], .sl []])],tk:=[14,28,47],keep:=[(0,[2,3]),(1,[2,3,22]),(2,[4]),(3,[2,3,5]),(4,[2,3,5,27]),(5,[2,3,5]),(6,[2,3,5,41]),(7,[4]),(8,[2,3,6]),(9,[2,3,6,46]),(10,[2,3,6]),(11,[2,3,6,60]),(12,[4]),(13,[4])] }
def F66:FA:= { n:=82,sh:=[y1,y12,vl,vl,vj,y11,vj,y33,vj,y50,y1,vb,vb,vb,y1,vb,vb,vb,y12,vl,vi,vl,y12,vl,vi,vi,vb,y6,y18,vl,y11,vs,vl,y14,vi,vl,y16,vi,vl,y15,vl,vi,vl,y15,vl,vi,vi,vb,y37,y8,vl,y33,vi,vl, .one (.ptr 7 1),vi,vl, .one (.ptr 7 2),vs,vl, .one (.ptr 7 3),vi,vl,vi,vi,vl,y36,vl,vi,vl,y36,vl,vi,vi,vb,y23,y4,vl,y4,vl,vi,vl],obs:=[(1,[.sl [], .sl []]),(5,tl2),(7,tl3),(9,tl1)],tk:=[13,23,25,29,31,34,37,44,46,50,52,55,58,61,65,71,73,77,78,81],keep:=[(0,[1]),(1,[1,17]),(2,[2]),(3,[1,3]),(4,[1,3,23,24,25]),(5,[1,3,23,24,25,26]),(6,[1,3,5,23,24,25]),(7,[1,3,5,23,24,25]),(8,[1,3,23,24,25,44,45,46]),(9,[1,3,23,24,25,44,45,46,47]),(10,[1,3,7,23,24,25,44,45,46]),(11,[1,3,23,24,25,44,45,46]),(12,[1,3,23,24,25,44,45,46]),(13,[1,3,23,24,25]),(14,[1,3]),(15,[3,71,72,73]),(16,[3,71,72,73,74]),(17,[3,9,71,72,73]),(18,[3,71,72,73]),(19,[3,71,72,73]),(20,[2])] }
def F67:FA:= { n:=26,sh:=[vl,vl,vj,vj,vb,vi,vl,vi,vl,vi,vb,vi,vl,vi,vb,vi,vi,vl,vi,y41,vy,vl,vi,y41,vy,vb],obs:=[],tk:=[15],keep:=[(0,[0,1]),(1,[0,1,10]),(2,[4]),(3,[0,1,5]),(4,[0,1,5,14]),(5,[0,1,5]),(6,[0,1,5,25]),(7,[4]),(8,[4])] }
def F69:FA:= { n:=15,sh:=[vi,vi,vi,vj,vj,vj,vb,vi,vi,vb,vb,vi,vi,vb,vb],obs:=[],tk:=[8,10,11,12],keep:=[(0,[0,1,2]),(1,[6])] }
def F72:FA:= { n:=18,sh:=[vl,vj,vb,vi,vi,vl,vi,vb,vi,vi,vl,vi,vl,vl,vi,y26,vs,vb],obs:=[],tk:=[8],keep:=[(0,[0]),(1,[0,3]),(2,[0,3,7]),(3,[0,3]),(4,[0,3,17]),(5,[2]),(6,[2])] }
def F75:FA:= { n:=15,sh:=[vi,vi,vi,vj,vj,vj,vb,vi,vi,vb,vb,vi,vi,vb,vb],obs:=[],tk:=[8,10,11,12],keep:=[(0,[0,1,2]),(1,[6])] }
def F81:FA:= { n:=50,sh:=[y1,y12,y7,y5,vi,y11,vi,y1,vi,y12,vl,vi,vb,vi,vi,y12,vl,vi,y6,y18,vl,y15,vl,vl,y15,y5,vl,y18,vl,vl,y5,vi,y36,vl,vi,vb,vi,vi,y21,vl,y36,vl,vi,y23,y4,y4,vl,vl,y21,y1],obs:=[(1,[.sl [], .sl []]),(2,[.sl [], .sl []]),(3,[.sl [], .sl []]),(5,tl2)],tk:=[13,22,26,27,36,39,49],dp:=[20,23,28,29,46,47],keep:=[(0,[1,2]),(1,[1,2,3]),(2,[1,2,3,4]),(3,[1,2,3,4,12]),(4,[1,2,3,4]),(5,[1,2,3,4,5]),(6,[1,2,3,4,5]),(7,[1,2,3,4]),(8,[1,2,3,6]),(9,[1,2,3,6,35]),(10,[1,2,3,6]),(11,[1,2,3,6]),(12,[2])] }
def F96:FA:= { n:=18,sh:=[vl,vs,vj,vj,vb,vi,vi,vl,vi,vb,vi,vi,vl,vi,y26,vs,vs,vb],obs:=[],tk:=[10],keep:=[(0,[0,1]),(1,[0,1,5]),(2,[0,1,5,9]),(3,[0,1,5]),(4,[0,1,5,17]),(5,[4]),(6,[4])] }
def F118:FA:= { n:=32,sh:=[vl,vj, .one (.ptr 31 0),vi,vi,vl,vi,vi,vi,vl,vi,vb,vb,vi,vb,vb,vi,vi,vi,vi,vl,vi,y41,vy,vi,vi,vi,vi,vl,vi, .one (.ag tl6), .one (.ptr 31 0)],obs:=[(31,tl6)],tk:=[12,16,18,28,29],keep:=[(0,[0]),(1,[0,3]),(2,[0,3,4]),(3,[0,3,4,15]),(4,[0,3,4]),(5,[0,3,4]),(6,[2])],n0:=some 31 }
def F119:FA:= { n:=31,sh:=[y0,vi,vj,vj,vi,vi,vi,vi,vi,vb,vi,vb,y0,vi,vi,vi,y0,vi,y0,vi,y0,vi,vi,vi,vi,vi,vi,vi,vi,vi,vi],obs:=[(1000000,tl6)],tk:=[12,14,20,22,24,27,29],keep:=[(0,[0,1]),(1,[0,1,9]),(2,[4]),(3,[0,1,11]),(4,[4]),(5,[0,1,5]),(6,[0,1,5,6]),(7,[1,5,6,7]),(8,[4])] }
def F121:FA:= { n:=9,sh:=[y0,vi,vj,vj,vb,y0,vi,vi,vb],obs:=[(1000000,tl6)],tk:=[5,6],keep:=[(0,[0,1]),(1,[4])] }
def F128:FA:= { n:=83,sh:=[y0,vi,y13,vj,vj,vj,y51,vs,y34,vi,vi,y0,vi,vb,vb,y0,vi,y2,vb,vb,y0,vl,vs,y2,vb,vb,y2,vb,vb,vb,vb,y0,vl,vs,y13,y13,vl,vs,vb,y2,y13,y13,y13,vl,vs,vl,vl,y13,vs,y2,y0,vl,vi,y2,y0,vi,y34,vi,vb,vi,vi,vb,vi,vi,vi,vb,y39,vl,y0,vi,vi,y13,y2,vl,vl,y39,y39,vl,y2,vl,vl,y39,y2],obs:=[(6,tl0),(8,tl0),(1000000,tl6),(1000001,[.sl []])],tk:=[15,20,31,41,43,48,62,67,77,82],dp:=[21,32,45,51,73,74,79,80],fz:=[21,32,51],keep:=[(0,[0,1,2,6]),(1,[0,1,2,6,12]),(2,[0,1,2,6,12,13]),(3,[6]),(4,[0,1,2,6,12,18]),(5,[6]),(6,[0,1,2,6,12,24]),(7,[6]),(8,[0,1,2,6,12,27]),(9,[0,1,2,6,12,27]),(10,[0,1,2,6,27]),(11,[2,6,7]),(12,[2,6,7,38]),(13,[6]),(14,[6,7]),(15,[6]),(16,[0,1,2,6,8]),(17,[0,1,2,6,8,9]),(18,[0,1,2,6,8,9,58]),(19,[0,1,2,6,8,9]),(20,[0,1,2,6,8,9,10]),(21,[0,1,2,6,8,9,10,61]),(22,[0,1,2,6,8,9,10]),(23,[0,1,2,6,8,9,10,65]),(24,[0,1,2,6,8,9,10]),(25,[0,1,2,6,8,9,10]),(26,[6])] }
def F135:FA:= { n:=12,sh:=[y0,vj,y7,y5,y0,y1,y0,vb,y0,y1,y1,y1],obs:=[(2,[.sl [], .sl []]),(3,[.sl [], .sl []]),(1000000,tl6)],tk:=[8,9,11],fz:=[9],keep:=[(0,[0,2]),(1,[0,2,3]),(2,[0,2,3,7]),(3,[2,3]),(4,[2])] }
def F136:FA:= { n:=132,sh:=[y0,y1,vj,y5,y20,y3,vi,y1,y1,y5,vl,vi,vb,y1,y5, .one (.al (.oc 3 0) []),y0,y5,vl,vi,vi,y3,y3,y3,y17,vl,vi,vb,y1,y0,y3,y3,y17,vl,vi,vi,y0,vi,vb,vb,y3,y3,y17,y42,vi,y0,vi,y30,y30,vb,vb,y3,y3,y17,y42,vi,y0,vl,vi,y30, .one (.pp (.oc 3 0) [(0,0)] 0 1),vb,vb,y3,y3,y17,y42,vi,y0,vi,vi,vi,y3,y3,y17,vl,vi,vl,vi,y30, .one (.pp (.oc 3 0) [(0,0)] 0 3),vb,vb,y3,y3,y3,y17,vl,vi,vl,y3,y17,vb,vb,y3,y0,vl,vs,y3,y3,vb,vb,y3,y0,vl,vi,y3, .one (.pp (.oc 3 0) [] 0 2),vb,vb,y3,y0,vl,vi,y3, .one (.pp (.oc 3 0) [] 0 1),vb,vb,y21,vl,vi,vb,y21, .one (.al (.oc 3 1) []),y0,vi,y0,vl,vi,y4, .one (.pp (.oc 3 1) [] 0 0),y1],obs:=[(3,[.sl [], .sl []]),(4,[.sl [], .sl []]),(1000000,tl6)],al:=[15,43,54,66,123],tk:=[7,13,28,40,44,45,51,55,56,68,70,72,84,87,88,89,94,95,102,103,110,111,126,131],dp:=[57,77,96,104,112,127],fz:=[57,77,96,104,112,127],keep:=[(0,[0,3,4]),(1,[0,3,4]),(2,[0,3,4,12]),(3,[4]),(4,[0,3,4,5]),(5,[0,3,4,5,27]),(6,[4]),(7,[0,3,4,5,6]),(8,[0,3,4,5,6,37]),(9,[0,3,4,5,6,37,38]),(10,[3,4]),(11,[0,3,4,5,6,37,49]),(12,[3,4]),(13,[0,3,4,5,6,37,61]),(14,[3,4]),(15,[0,3,4,5,6,37,81]),(16,[3,4]),(17,[0,3,4,5,37,92]),(18,[3,4]),(19,[0,3,4,5,37,100]),(20,[3,4]),(21,[0,3,4,5,37,108]),(22,[3,4]),(23,[0,3,4,116]),(24,[0,3,4,121]),(25,[3,4]),(26,[4])] }
def F137:FA:= { n:=32,sh:=[vl,vl, .one (.fn 138 []),vj,vj,vj,vb,vi,y34,y50,vl,vi,vl,vi,vb,vl,vi,vi,vb,vi,y6,y18,vl,vi,y6,y18, .one (.fn 138 []),y18,y18,vb,vb,vi],obs:=[(8,tl2),(9,tl2)],tk:=[15,17,23,27,28],keep:=[(0,[0,1,2]),(1,[0,1,2,14]),(2,[6]),(3,[1,2,15,16,17]),(4,[1,2,15,16,17,18]),(5,[1,2,7,8,15,16,17]),(6,[1,2,8,9,15,16,17]),(7,[1,2,15,16,17,30]),(8,[6]),(9,[1,2,15,16,17]),(10,[6])] }
def F138:FA:= { n:=31,sh:=[y18,y18,y7,y5,vb,y7,vs,y5,vs,vb,vb,y27,vi,y21,vi,vb,vb,vb,y22,vi,y45,vi,vb,vb,vb,y28,vl,y25,vl,vb,vb],obs:=[(2,tl2),(3,tl2)],tk:=[6,8,10,12,14,17,19,21,24,26,28],keep:=[(0,[2,3]),(1,[4])] }
def F139:FA:= { n:=26,sh:=[vl,vl,vj,vj,vb,vi,vl,vi,vl,vi,vb,vl,vi,vi,vb,vi,vl,vi,y37,y8,vl,vi,y37,y8,vb,vi],obs:=[],tk:=[13,21],keep:=[(0,[0,1]),(1,[0,1,10]),(2,[4]),(3,[0,1,12,13]),(4,[0,1,12,13,14]),(5,[0,1,5,12,13]),(6,[0,1,12,13,24]),(7,[4]),(8,[0,1,12,13]),(9,[4])] }
def F140:FA:= { n:=32,sh:=[vl,vl, .one (.fn 141 []),vj,vj,vj,vb,vi,y34,y50,vl,vi,vl,vi,vb,vl,vi,vi,vb,vi,y23,y4,vl,vi,y23,y4, .one (.fn 141 []),y4,y4,vb,vb,vi],obs:=[(8,tl1),(9,tl1)],tk:=[15,17,23,27,28],keep:=[(0,[0,1,2]),(1,[0,1,2,14]),(2,[6]),(3,[1,2,15,16,17]),(4,[1,2,15,16,17,18]),(5,[1,2,7,8,15,16,17]),(6,[1,2,8,9,15,16,17]),(7,[1,2,15,16,17,30]),(8,[6]),(9,[1,2,15,16,17]),(10,[6])] }
def F141:FA:= { n:=31,sh:=[y4,y4,y7,y5,vb,y7,vi,y5,vi,vb,vb,y27,vi,y21,vi,vb,vb,vb,y22,vs,y45,vs,vb,vb,vb,y28,vl,y25,vl,vb,vb],obs:=[(2,tl1),(3,tl1)],tk:=[6,8,10,12,14,17,19,21,24,26,28],keep:=[(0,[2,3]),(1,[4])] }
def F142:FA:= { n:=52,sh:=[y18,y18,y7,y5,vb,vi,y7,vs,y5,vs,vb,vb,y27,vi,y21,vi,vb,vb,vb,y22,vi,y45,vi,vb,vb,vb,y28,vl,vi,y25,vl,vi,vb,vb,vi,y28,vl,vi,vb,vi,vi,y28,vl,vi,y37,y8,y25,vl,vi,y37,y8,vb],obs:=[(2,tl2),(3,tl2)],tk:=[7,9,11,13,15,18,20,22,25,39],keep:=[(0,[2,3]),(1,[2,3,33]),(2,[4]),(3,[2,3,5]),(4,[2,3,5,38]),(5,[2,3,5]),(6,[2,3,5,51]),(7,[4]),(8,[4])] }
def F143:FA:= { n:=53,sh:=[y4,y4,y7,y5,vb,vi,y7,vi,y5,vi,vb,vb,y27,vi,y21,vi,vb,vb,vb,y22,vs,y45,vs,vb,vb,vb,y28,vl,vi,y25,vl,vi,vb,vb,vi,y28,vl,vi,vb,vi,vi,y28,vl,vi,y23,y4,y25,vl,vi,y23,y4,vb,vb],obs:=[(2,tl1),(3,tl1)],tk:=[7,9,11,13,15,18,20,22,25,39],keep:=[(0,[2,3]),(1,[2,3,33]),(2,[4]),(3,[2,3,5]),(4,[2,3,5,38]),(5,[2,3,5]),(6,[2,3,5,52]),(7,[4]),(8,[4])] }
def F144:FA:= { n:=38,sh:=[y1,y12,vb,vi,y12,vl,vi,vb,vb,y36,vl,vi,vb,vb,y12,vl,vi,vi,vb,vi,y12,vl,vi,y6,y26,vs,vi,vi,vb,vb,y12,vl,vi,y6,vb,vb,vb,vi],obs:=[(1,[.sl [], .sl []])],tk:=[8,17,29,32],keep:=[(0,[1]),(1,[1,13]),(2,[2]),(3,[1,16,17]),(4,[1,16,17,18]),(5,[1,3,16,17]),(6,[1,16,17,36]),(7,[2]),(8,[1,16,17]),(9,[2])] }
def F145:FA:= { n:=16,sh:=[y1,y12,vb,vj,y20,y36,vl,vi,vi,vb,y23,y4,y4,vb,vb,vi],obs:=[(1,[.sl [], .sl []]),(4,tl1)],tk:=[6,8,12],keep:=[(0,[1]),(1,[6,7,8]),(2,[6,7,8,9]),(3,[4,6,7,8]),(4,[6,7,8,14]),(5,[2]),(6,[6,7,8]),(7,[2])] }
def F146:FA:= { n:=32,sh:=[vl,vi,vj,vj,vl,vi,vi,vi,vi,vi,vi,vi,vb,vi,vi,vi,vi,vb,vl,vi,vi,vi,vy,vl,vl,vi,vi,vl,vi,vy,vl,vl],obs:=[],tk:=[6,13,18,25,27,28],dp:=[23,24,30,31],keep:=[(0,[0,1]),(1,[0,1]),(2,[0,1,5]),(3,[0,1,5,12]),(4,[0,5]),(5,[0,5,17]),(6,[0,5]),(7,[0,5]),(8,[4])] }
def F147:FA:= { n:=11,sh:=[vl,vs,vj,vj,vl,vl,vs,vi,vl,vs,vl],obs:=[],tk:=[5,9],dp:=[10],keep:=[(0,[0,1]),(1,[4])] }
def F148:FA:= { n:=33,sh:=[vl,y4,vj,y5,vl,vj,y51,vl,y5,vi,vl,y21,vi,vl,y45,vs,vl,y25,vl,vi,vl,y25,vl,vi,vi,vb,y23,y4,vl,y4,vl,vi,vl],obs:=[(3,tl1),(6,tl1)],tk:=[7,9,12,15,22,24,28,29,32],keep:=[(0,[0,3]),(1,[0,3]),(2,[0,22,23,24]),(3,[0,22,23,24,25]),(4,[0,6,22,23,24]),(5,[0,22,23,24]),(6,[0,22,23,24]),(7,[4])] }
def F161:FA:= { n:=27,sh:=[y4,y12,y7,y5,vi,y4,vl,y25,vi,y53,vl,vi,vb,vi,vi,y25,vl,y53,vl,vi,y23,y4,y4,vl,vl,y25,y4],obs:=[(1,tl1),(2,tl1),(3,tl1)],tk:=[13,16,26],dp:=[6,23,24],keep:=[(0,[1,2]),(1,[1,2,3]),(2,[1,2,3]),(3,[1,2,3,4]),(4,[1,2,3,4,12]),(5,[1,2,3,4]),(6,[1,2,3,4]),(7,[2])] }
def F183:FA:= { n:=89,sh:=[y2,vb,vi,vi,y20,vj,vj,vj,vi,vi,vi,vi,vb,vb,vi,vb,vb,vb,y2,vb,vb,vb,vb,vi,vi,vi,y44,vl,vi,vb,vb,vi,vb,vb,vi,vi,y44,vl,vi,y31,y2,vb,vi,vi,vi,vi,vi,y52,vl,vi,vb,vb,vi,vb,vb,vi,vi,y52,vl,vi,y48,y31,y2,vl,vb,vb,y52,vl,vi,y48,y31,y2,vi,vi,vi,vi,vi,vb,y52,vl,vi,y48,y31,y2,vi,vi,vi,vi,vi],obs:=[(4,tl0)],tk:=[13,17,23,30,34,44,51,55,74,86,88],keep:=[(0,[1,2,3,4]),(1,[1,2,3,4,22]),(2,[8]),(3,[1,2,3,4]),(4,[1,2,3,4,9]),(5,[1,2,3,4,9,33]),(6,[1,2,3,4,9]),(7,[1,2,3,4,9]),(8,[2,3,4,10]),(9,[2,3,4,10,54]),(10,[2,3,4,10]),(11,[2,3,4,10,65]),(12,[8]),(13,[2,3,4,10]),(14,[2,3,4,10,77]),(15,[2,3,4,10]),(16,[8])] }
def F184:FA:= { n:=34,sh:=[y2,y12,vl,vl,vi,vl,y12,vi,vb, .one (.ptr 1 2),vs,vb,vl, .one (.ptr 1 2),vs,vl,vl,vl,vi,y53,vl,vi,vb,vi,vi,vl,y53,vl,vi,y31,y2,vl,vl,vl],obs:=[(1,tl0)],tk:=[7,12,14,17,23,25,33],dp:=[5,15,16,32],keep:=[(0,[1]),(1,[1,3]),(2,[1,3,8]),(3,[1,3,11]),(4,[3]),(5,[2]),(6,[1,3,4]),(7,[1,3,4,22]),(8,[1,3,4]),(9,[1,3,4]),(10,[2])] }
def F189:FA:= { n:=58,sh:=[y0,vj,vi,vi,y0,y0,y0,y19,vi,vi,vi,y0,y19,y0,y0,y19,vi,vi,y0,y0,y19,vi,vi,vi,vi,y0,y0,y9,vi,y0,y0,y0,vl,vi,vb,vi,y0,y0,y0,vl,y0,y0,y9,vi,y41,vy,vi,vi,vi,y0,y0,y0,y9,vi,vi,y0,y9,vi],obs:=[(1000000,tl6)],tk:=[8,35,50,53,57],keep:=[(0,[0]),(1,[0]),(2,[0,3]),(3,[0,3,34]),(4,[0,3]),(5,[3]),(6,[2])] }
def F190:FA:= { n:=12,sh:=[y0,vl,vj,vj,vi,vl,y0,vl,vi,vi,y10,vi],obs:=[(1000000,tl6)],tk:=[6,7],keep:=[(0,[0,1]),(1,[4])] }
def F191:FA:= { n:=12,sh:=[y0,vl,vj,vj,vs,vl,y0,vl,vi,vi,y26,vs],obs:=[(1000000,tl6)],tk:=[6,7],keep:=[(0,[0,1]),(1,[4])] }
def F194:FA:= { n:=36,sh:=[vs,vj,vb,vi,vi,vb,vi,vs,vi,vb,vi,vi,vs,vi,vy,vi,vi,vb,vb,vb,vb,vi,vb,vb,vi,vb,vb,vb,vi,vb,vb,vb,vb,vs,vi,vb],obs:=[],tk:=[10,18,20,23,27,28,33],keep:=[(0,[0]),(1,[0,3]),(2,[0,3,9]),(3,[0,3]),(4,[0,3,4]),(5,[0,3,4,5]),(6,[0,3,32]),(7,[2]),(8,[2])] }
def F196:FA:= { n:=35,sh:=[vs,vj,vb,vi,vi,vs,vi,vb,vi,vi,vs,vi,vy,vb,vb,vb,vi,vb,vb,vs,vi,vy,vb,vb,vb,vs,vi,vy,vb,vb,vb,vb,vs,vi,vb],obs:=[],tk:=[8,15,18,24,32],keep:=[(0,[0]),(1,[0,3]),(2,[0,3,7]),(3,[0,3]),(4,[0,3,31]),(5,[2]),(6,[2])] }
def F197:FA:= { n:=5,sh:=[vi,vj,y7,vi,y2],obs:=[(2,tl0)],tk:=[3],keep:=[(0,[0,2]),(1,[2])] }
def F198:FA:= { n:=5,sh:=[vs,vj,y7,vs,y2],obs:=[(2,tl0)],tk:=[3],keep:=[(0,[0,2]),(1,[2])] }
def F205:FA:= { n:=6,sh:=[y0,vj,y7,y0,y46,y1],obs:=[(2,[.sl [], .sl []]),(1000000,tl6)],tk:=[3],fz:=[4],keep:=[(0,[0,2]),(1,[2])] }
def F206:FA:= { n:=11,sh:=[y0,vs,vj,y5,vi,y0,y0,y0,vl, .one (.fn 243 [(3,0)]),vi],obs:=[(3,[.str []]),(1000000,[.sl [], .sl []])],tk:=[5],keep:=[(0,[0,3]),(1,[4])] }
def F207:FA:= { n:=65,sh:=[y0,y6,vj,vj,vb,vj,y51,vl,vb,y6,y6,y26,vs,vb,vb,vb,y6,y6,y10,vi,vb,vb,vb,vb,y6,y6,y10,vi,y6,y6,y10,vi,vb,vb,vb,vb,y6,y6,y38,vl,vi,vb,vb,vb,y6,y6,y38,vl,vi,vi,vb,y37,y8,y0,y6,y8,vb,vb,vi,y54,y6,y54,vl,vb,vb],obs:=[(6,tl3),(1000000,[.sl [], .sl []])],tk:=[15,23,35,49,55,59,60,64],keep:=[(0,[0,1]),(1,[0,1,43]),(2,[4]),(3,[0,1,47,48,49]),(4,[0,1,47,48,49,50]),(5,[0,1,6,47,48,49]),(6,[0,1,47,48,49,57]),(7,[4]),(8,[0,1,47,48,49]),(9,[8]),(10,[4])] }
def F208:FA:= { n:=14,sh:=[y4,vi,y7,vj,vb,y11,vi, .one (.ag tl9),vi,vb,vb,y4,vb,vb],obs:=[(2,tl1),(5,tl9)],tk:=[8,10,11],keep:=[(0,[1,2]),(1,[1,2,5]),(2,[4])] }
def F223:FA:= { n:=36,sh:=[vs,vj,vb,vi,vi,vs,vi,vb,vi,vi,vs,vi,vy,vb,vb,vb,vi,vb,vb,vs,vi,vy,vb,vb,vb,vs,vi,vy,vb,vb,vb,vb,vb,vs,vi,vb],obs:=[],tk:=[8,15,18,24,33],keep:=[(0,[0]),(1,[0,3]),(2,[0,3,7]),(3,[0,3]),(4,[0,3,32]),(5,[2]),(6,[2])] }
def F224:FA:= { n:=10,sh:=[vs,vj,vb,vs,vb,vb,vs,vb,vb,vb],obs:=[],tk:=[5,6],keep:=[(0,[0]),(1,[2])] }
def F225:FA:= { n:=6,sh:=[y2,y12,vb,y2,vi,vb],obs:=[(1,tl0)],tk:=[3],keep:=[(0,[1]),(1,[2])] }
def F227:FA:= { n:=23,sh:=[vs,vj,vb,vi,vi,vs,vi,vb,vi,vi,vs,vi,vy,vb,vb,vs,vi,vb,vb,vs,vy,vb,vb],obs:=[],tk:=[8,18,19],keep:=[(0,[0]),(1,[0,3]),(2,[0,3,7]),(3,[0,3]),(4,[0,3,14]),(5,[2]),(6,[2])] }
def F228:FA:= { n:=17,sh:=[vs,vj,vb,vs,vb,vb,vs,vb,vb,vb,vs,vb,vb,vb,vs,vb,vb],obs:=[],tk:=[5,9,13,14],keep:=[(0,[0]),(1,[2])] }
def F232:FA:= { n:=134,sh:=[y2,vb,y7,vj,vb,vi,y28,vl,vi,y7,vi,vb,vb, .one (.ptr 2 4),vl,vi,vb,vb,vb,y7,vi,vb,vb,y27,vi,vb,vb,vb,y7,vi,vb,vb,y27,vi,vb,vb,y22,vs,vb,vb,vb,vi,vb,vb,vb,vb,y22,vs,vb,vb,vi,vb,vb,vb,vb,y22,vs,vb,vb,vi,vb,vb,vb,vb,vb,y22,vs,vb,vb,vb,vb,vb,vb,y22,vs,vb,vb,vi,vb,vb,vb,vb,y22,vs,vb,vb,vi,vb,vb,vb,vb,vb,vb,vb,y22,vs,vb,vb,vb,vi,vb,vb,vb,vb,vb,vb,vb,y22,vs,vb,vb,vb,vi,vb,vb,vb,vb,vb,vb,vb,y22,vs,vb,vb,vb,vi,vb,vb,vb, .one (.ptr 2 4),vl,vi,vb,vb],obs:=[(2,tl0)],tk:=[7,12,18,22,29,33,35,37,40,41,47,49,50,58,59,62,63,64,66,74,76,77,83,85,86,91,93,95,98,99,104,106,108,111,112,117,119,121,124,125,128,130],keep:=[(0,[1,2]),(1,[1,2,5]),(2,[1,2,5,27]),(3,[4]),(4,[1,2,5,29]),(5,[1,2,5,29,30]),(6,[4]),(7,[1,2,5,29,44]),(8,[4]),(9,[1,2,5,29,53]),(10,[4]),(11,[1,2,5,29,70]),(12,[1,2,5,29,70]),(13,[4]),(14,[1,2,5,29,80]),(15,[4]),(16,[1,2,5,29,89]),(17,[4]),(18,[1,2,5,29,102]),(19,[4]),(20,[1,2,5,115]),(21,[4]),(22,[4])] }
def F234:FA:= { n:=107,sh:=[vi,vi,vs,vi,vj,vj,vj,vj,vb,vi,vb,vb,vi,vb,vb,vs,vb,vb,vb,vi,vb,vb,vb,vb,vi,vb,vb,vs,vb,vb,vb,vi,vb,vb,vb,vb,vi,vb,vb,vs,vb,vb,vb,vi,vb,vb,vb,vb,vb,vi,vb,vb,vs,vb,vb,vb,vi,vb,vb,vb,vb,vi,vb,vb,vs,vb,vb,vb,vi,vb,vb,vb,vb,vi,vb,vb,vs,vb,vb,vb,vi,vb,vb,vb,vb,vi,vb,vb,vs,vb,vb,vb,vi,vb,vb,vb,vb,vi,vb,vb,vs,vb,vb,vb,vi,vb,vb],obs:=[],tk:=[9,12,14,15,18,19,24,26,27,30,31,36,38,39,42,43,49,51,52,55,56,61,63,64,67,68,73,75,76,79,80,85,87,88,91,92,97,99,100,103,104],keep:=[(0,[0,1,2,3]),(1,[1,2,3,9]),(2,[1,2,3,9,10]),(3,[8]),(4,[1,2,3,9,22]),(5,[8]),(6,[1,2,3,9,34]),(7,[8]),(8,[1,2,3,9,46]),(9,[1,2,3,9,46]),(10,[8]),(11,[1,2,3,9,59]),(12,[8]),(13,[1,2,3,9,71]),(14,[8]),(15,[1,2,3,9,83]),(16,[8]),(17,[1,2,3,95]),(18,[8]),(19,[8])] }
def F236:FA:= { n:=9,sh:=[vy,vj,vb,vy,vb,vb,vy,vb,vb],obs:=[],tk:=[5,6],keep:=[(0,[0]),(1,[2])] }
def F237:FA:= { n:=9,sh:=[vy,vj,vb,vy,vb,vb,vy,vb,vb],obs:=[],tk:=[5,6],keep:=[(0,[0]),(1,[2])] }
def F238:FA:= { n:=14,sh:=[y0,vl,vj,vj,y20,y11,y0,vl,y2,y2,vb,vb,y2,y2],obs:=[(4,tl0),(5,tl0),(1000000,tl6)],tk:=[6,7,13],keep:=[(0,[0,1,4]),(1,[4,5]),(2,[4,5,11]),(3,[4]),(4,[4])] }
def F240:FA:= { n:=76,sh:=[y46,y12,y7,y5,vi,y11,y24,vl,vi,y1,vi,y12,vl,vi,vb,vi,vi,y12,vl,vi, .one (.cp tl7), .one (.ag tl7),y21,vl,y14,vl,vi, .one (.ag tl8),y24,vl,vi,y14,vl,vi,vb,vi,vi,vl,vi,vl,vl,y24,y16,y2,y14,vl,vl,y32,y24,y8,y32,y24,y24, .one (.ptr 28 1),vl,y21,y5,vl,y11,vs,y14,vl,vi,y24,y24, .one (.ptr 28 2),vi,y24,y24,y24,vl,y18,vl,vl,y5,y1],obs:=[(1,[.sl []]),(2,[.sl [], .sl []]),(3,[.sl [], .sl []]),(5,tl7),(28,tl8)],tk:=[15,23,35,37,43,46,54,57,59,61,66,67,70,75],dp:=[29,39,40],fz:=[46],keep:=[(0,[1,2]),(1,[1,2,3]),(2,[1,2,3,4]),(3,[1,2,3,4,14]),(4,[1,2,3,4]),(5,[1,2,3,4,5]),(6,[1,2,3,4,5,6]),(7,[1,2,3,4,5,6,7]),(8,[1,2,3,4,5,6,7,8]),(9,[1,2,3,4,5,6,7,8,34]),(10,[1,2,3,4,5,6,7,8]),(11,[1,2,3,4,5,6,7,8]),(12,[1,2,3,4,5,6]),(13,[1,2,3,4,5,6]),(14,[1,2,3,4,5,6]),(15,[1,2,3,4]),(16,[2])] }
def F241:FA:= { n:=33,sh:=[y0,vj,y7,y5,vi,y11,y46,vi,vb,vi,vi,vl,vi,y26,vs,vl, .one (.ag tl7),vi,vb,vl,y14,y0,y14,vl,y2,y16,y5,vl, .one (.ag tl7),vl,vl,y5,y46],obs:=[(2,[.sl []]),(3,[.sl []]),(5,tl7),(1000000,tl6)],tk:=[9,27,28,32],dp:=[11,15,19],fz:=[16,19,24],keep:=[(0,[0,2]),(1,[0,2,3]),(2,[0,2,3,4]),(3,[0,2,3,4,8]),(4,[0,2,3,4]),(5,[0,2,3,4,5]),(6,[0,2,3,4,5,18]),(7,[0,2,3,4,5]),(8,[0,2,3,4,5]),(9,[0,2,3,4]),(10,[2])] }
def F242:FA:= { n:=19,sh:=[vl,y56,vj,vj,vi,vi,vl,vi,vi,vb,vi,y56,vl,vi,y6,y18,vb,vi,vi],obs:=[(1000000,[.str []])],tk:=[8,17],keep:=[(0,[0,1]),(1,[0,1,7,8]),(2,[0,1,7,8,9]),(3,[0,1,5,7,8]),(4,[0,1,5,7,8,16]),(5,[4]),(6,[0,1,7,8]),(7,[4])] }
def F243:FA:= { n:=8,sh:=[y18,y0,y7,vb,y7,vs,vs,vb],obs:=[(2,tl2),(1000000,[.str []])],tk:=[5],keep:=[(0,[1,2]),(1,[3])] }
def F244:FA:= { n:=179,sh:=[y0,y6,y8,vj,vj,y11,vb,vb,vb,vi,y16,vs,vb,vb,y15,vi,vb,vb,y15,vi,y6,y6,y38,vl,vi,vi,vb,y11,vi,vb,vb,vb,vb,y14,vi,vb,vb,vb,vb,y14,vi,vb,vb,y16,vs,vb,vb,vb,y15,vi,vb,vb,vb,vb,vb,vb,y14,vi,y6,y6,y10,vi,vi,vb,vb,vb,vb,vb,vb,vb,y14,vi,vb,vb,vb,vb,vb,vb,y14,vi,vb,vb,vb,vb,y14,vi,vb,vb,y16,vs,vb,vb,vb,y15,vi,vb,vb,vb,vb,y0,y16,vs,vi,vi,vb,vb,y0,y0,y0,vl,vi,y6,y10,vi,y14,vi,vb,vb,vb,y15,vi,vb,vb,vb,vb,y16,vs,vb,vb,vb,vb,vb,y14,vi,y0,y0,y9,vl,vi,vi,vb,vb,vb,y0,y0,y9,vl,y14,vi,y23,y4,y6,y6,y10,vi,vb,vb,vb,vb,y16,vs,vb,vb,y14,vi,vb,vb,vb,vb,vb,vb,vb,vb,vb,vb,y14,vi,vb,vb],obs:=[(5,tl3),(1000000,[.sl [], .sl []])],tk:=[13,28,31,32,34,40,42,44,47,49,54,55,57,58,68,69,71,76,77,79,85,87,89,92,94,101,105,106,110,115,118,120,126,128,129,131,142,143,148,151,160,162,164,167,168,173,174,176],keep:=[(0,[0,1,5]),(1,[0,1,5,7]),(2,[0,1,5,7,8]),(3,[0,1,5,7,8,28]),(4,[0,1,5,7,8,28,29]),(5,[6]),(6,[0,1,5,7,8,28,37]),(7,[6]),(8,[0,1,5,7,8,28,52]),(9,[6]),(10,[0,1,5,7,8,28,65]),(11,[0,1,5,7,8,28,65]),(12,[6]),(13,[0,1,5,7,8,28,74]),(14,[6]),(15,[0,1,5,7,8,28,82]),(16,[6]),(17,[0,1,5,7,8,28,97]),(18,[0,5,9]),(19,[6]),(20,[0,1,5,7,8,28,123]),(21,[6]),(22,[5,7,8,28,157]),(23,[6]),(24,[5,7,28,170]),(25,[5,7,170]),(26,[6]),(27,[6])] }
def F245:FA:= { n:=56,sh:=[y6,vj,vl,vb,y20,vi,vi,y33,y6,y6,y38,vl,vi,vl, .one (.ag US),y20,vl,vi,vi,vb,vi,y20, .one (.al (.oc 4 0) []),vi, .one (.pp (.oc 4 0) [] 0 0),vi,y32,y6,y6,y38,vl,vi,vi,vb,vi,y37,y8,y35,vb,vb,y20,vl,vi,y10,vi,vb,vb,vi,y8,y32,vi,y20,vl,y35,vb,vb],obs:=[(4,US),(7,tl3)],al:=[22],tk:=[18,23,27,32,39,47,48,52,54],keep:=[(0,[0]),(1,[0,4]),(2,[0,4,17,18]),(3,[0,4,17,18,19]),(4,[0,4,5,17,18]),(5,[0,4,17,18]),(6,[0,4,17,18]),(7,[0,4]),(8,[4,30,31,32]),(9,[4,30,31,32,33]),(10,[4,6,7,30,31,32]),(11,[4,6,7,30,31,32,46]),(12,[2,3]),(13,[4,30,31,32]),(14,[4,30,31,32]),(15,[2,3])] }
def F246:FA:= { n:=103,sh:=[y0,y4,vi,vj,y20,vj,vb,vj,y34,y0,y0,y9,vi,vi,y0,y9,vi,vb,vb,y0,y0,y9,vi,vb,vb,y20,vi,vb,y35,vi,y0,y0,y0,vi,vi,vb,vb,vb, .one (.ptr 4 2),vs,vb,vb,vb,y44,vl,vi,vb,vb,vb,y35,vi,vb,vb,y0,y0,y19,vl,y35,vi,vb,vb,vb,y0,y0,y0,y19,vl,y35,vi,vl,vl,y0,y19,y20,vi,vb,vb,y20,vi,y35,vi, .one (.ptr 4 2),vs,y44,vl,vi,vb,vb,vb,y44,vl,vi,vi,vb,y23,y4,y0,y4,vi,vi,vb,vb,vi],obs:=[(4,tl1),(8,tl1),(1000000,tl9)],tk:=[12,18,37,39,42,44,48,52,63,66,68,76,78,80,82,90,92,97],dp:=[69],keep:=[(0,[0,2,4]),(1,[0,2,4]),(2,[0,2,4,24]),(3,[6]),(4,[0,2,4,27]),(5,[0,4,61]),(6,[6]),(7,[]),(8,[6]),(9,[0,2,4,88]),(10,[6]),(11,[0,2,90,91,92]),(12,[0,2,90,91,92,93]),(13,[0,2,8,90,91,92]),(14,[0,2,90,91,92,101]),(15,[6]),(16,[0,2,90,91,92]),(17,[6])] }
def F253:FA:= { n:=10,sh:=[vy,vj,vb,vy,vi,vb,vb,vy,vb,vb],obs:=[],tk:=[6,7],keep:=[(0,[0]),(1,[2])] }
def F254:FA:= { n:=6,sh:=[vy,vj,vb,vy,vi,vb],obs:=[],tk:=[3],keep:=[(0,[0]),(1,[2])] }
def F255:FA:= { n:=6,sh:=[vy,vj,vb,vy,vi,vb],obs:=[],tk:=[3],keep:=[(0,[0]),(1,[2])] }
def F256:FA:= { n:=13,sh:=[vs,vj,vb,vs,vb,vb,vs,vb,vb,vb,vs,vb,vb],obs:=[],tk:=[5,9,10],keep:=[(0,[0]),(1,[2])] }
def F257:FA:= { n:=13,sh:=[vy,vj,vb,vy,vb,vb,vy,vb,vb,vb,vy,vb,vb],obs:=[],tk:=[5,9,10],keep:=[(0,[0]),(1,[2])] }
def F258:FA:= { n:=13,sh:=[vy,vj,vb,vy,vb,vb,vy,vb,vb,vb,vy,vb,vb],obs:=[],tk:=[5,9,10],keep:=[(0,[0]),(1,[2])] }
def F260:FA:= { n:=21,sh:=[vs,vj,vb,vs,vb,vb,vs,vb,vb,vb,vs,vb,vb,vb,vs,vb,vb,vb,vs,vb,vb],obs:=[],tk:=[5,9,13,17,18],keep:=[(0,[0]),(1,[2])] }
def F261:FA:= { n:=10,sh:=[vs,vj,vb,vs,vb,vb,vb,vb,vb,vb],obs:=[],tk:=[3],keep:=[(0,[0]),(1,[3]),(2,[3,4]),(3,[3,4]),(4,[3,4]),(5,[3,4]),(6,[4]),(7,[2]),(8,[2])] }
def F265:FA:= { n:=184,sh:=[y0,vi,vl,vj,vj,vj,y51,vi,y34,vi, .one (.ptr 10 0),vi,vi, .one (.ptr 13 0),vi, .one (.ptr 15 0), .one (.ptr 16 0),y0,vi,vi,vb,y0,vi,vi,vb,vb,y0,vl,vi,y2,vb,vb,y0,vl,vs,y2,vb,vb,vb,vb,vl,vi,vb,vl,y0,vl,vi,vi,y26,vs,y2,y0,vi,y2,vb,vb,vb,y0,vl,vs,y0,vi,vi,vl,y2,y0,vi,vi,vl,y2,vl,y2,vb,vb,y0,vl,vi,y2,y0,vi,vi,vb,vi,vi,y39,vl,y0,vi,vi,vl,y2,vl,vl,y39,y2,vb,vb,y0,vi,vi,vl,y2,y0,vi,vi,vl,y2,vl,y2,vl,y2,vb,vb,y0,vl,vs,y2, .one (.ptr 10 2),vs,vb,vi,vi,vb,vi,vi, .one (.ptr 10 3),vl,y0,vi,vi,vl,y2,vl,vl, .one (.ptr 10 3),y2,y0,vi,vi,vl,y2,vl,y2,y0,vi,vi,vi,vb,vi,vi,vl,y0,y2,y49,vl,y2,y0,vi,vi,vl,vl,vl,vl,vl,y2, .one (.ag tl5),vl,vl,y49,y0,vb,y49,vl,y2,y0,vi,vi,vl,y2, .one (.ag tl5),vl,vl,y49,y2],obs:=[(6,tl0),(8,tl0),(10,tl0),(13,tl0),(15,[.sl []]),(16,tl0),(1000000,tl6)],tk:=[23,26,32,44,45,51,65,66,68,82,85,94,102,103,105,123,126,135,148,154,155,162,172,174,175,177,183],dp:=[27,33,58,70,75,91,92,107,109,114,132,133,141,150,159,161,163,166,167,180,181],fz:=[27,33,58,75,114,163],keep:=[(0,[0,1,2,6]),(1,[0,1,2,6,7]),(2,[0,1,2,6,7,20]),(3,[0,1,2,6,7]),(4,[0,1,2,6,23]),(5,[0,1,2,6,23,24]),(6,[6]),(7,[0,1,2,6,23,30]),(8,[6]),(9,[0,1,2,6,23,36]),(10,[0,1,2,6,23,36]),(11,[0,1,2,6,23,36]),(12,[0,2,6,42]),(13,[6]),(14,[6]),(15,[0,1,2,6,23,54]),(16,[0,1,2,6,23,54]),(17,[6]),(18,[0,1,2,6,23,72]),(19,[0,1,2,6,8]),(20,[0,1,2,6,8,9]),(21,[0,1,2,6,8,9,81]),(22,[0,1,2,6,8,9]),(23,[0,1,2,6,8,9]),(24,[6]),(25,[0,1,2,6,23,95]),(26,[6]),(27,[0,1,2,6,111]),(28,[0,1,2,6,10]),(29,[0,1,2,6,10,11]),(30,[0,1,2,6,10,11,119]),(31,[0,1,2,6,10,11]),(32,[0,1,2,6,10,11,12]),(33,[0,1,2,6,10,11,12,122]),(34,[0,1,2,6,10,11,12]),(35,[0,1,2,6,10,11,12]),(36,[6]),(37,[0,1,2,6,13]),(38,[0,1,2,6,13,14]),(39,[0,1,2,6,13,14,147]),(40,[0,1,2,6,13,14]),(41,[0,1,2,6,13,14,15]),(42,[0,1,2,6,13,14,15,16]),(43,[0,1,2,6,13,14]),(44,[0,1,2,6,13,170]),(45,[6,13]),(46,[6])] }
def F267:FA:= { n:=95,sh:=[y0,y2,vl,vl,vj,y11,vj,vj,vi,vi,vi,y15,vl,vi,vb,vi,vi,y0,y15,vl,vi,y31,y2,vl,vl,y32,y15,vl,vi,y11,vi,vb,vb,y0,y14,vi,y8,y32,vb,vb,y0,y16,vs,y8,y32,vb,vb,y0,vl,vl,y16,vs,vi,y8,y32,vb,vb,y0,vi,y8,y32,vb,vb,y0,vi,y8,y32,vb,vb,y0,vi,y8,y32,vb,vb,y0,y16,vs,y8,y32,vb,vb,y0,y16,vs,vi,y8,y32,vb,vb,y0,y2,vl,vl,y32],obs:=[(5,tl0),(1000000,tl8)],tk:=[15,33,35,40,42,47,48,49,51,57,58,63,64,69,70,75,77,82,84,85,90,91,92,93],keep:=[(0,[0,2,3,5]),(1,[0,2,3,5,8]),(2,[0,2,3,5,8,14]),(3,[0,2,3,5,8]),(4,[0,2,3,5,8]),(5,[0,2,3,5,9]),(6,[0,2,3,5,9,30]),(7,[0,2,3,5,9,30,31]),(8,[]),(9,[0,2,3,5,9,30,38]),(10,[]),(11,[0,2,3,5,9,30,45]),(12,[]),(13,[0,2,3,5,9,30,55]),(14,[]),(15,[0,2,3,5,9,30,61]),(16,[]),(17,[0,2,3,5,9,30,67]),(18,[]),(19,[0,2,3,5,9,30,73]),(20,[]),(21,[0,2,3,5,9,30,80]),(22,[]),(23,[0,2,3,5,88]),(24,[])] }
def F268:FA:= { n:=14,sh:=[y0,y8,vj,y5,y0,y0,y0,y0,vl,y8,vl,vl,y0,y0],obs:=[(3,tl3),(1000000,tl8)],tk:=[5,8,9],dp:=[10],keep:=[(0,[0,3]),(1,[])] }
def F269:FA:= { n:=50,sh:=[y0,vi,vi,vj,vj,vj,vb,vi,y0,y0,y0,vl,vi,vb,vb,vi,vb,vb,y0,y0,y9,vb,y0,y0,y0,vl,vi,y10,vi,vb,y0,y0,y0,y43,vi,vi,y40,vb,y0,y0,y0,vl,vi,y10,vi,vi,vb,y0,y0,y9],obs:=[(1000000,US)],al:=[33],tk:=[14,18,30,34,35,42,45,47],keep:=[(0,[0,1,2,6]),(1,[]),(2,[0,1,2,21]),(3,[]),(4,[0,37]),(5,[])] }
def F270:FA:= { n:=83,sh:=[y0,vi,y8,vj,vj,y11,vi,y0,y0,y0,vl,vi,y10,vi,vi,y8,vi,vb,vb,y11,vi,vb,vb,y11,vi,vb,vb,vb,y15,vi,vi,vb,vb,vb,y0,y0,y9,y11,vi,y0,vi,vi,vi,y8,vi,vi,vi,y32,vb,vb,y0,vi,vi,vi,vi,y32,y0,y15,vi,vi,y32,vb,vb,y0,y15,vi,vi,y32,vb,vb,vb,vb,y0,y0,y0,y9,vb,vb,vi,vb,vb,y0,y9],obs:=[(5,tl3),(1000000,US)],tk:=[18,22,27,34,39,40,42,43,51,56,58,59,63,65,66,73,76,77,78],keep:=[(0,[0,1,5]),(1,[0,1,5,6]),(2,[0,1,5,6,33]),(3,[]),(4,[0,1,5,6,38]),(5,[]),(6,[0,1,5,6,38,48]),(7,[0,5,6]),(8,[]),(9,[0,1,5,6,38,61]),(10,[]),(11,[0,1,5,6,38,68]),(12,[0,1,5,6,70]),(13,[])] }
def F271:FA:= { n:=9,sh:=[vl,vi,vj,vj,vb,vl,vi,vi,vb],obs:=[],tk:=[5,6],keep:=[(0,[0,1]),(1,[4])] }
def F277:FA:= { n:=25,sh:=[vl,vl,vs,vj,vj,vj,vi,vi,vl,vi,vi,vi,vb,vi,vi,vl,vi,y26,vs,vs,vb,vl,vi,y10,vi],obs:=[],tk:=[13,21,22],keep:=[(0,[0,1,2]),(1,[0,1,2,7]),(2,[0,1,2,7,12]),(3,[0,1,2,7]),(4,[0,1,2,7,20]),(5,[6]),(6,[6])] }
def F278:FA:= { n:=118,sh:=[y0,y2,vl,vl,vj,y11,vj,vj,vl,vi, .one (.ptr 10 0), .one (.ptr 11 0), .one (.ptr 12 0),vi,vi,vl,vi,y58,vl,vi,vb,vi,vi,vl,vl,vl,vl,vl,vl,y0,y58,vl,vi,y48,y31,y2,y4,y0,y0,y0,vl,vi,y0,y0,y0,y9,vl,vi,y8,y32,y0,y0,y9,vl,y4,vi,vl,vl, .one (.pp (.s 57 0 0) [] 0 0),y0,y9,y0,y58,vl,vi,y48,y31,y2,vl,vl,y32,vl,y0,y0,y0,vl,vi,vl,vl,y0,y8,y32,y0,y0,y0,y43,vi,y0,y0,y0,vl,vi,y40,y55,y0,y8,y32,vi,vl,vi,vb,vi,vi,y0,y0,y0,y43,vl,vi,y10,vi,y0,y0,y0,vl,vi,y40,y55],obs:=[(5,tl0),(10,[.sl []]),(11,[.sl []]),(12,tl1),(1000000,tl8)],al:=[85,106],tk:=[21,53,54,68,69,71,86,101],dp:=[15,23,25,26,28,56,77,78],fz:=[68,69],keep:=[(0,[0,2,3,5]),(1,[0,2,3,5,8]),(2,[0,2,3,5,8,9]),(3,[0,2,3,5,8,9,20]),(4,[0,2,3,5,8,9]),(5,[0,2,3,5,8,9,10]),(6,[0,2,3,5,8,9,10,11]),(7,[0,2,3,5,8,9,10,11,12]),(8,[0,2,3,5,8,9,10,11,12,13]),(9,[0,2,3,5,8,9,10,11,12,13]),(10,[0,2,3,5,8,9,10,11,13]),(11,[0,2,3,5,8,9,13]),(12,[0,2,3,5,8,9,13]),(13,[0,2,3,5,8,9,13]),(14,[0,2,3,5,8,9]),(15,[0,8]),(16,[0,8,14]),(17,[0,8,14,100]),(18,[0,8,14]),(19,[0,8,14])] }
def F279:FA:= { n:=17,sh:=[y8,y12,vi,y12,vi,vb,vb,vb,vb,vb,y36,vi,vb,vb,vb,vb,vb],obs:=[(1,tl3)],tk:=[4,11],keep:=[(0,[1]),(1,[1,4]),(2,[1,4,5]),(3,[1,4,5]),(4,[1,4,5]),(5,[1,4,5]),(6,[2]),(7,[4,12]),(8,[2]),(9,[4,14]),(10,[14]),(11,[2]),(12,[2])] }
def F280:FA:= { n:=19,sh:=[vl,vi,vj,vj,vi,vi,vl,vi,vi,vb,vi,vi,vl,vi,y10,vi,vb,vi,vi],obs:=[],tk:=[8,17],keep:=[(0,[0,1]),(1,[0,1,7,8]),(2,[0,1,7,8,9]),(3,[0,1,5,7,8]),(4,[0,1,5,7,8,16]),(5,[4]),(6,[0,1,7,8]),(7,[4])] }
def F285:FA:= { n:=78,sh:=[y0,y2,y13,y29,vj,y11,vj,vj,y34,y50,vi,y11,vi,y14,vi,y16,vs,y4,y11,vi,vb, .one (.ptr 9 2),y57,y16,vs,vb,y0,y0,y19,vi,y57,y0,y0,y19,vi,vi,y0,y19,y13,y13,y13,vl,y16,vs,vl,vl,y13,y29,y29,y29,vl,y57,vi,vl,vl,y29,vi,y15,vl,vi,vb,vi,vi, .one (.ptr 9 3),vl,y0,y15,vl,vi,y31,y2,y13,y29,y4,vl,vl, .one (.ptr 9 3),y4],obs:=[(5,tl0),(8,tl1),(9,tl1),(1000000,tl8),(1000001,[.sl []]),(1000002,[.sl []])],tk:=[14,19,34,41,43,50,61,64,77],dp:=[44,53,74,75],keep:=[(0,[0,2,3,5,8]),(1,[0,2,3,5,8,9]),(2,[0,2,3,5,8,9,20]),(3,[0,2,3,5,8,9]),(4,[0,2,3,5,8,9]),(5,[0,2,3,5,8,9,25]),(6,[0,2,3,5,8,9]),(7,[0,2,3,5,8,9]),(8,[0,2,3,5,8,9]),(9,[0,2,3,5,8,9]),(10,[0,2,3,5,8,9,10]),(11,[0,2,3,5,8,9,10,60]),(12,[0,2,3,5,8,9,10]),(13,[0,2,3,5,8,9,10]),(14,[8])] }
def An:FuncId→FA
  | 11=>F11
  | 45=>F45
  | 63=>F63
  | 64=>F64
  | 65=>F65
  | 66=>F66
  | 67=>F67
  | 69=>F69
  | 72=>F72
  | 75=>F75
  | 81=>F81
  | 96=>F96
  | 118=>F118
  | 119=>F119
  | 121=>F121
  | 128=>F128
  | 135=>F135
  | 136=>F136
  | 137=>F137
  | 138=>F138
  | 139=>F139
  | 140=>F140
  | 141=>F141
  | 142=>F142
  | 143=>F143
  | 144=>F144
  | 145=>F145
  | 146=>F146
  | 147=>F147
  | 148=>F148
  | 161=>F161
  | 183=>F183
  | 184=>F184
  | 189=>F189
  | 190=>F190
  | 191=>F191
  | 194=>F194
  | 196=>F196
  | 197=>F197
  | 198=>F198
  | 205=>F205
  | 206=>F206
  | 207=>F207
  | 208=>F208
  | 223=>F223
  | 224=>F224
  | 225=>F225
  | 227=>F227
  | 228=>F228
  | 232=>F232
  | 234=>F234
  | 236=>F236
  | 237=>F237
  | 238=>F238
  | 240=>F240
  | 241=>F241
  | 242=>F242
  | 243=>F243
  | 244=>F244
  | 245=>F245
  | 246=>F246
  | 253=>F253
  | 254=>F254
  | 255=>F255
  | 256=>F256
  | 257=>F257
  | 258=>F258
  | 260=>F260
  | 261=>F261
  | 265=>F265
  | 267=>F267
  | 268=>F268
  | 269=>F269
  | 270=>F270
  | 271=>F271
  | 277=>F277
  | 278=>F278
  | 279=>F279
  | 280=>F280
  | 285=>F285
  | _=> { n:=0,sh:=[],obs:=[] }
abbrev sg11:Sg:= { bi:=x5,bo:=x0,np:=1,ext:=false }
abbrev sg45:Sg:= { bi:=x5,bo:=x0,np:=1,ext:=false }
abbrev sg63:Sg:= { bi:=x5,bo:=⟨[(0,[[.F, .F],[.U 4, .U 4]])],[]⟩,np:=1 }
abbrev sg64:Sg:= { bi:=x16,bo:=x0,np:=2,ext:=false }
abbrev sg65:Sg:= { bi:=x16,bo:=x0,np:=2,ext:=false }
abbrev sg66:Sg:= { bi:=x11,bo:=x8,np:=1,ext:=false }
abbrev sg67:Sg:= { bi:=x22,bo:=x0,np:=2,ext:=false }
abbrev sg69:Sg:= { bi:=x15,bo:=x0,np:=3,ext:=false }
abbrev sg72:Sg:= { bi:=x5,bo:=x0,np:=1,ext:=false }
abbrev sg75:Sg:= { bi:=x15,bo:=x0,np:=3,ext:=false }
abbrev sg81:Sg:= { bi:=x11,bo:=⟨[(0,[[.U 4, .U 4]])],[]⟩,np:=1,ext:=false }
abbrev sg96:Sg:= { bi:=x12,bo:=x0,np:=2,ext:=false }
abbrev UF:Sg:= { bi:=x5,bo:=⟨[(0,[[.S]])],[(0,[.F, .S, .S])]⟩,np:=1 }
abbrev UE:Sg:= { bi:=x13,bo:=x1,np:=2,no:=1 }
abbrev UD:Sg:= { bi:=x13,bo:=x1,np:=2,no:=1 }
abbrev UC:Sg:= { bi:=⟨[(0,[[.S]]),(1,[[.S]]),(2,[[.S]])],[(1000000,[.F, .S, .S]),(1000001,[.A 1])]⟩,bo:=⟨[(0,[[.S, .S, .S, .U 5, .N]])],[(1000000,[.F, .S, .S]),(1000001,[.A 1])]⟩,np:=3,no:=2 }
abbrev UB:Sg:= { bi:=x1,bo:=x14,np:=1,no:=1 }
abbrev UA:Sg:= { bi:=⟨[(0,[[.S]]),(1,[[.F, .F]])],[(1000000,[.F, .S, .S])]⟩,bo:=⟨[(0,[[.U 4, .U 4]])],[(1000000,[.F, .S, .S])]⟩,np:=2,no:=1 }
abbrev Tz:Sg:= { bi:=x6,bo:=x0,np:=3,ext:=false }
abbrev Ty:Sg:= { bi:=x2,bo:=x0,np:=2,ext:=false }
abbrev Tx:Sg:= { bi:=x22,bo:=x0,np:=2,ext:=false }
abbrev Tw:Sg:= { bi:=x6,bo:=x0,np:=3,ext:=false }
abbrev Tv:Sg:= { bi:=x2,bo:=x0,np:=2,ext:=false }
abbrev Tu:Sg:= { bi:=x2,bo:=x0,np:=2,ext:=false }
abbrev Tt:Sg:= { bi:=x2,bo:=x0,np:=2,ext:=false }
abbrev Ts:Sg:= { bi:=x11,bo:=x0,np:=1,ext:=false }
abbrev Tr:Sg:= { bi:=x11,bo:=x0,np:=1,ext:=false }
abbrev Tq:Sg:= { bi:=x20,bo:=x8,np:=2 }
abbrev Tp:Sg:= { bi:=x20,bo:=x8,np:=2 }
abbrev To:Sg:= { bi:=⟨[(0,[[.U 1]]),(1,[[.S, .S, .S, .F]])],[]⟩,bo:=x8,np:=2 }
abbrev Tn:Sg:= { bi:=⟨[(0,[[.S, .S, .S, .F]])],[]⟩,bo:=⟨[(0,[[.S, .S, .S, .U 4]])],[]⟩,np:=1,ext:=false }
abbrev Tm:Sg:= { bi:=⟨[(0,[[.S, .S, .S, .F, .F]]),(1,[[.S]]),(2,[[.S]]),(3,[[.S]])],[]⟩,bo:=x0,np:=4,ext:=false }
abbrev Tl:Sg:= { bi:=x19,bo:=x8,np:=1,ext:=false }
abbrev Tk:Sg:= { bi:=x1,bo:=x1,np:=1,no:=1 }
abbrev Tj:Sg:= { bi:=x3,bo:=x1,np:=2,no:=1 }
abbrev Ti:Sg:= { bi:=x3,bo:=x1,np:=2,no:=1 }
abbrev Th:Sg:= { bi:=x0,bo:=x0,np:=1,ext:=false }
abbrev Tg:Sg:= { bi:=x0,bo:=x0,np:=1,ext:=false }
abbrev Tf:Sg:= { bi:=x0,bo:=x18,np:=1,ext:=false }
abbrev Te:Sg:= { bi:=x0,bo:=x18,np:=1,ext:=false }
abbrev Td:Sg:= { bi:=x1,bo:=x14,np:=1,no:=1 }
abbrev Tc:Sg:= { bi:=⟨[(0,[[.S]]),(1,[[.S]])],[(1000000,[.F, .F])]⟩,bo:=x9,np:=2,no:=1 }
abbrev Tb:Sg:= { bi:=⟨[(0,[[.S]]),(1,[[.F]])],[(1000000,[.F, .F])]⟩,bo:=x9,np:=2,no:=1 }
abbrev Ta:Sg:= { bi:=⟨[(0,[[.S, .S, .S, .F]]),(1,[[.S]])],[]⟩,bo:=x0,np:=2,ext:=false }
abbrev TZ:Sg:= { bi:=x0,bo:=x0,np:=1,ext:=false }
abbrev TY:Sg:= { bi:=x0,bo:=x0,np:=1,ext:=false }
abbrev TX:Sg:= { bi:=x19,bo:=x0,np:=1,ext:=false }
abbrev TW:Sg:= { bi:=x0,bo:=x0,np:=1,ext:=false }
abbrev TV:Sg:= { bi:=x0,bo:=x0,np:=1,ext:=false }
abbrev TU:Sg:= { bi:=⟨[(0,[[.S, .S, .S, .F, .F]]),(1,[[.S]])],[]⟩,bo:=x0,np:=2,ext:=false }
abbrev TT:Sg:= { bi:=⟨[(0,[[.S]]),(1,[[.S]]),(2,[[.S]]),(3,[[.S]])],[]⟩,bo:=x0,np:=4,ext:=false }
abbrev TS:Sg:= { bi:=x0,bo:=x0,np:=1,ext:=false }
abbrev TR:Sg:= { bi:=x0,bo:=x0,np:=1,ext:=false }
abbrev TQ:Sg:= { bi:=x3,bo:=x10,np:=2,no:=1 }
abbrev TP:Sg:= { bi:=x5,bo:=⟨[(0,[[.A 4, .A 4]])],[]⟩,np:=1 }
abbrev TO:Sg:= { bi:=x1,bo:=⟨[(0,[[.A 7]])],[(1000000,[.F, .S, .S])]⟩,np:=1,no:=1 }
abbrev TN:Sg:= { bi:=⟨[(0,[[.F]]),(1,[[.S]])],[(1000000,[.S])]⟩,bo:=x21,np:=2,ext:=false,no:=1 }
abbrev TM:Sg:= { bi:=⟨[(0,[[.S, .S, .S, .F]]),(1,[[.S]])],[(1000000,[.S])]⟩,bo:=x21,np:=2,ext:=false,no:=1 }
abbrev TL:Sg:= { bi:=⟨[(0,[[.S]]),(1,[[.F]]),(2,[[.S, .S, .S, .S]])],[(1000000,[.F, .F])]⟩,bo:=x9,np:=3,no:=1 }
abbrev TJ:Sg:= { bi:=x5,bo:=⟨[(0,[[.U 1],[.S]])],[]⟩,np:=1,ext:=false }
abbrev TH:Sg:= { bi:=⟨[(0,[[.S]]),(1,[[.S, .S, .S, .F]]),(2,[[.S]])],[(1000000,[.S, .S, .A 1])]⟩,bo:=⟨[(0,[[.S]])],[(1000000,[.S, .S, .A 1])]⟩,np:=3,no:=1 }
abbrev TG:Sg:= { bi:=x0,bo:=x0,np:=1,ext:=false }
abbrev TF:Sg:= { bi:=x0,bo:=x0,np:=1,ext:=false }
abbrev TE:Sg:= { bi:=x0,bo:=x0,np:=1,ext:=false }
abbrev TD:Sg:= { bi:=x0,bo:=x0,np:=1,ext:=false }
abbrev TB:Sg:= { bi:=x0,bo:=x0,np:=1,ext:=false }
abbrev TA:Sg:= { bi:=x0,bo:=x0,np:=1,ext:=false }
abbrev Sz:Sg:= { bi:=x0,bo:=x0,np:=1,ext:=false }
abbrev Sy:Sg:= { bi:=x0,bo:=x0,np:=1,ext:=false }
abbrev Sx:Sg:= { bi:=⟨[(0,[[.S]]),(1,[[.S]]),(2,[[.F]])],[(1000000,[.F, .S, .S])]⟩,bo:=x10,np:=3,no:=1 }
abbrev Sw:Sg:= { bi:=x4,bo:=x7,np:=4,no:=1 }
abbrev Sv:Sg:= { bi:=⟨[(0,[[.S]]),(1,[[.S, .S, .S, .S]])],[(1000000,[.A 4, .A 4, .S])]⟩,bo:=x7,np:=2,no:=1 }
abbrev Su:Sg:= { bi:=⟨[(0,[[.S]]),(1,[[.S]]),(2,[[.S]])],[(1000000,[.U 1, .S])]⟩,bo:=x17,np:=3,no:=1 }
abbrev Ss:Sg:= { bi:=⟨[(0,[[.S]]),(1,[[.S]]),(2,[[.S, .S, .S, .S]])],[(1000000,[.U 1, .S])]⟩,bo:=x17,np:=3,no:=1 }
abbrev Sr:Sg:= { bi:=x12,bo:=x0,np:=2,ext:=false }
abbrev Sq:Sg:= { bi:=x6,bo:=x0,np:=3,ext:=false }
abbrev Sp:Sg:= { bi:=x4,bo:=x7,np:=4,no:=1 }
abbrev So:Sg:= { bi:=⟨[(0,[[.S, .S, .S, .S]])],[]⟩,bo:=x0,np:=1,ext:=false }
abbrev Sn:Sg:= { bi:=x12,bo:=x0,np:=2,ext:=false }
abbrev Sm:Sg:= { bi:=⟨[(0,[[.S]]),(1,[[.S, .S, .S, .F, .F]]),(2,[[.S]]),(3,[[.S]])],[(1000000,[.A 4, .A 4, .S]),(1000001,[.A 1]),(1000002,[.A 1])]⟩,bo:=⟨[(0,[[.S, .S, .S, .U 4]])],[(1000000,[.A 4, .A 4, .S]),(1000001,[.A 1]),(1000002,[.A 1])]⟩,np:=4,no:=3 }
def Sgs:FuncId→List Sg
  | 11=> [sg11]
  | 45=> [sg45]
  | 63=> [sg63]
  | 64=> [sg64]
  | 65=> [sg65]
  | 66=> [sg66]
  | 67=> [sg67]
  | 69=> [sg69]
  | 72=> [sg72]
  | 75=> [sg75]
  | 81=> [sg81]
  | 96=> [sg96]
  | 118=> [UF]
  | 119=> [UE]
  | 121=> [UD]
  | 128=> [UC]
  | 135=> [UB]
  | 136=> [UA]
  | 137=> [Tz]
  | 138=> [Ty]
  | 139=> [Tx]
  | 140=> [Tw]
  | 141=> [Tv]
  | 142=> [Tu]
  | 143=> [Tt]
  | 144=> [Ts]
  | 145=> [Tr]
  | 146=> [Tq]
  | 147=> [Tp]
  | 148=> [To]
  | 161=> [Tn]
  | 183=> [Tm]
  | 184=> [Tl]
  | 189=> [Tk]
  | 190=> [Tj]
  | 191=> [Ti]
  | 194=> [Th]
  | 196=> [Tg]
  | 197=> [Tf]
  | 198=> [Te]
  | 205=> [Td]
  | 206=> [Tc]
  | 207=> [Tb]
  | 208=> [Ta]
  | 223=> [TZ]
  | 224=> [TY]
  | 225=> [TX]
  | 227=> [TW]
  | 228=> [TV]
  | 232=> [TU]
  | 234=> [TT]
  | 236=> [TS]
  | 237=> [TR]
  | 238=> [TQ]
  | 240=> [TP]
  | 241=> [TO]
  | 242=> [TN]
  | 243=> [TM]
  | 244=> [TL]
  | 245=> [TJ]
  | 246=> [TH]
  | 253=> [TG]
  | 254=> [TF]
  | 255=> [TE]
  | 256=> [TD]
  | 257=> [TB]
  | 258=> [TA]
  | 260=> [Sz]
  | 261=> [Sy]
  | 265=> [Sx]
  | 267=> [Sw]
  | 268=> [Sv]
  | 269=> [Su]
  | 270=> [Ss]
  | 271=> [Sr]
  | 277=> [Sq]
  | 278=> [Sp]
  | 279=> [So]
  | 280=> [Sn]
  | 285=> [Sm]
  | _=> []
end Go.Own
