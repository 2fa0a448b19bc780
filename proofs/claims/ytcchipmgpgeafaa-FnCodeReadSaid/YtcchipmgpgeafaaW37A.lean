/- What is told of the functions: shapes and kinds. No conditions. -/
import Derived.Test.YtcchipmgpgeafaaProg
import Derived.KernelRfl
import Derived.Test.YtcchipmgpgeafaaOwn4
set_option linter.unusedVariables false
set_option linter.unusedSimpArgs false
set_option linter.unnecessarySimpa false
namespace Go.Own
open Go Go.Proofs
def τ:TypeId→Option TI
  | 3=>some { size:=1,bytes:=8,zero:=[.int .i64 0],agg:=false,kind:= .int .i64 }
  | 4=>some { size:=1,bytes:=1,zero:=[.bool false],agg:=false,kind:= .bool }
  | 5=>some { size:=1,bytes:=1,zero:=[.int .u8 0],agg:=false,kind:= .int .u8 }
  | 9=>some { size:=1,bytes:=16,zero:=[.str []],agg:=false,kind:= .str }
  | 22=>some { size:=1,bytes:=24,zero:=[.sl []],agg:=false,kind:= .sl 5 }
  | 25=>some { size:=1,bytes:=24,zero:=[.sl []],agg:=false,kind:= .sl 45 }
  | 26=>some { size:=1,bytes:=24,zero:=[.sl []],agg:=false,kind:= .sl 48 }
  | 28=>some { size:=2,bytes:=48,zero:=[.sl [], .sl []],agg:=true,kind:= .struct [(0,1,false),(1,1,false)] }
  | 39=>some { size:=1,bytes:=24,zero:=[.sl []],agg:=false,kind:= .sl 3 }
  | 41=>some { size:=3,bytes:=40,zero:=[.sl [], .int .i64 0, .bool false],agg:=true,kind:= .struct [(0,1,false),(1,1,false),(2,1,false)] }
  | 43=>some { size:=1,bytes:=24,zero:=[.sl []],agg:=false,kind:= .sl 63 }
  | 45=>some { size:=4,bytes:=56,zero:=[.str [], .int .i64 0, .int .i64 0, .sl []],agg:=true,kind:= .struct [(0,1,false),(1,1,false),(2,1,false),(3,1,false)] }
  | 48=>some { size:=4,bytes:=56,zero:=[.int .i64 0, .int .i64 0, .str [], .sl []],agg:=true,kind:= .struct [(0,1,false),(1,1,false),(2,1,false),(3,1,false)] }
  | 52=>some { size:=3,bytes:=40,zero:=[.sl [], .int .i64 0, .bool false],agg:=true,kind:= .struct [(0,1,false),(1,1,false),(2,1,false)] }
  | 63=>some { size:=4,bytes:=40,zero:=[.int .i64 0, .int .i64 0, .str [], .int .i64 0],agg:=true,kind:= .struct [(0,1,false),(1,1,false),(2,1,false),(3,1,false)] }
  | 66=>some { size:=3,bytes:=40,zero:=[.sl [], .int .i64 0, .int .i64 0],agg:=true,kind:= .struct [(0,1,false),(1,1,false),(2,1,false)] }
  | 68=>some { size:=1,bytes:=24,zero:=[.sl []],agg:=false,kind:= .sl 95 }
  | 70=>some { size:=1,bytes:=24,zero:=[.sl []],agg:=true,kind:= .struct [(0,1,false)] }
  | 87=>some { size:=1,bytes:=8,zero:=[.int .u64 0],agg:=false,kind:= .int .u64 }
  | 89=>some { size:=1,bytes:=24,zero:=[.sl []],agg:=false,kind:= .sl 9 }
  | 90=>some { size:=1,bytes:=24,zero:=[.sl []],agg:=false,kind:= .sl 93 }
  | 91=>some { size:=1,bytes:=24,zero:=[.sl []],agg:=false,kind:= .sl 130 }
  | 93=>some { size:=5,bytes:=80,zero:=[.int .i64 0, .int .i64 0, .str [], .sl [], .sl []],agg:=true,kind:= .struct [(0,1,false),(1,1,false),(2,1,false),(3,1,false),(4,1,false)] }
  | 95=>some { size:=7,bytes:=120,zero:=[.str [], .sl [], .int .i64 0, .int .i64 0, .str [], .sl [], .sl []],agg:=true,kind:= .struct [(0,1,false),(1,1,false),(2,5,true)] }
  | 98=>some { size:=3,bytes:=56,zero:=[.sl [], .sl [], .int .i64 0],agg:=true,kind:= .struct [(0,1,false),(1,1,false),(2,1,false)] }
  | 105=>some { size:=2,bytes:=32,zero:=[.sl [], .bool false],agg:=true,kind:= .struct [(0,1,false),(1,1,false)] }
  | 109=>some { size:=3,bytes:=40,zero:=[.int .i64 0, .int .i64 0, .sl []],agg:=true,kind:= .struct [(0,1,false),(1,1,false),(2,1,false)] }
  | 130=>some { size:=10,bytes:=160,zero:=[.int .i64 0, .int .i64 0, .str [], .sl [], .sl [], .int .i64 0, .int .i64 0, .str [], .sl [], .sl []],agg:=true,kind:= .struct [(0,5,true),(5,5,true)] }
  | _=>none
set_option maxRecDepth 100000 in
theorem XA:bI Try.prog τ:=by
  intro t i h; unfold τ at h; split at h<;>(try cases h)
  · exact⟨_,_,_,rfl,rfl,rfl,rfl,rfl,rfl,rfl,by decide,rfl,rfl,nofun⟩
  · exact⟨_,_,_,rfl,rfl,rfl,rfl,rfl,rfl,rfl,by decide,rfl,rfl,nofun⟩
  · exact⟨_,_,_,rfl,rfl,rfl,rfl,rfl,rfl,rfl,by decide,rfl,rfl,nofun⟩
  · exact⟨_,_,_,rfl,rfl,rfl,rfl,rfl,rfl,rfl,by decide,rfl,rfl,nofun⟩
  · exact⟨_,_,_,rfl,rfl,rfl,rfl,rfl,rfl,rfl,by decide,rfl,rfl,nofun⟩
  · exact⟨_,_,_,rfl,rfl,rfl,rfl,rfl,rfl,rfl,by decide,rfl,rfl,nofun⟩
  · exact⟨_,_,_,rfl,rfl,rfl,rfl,rfl,rfl,rfl,by decide,rfl,rfl,nofun⟩
  · refine⟨_,_,_,rfl,rfl,rfl,rfl,rfl,rfl,rfl,by decide,rfl,⟨_,rfl,rfl,fun j f hf=> ?_⟩,nofun⟩
    match j with
    | 0=>simp at hf; subst hf; exact⟨_,_,rfl,rfl,rfl,rfl,by decide,rfl,rfl⟩
    | 1=>simp at hf; subst hf; exact⟨_,_,rfl,rfl,rfl,rfl,by decide,rfl,rfl⟩
    | j+2=>simp at hf
  · exact⟨_,_,_,rfl,rfl,rfl,rfl,rfl,rfl,rfl,by decide,rfl,rfl,nofun⟩
  · refine⟨_,_,_,rfl,rfl,rfl,rfl,rfl,rfl,rfl,by decide,rfl,⟨_,rfl,rfl,fun j f hf=> ?_⟩,nofun⟩
    match j with
    | 0=>simp at hf; subst hf; exact⟨_,_,rfl,rfl,rfl,rfl,by decide,rfl,rfl⟩
    | 1=>simp at hf; subst hf; exact⟨_,_,rfl,rfl,rfl,rfl,by decide,rfl,rfl⟩
    | 2=>simp at hf; subst hf; exact⟨_,_,rfl,rfl,rfl,rfl,by decide,rfl,rfl⟩
    | j+3=>simp at hf
  · exact⟨_,_,_,rfl,rfl,rfl,rfl,rfl,rfl,rfl,by decide,rfl,rfl,nofun⟩
  · refine⟨_,_,_,rfl,rfl,rfl,rfl,rfl,rfl,rfl,by decide,rfl,⟨_,rfl,rfl,fun j f hf=> ?_⟩,nofun⟩
    match j with
    | 0=>simp at hf; subst hf; exact⟨_,_,rfl,rfl,rfl,rfl,by decide,rfl,rfl⟩
    | 1=>simp at hf; subst hf; exact⟨_,_,rfl,rfl,rfl,rfl,by decide,rfl,rfl⟩
    | 2=>simp at hf; subst hf; exact⟨_,_,rfl,rfl,rfl,rfl,by decide,rfl,rfl⟩
    | 3=>simp at hf; subst hf; exact⟨_,_,rfl,rfl,rfl,rfl,by decide,rfl,rfl⟩
    | j+4=>simp at hf
  · refine⟨_,_,_,rfl,rfl,rfl,rfl,rfl,rfl,rfl,by decide,rfl,⟨_,rfl,rfl,fun j f hf=> ?_⟩,nofun⟩
    match j with
    | 0=>simp at hf; subst hf; exact⟨_,_,rfl,rfl,rfl,rfl,by decide,rfl,rfl⟩
    | 1=>simp at hf; subst hf; exact⟨_,_,rfl,rfl,rfl,rfl,by decide,rfl,rfl⟩
    | 2=>simp at hf; subst hf; exact⟨_,_,rfl,rfl,rfl,rfl,by decide,rfl,rfl⟩
    | 3=>simp at hf; subst hf; exact⟨_,_,rfl,rfl,rfl,rfl,by decide,rfl,rfl⟩
    | j+4=>simp at hf
  · refine⟨_,_,_,rfl,rfl,rfl,rfl,rfl,rfl,rfl,by decide,rfl,⟨_,rfl,rfl,fun j f hf=> ?_⟩,nofun⟩
    match j with
    | 0=>simp at hf; subst hf; exact⟨_,_,rfl,rfl,rfl,rfl,by decide,rfl,rfl⟩
    | 1=>simp at hf; subst hf; exact⟨_,_,rfl,rfl,rfl,rfl,by decide,rfl,rfl⟩
    | 2=>simp at hf; subst hf; exact⟨_,_,rfl,rfl,rfl,rfl,by decide,rfl,rfl⟩
    | j+3=>simp at hf
  · refine⟨_,_,_,rfl,rfl,rfl,rfl,rfl,rfl,rfl,by decide,rfl,⟨_,rfl,rfl,fun j f hf=> ?_⟩,nofun⟩
    match j with
    | 0=>simp at hf; subst hf; exact⟨_,_,rfl,rfl,rfl,rfl,by decide,rfl,rfl⟩
    | 1=>simp at hf; subst hf; exact⟨_,_,rfl,rfl,rfl,rfl,by decide,rfl,rfl⟩
    | 2=>simp at hf; subst hf; exact⟨_,_,rfl,rfl,rfl,rfl,by decide,rfl,rfl⟩
    | 3=>simp at hf; subst hf; exact⟨_,_,rfl,rfl,rfl,rfl,by decide,rfl,rfl⟩
    | j+4=>simp at hf
  · refine⟨_,_,_,rfl,rfl,rfl,rfl,rfl,rfl,rfl,by decide,rfl,⟨_,rfl,rfl,fun j f hf=> ?_⟩,nofun⟩
    match j with
    | 0=>simp at hf; subst hf; exact⟨_,_,rfl,rfl,rfl,rfl,by decide,rfl,rfl⟩
    | 1=>simp at hf; subst hf; exact⟨_,_,rfl,rfl,rfl,rfl,by decide,rfl,rfl⟩
    | 2=>simp at hf; subst hf; exact⟨_,_,rfl,rfl,rfl,rfl,by decide,rfl,rfl⟩
    | j+3=>simp at hf
  · exact⟨_,_,_,rfl,rfl,rfl,rfl,rfl,rfl,rfl,by decide,rfl,rfl,nofun⟩
  · refine⟨_,_,_,rfl,rfl,rfl,rfl,rfl,rfl,rfl,by decide,rfl,⟨_,rfl,rfl,fun j f hf=> ?_⟩,nofun⟩
    match j with
    | 0=>simp at hf; subst hf; exact⟨_,_,rfl,rfl,rfl,rfl,by decide,rfl,rfl⟩
    | j+1=>simp at hf
  · exact⟨_,_,_,rfl,rfl,rfl,rfl,rfl,rfl,rfl,by decide,rfl,rfl,nofun⟩
  · exact⟨_,_,_,rfl,rfl,rfl,rfl,rfl,rfl,rfl,by decide,rfl,rfl,nofun⟩
  · exact⟨_,_,_,rfl,rfl,rfl,rfl,rfl,rfl,rfl,by decide,rfl,rfl,nofun⟩
  · exact⟨_,_,_,rfl,rfl,rfl,rfl,rfl,rfl,rfl,by decide,rfl,rfl,nofun⟩
  · refine⟨_,_,_,rfl,rfl,rfl,rfl,rfl,rfl,rfl,by decide,rfl,⟨_,rfl,rfl,fun j f hf=> ?_⟩,nofun⟩
    match j with
    | 0=>simp at hf; subst hf; exact⟨_,_,rfl,rfl,rfl,rfl,by decide,rfl,rfl⟩
    | 1=>simp at hf; subst hf; exact⟨_,_,rfl,rfl,rfl,rfl,by decide,rfl,rfl⟩
    | 2=>simp at hf; subst hf; exact⟨_,_,rfl,rfl,rfl,rfl,by decide,rfl,rfl⟩
    | 3=>simp at hf; subst hf; exact⟨_,_,rfl,rfl,rfl,rfl,by decide,rfl,rfl⟩
    | 4=>simp at hf; subst hf; exact⟨_,_,rfl,rfl,rfl,rfl,by decide,rfl,rfl⟩
    | j+5=>simp at hf
  · refine⟨_,_,_,rfl,rfl,rfl,rfl,rfl,rfl,rfl,by decide,rfl,⟨_,rfl,rfl,fun j f hf=> ?_⟩,nofun⟩
    match j with
    | 0=>simp at hf; subst hf; exact⟨_,_,rfl,rfl,rfl,rfl,by decide,rfl,rfl⟩
    | 1=>simp at hf; subst hf; exact⟨_,_,rfl,rfl,rfl,rfl,by decide,rfl,rfl⟩
    | 2=>simp at hf; subst hf; exact⟨_,_,rfl,rfl,rfl,rfl,by decide,rfl,rfl⟩
    | j+3=>simp at hf
  · refine⟨_,_,_,rfl,rfl,rfl,rfl,rfl,rfl,rfl,by decide,rfl,⟨_,rfl,rfl,fun j f hf=> ?_⟩,nofun⟩
    match j with
    | 0=>simp at hf; subst hf; exact⟨_,_,rfl,rfl,rfl,rfl,by decide,rfl,rfl⟩
    | 1=>simp at hf; subst hf; exact⟨_,_,rfl,rfl,rfl,rfl,by decide,rfl,rfl⟩
    | 2=>simp at hf; subst hf; exact⟨_,_,rfl,rfl,rfl,rfl,by decide,rfl,rfl⟩
    | j+3=>simp at hf
  · refine⟨_,_,_,rfl,rfl,rfl,rfl,rfl,rfl,rfl,by decide,rfl,⟨_,rfl,rfl,fun j f hf=> ?_⟩,nofun⟩
    match j with
    | 0=>simp at hf; subst hf; exact⟨_,_,rfl,rfl,rfl,rfl,by decide,rfl,rfl⟩
    | 1=>simp at hf; subst hf; exact⟨_,_,rfl,rfl,rfl,rfl,by decide,rfl,rfl⟩
    | j+2=>simp at hf
  · refine⟨_,_,_,rfl,rfl,rfl,rfl,rfl,rfl,rfl,by decide,rfl,⟨_,rfl,rfl,fun j f hf=> ?_⟩,nofun⟩
    match j with
    | 0=>simp at hf; subst hf; exact⟨_,_,rfl,rfl,rfl,rfl,by decide,rfl,rfl⟩
    | 1=>simp at hf; subst hf; exact⟨_,_,rfl,rfl,rfl,rfl,by decide,rfl,rfl⟩
    | 2=>simp at hf; subst hf; exact⟨_,_,rfl,rfl,rfl,rfl,by decide,rfl,rfl⟩
    | j+3=>simp at hf
  · refine⟨_,_,_,rfl,rfl,rfl,rfl,rfl,rfl,rfl,by decide,rfl,⟨_,rfl,rfl,fun j f hf=> ?_⟩,nofun⟩
    match j with
    | 0=>simp at hf; subst hf; exact⟨_,_,rfl,rfl,rfl,rfl,by decide,rfl,rfl⟩
    | 1=>simp at hf; subst hf; exact⟨_,_,rfl,rfl,rfl,rfl,by decide,rfl,rfl⟩
    | j+2=>simp at hf
abbrev vi:V:= .one (.c (.int .i64 0))
abbrev vy:V:= .one (.c (.int .u8 0))
abbrev vb:V:= .one (.c (.bool false))
abbrev vl:V:= .one (.c (.sl []))
abbrev vs:V:= .one (.c (.str []))
abbrev vj:V:= .one .junk
abbrev tl0:List T:=[.int .i64 0, .int .i64 0, .str [], .sl [], .sl []]
abbrev tl1:List T:=[.int .i64 0, .int .i64 0, .str [], .sl []]
abbrev tl2:List T:=[.str [], .int .i64 0, .int .i64 0, .sl []]
abbrev tl3:List T:=[.int .i64 0, .int .i64 0, .str [], .int .i64 0]
abbrev tl5:List T:=[.int .i64 0, .int .i64 0, .str [], .sl [], .sl [], .int .i64 0, .int .i64 0, .str [], .sl [], .sl []]
abbrev tl6:List T:=[.sl [], .int .i64 0, .int .i64 0]
abbrev tl7:List T:=[.sl [], .int .i64 0, .bool false]
abbrev tl8:List T:=[.str [], .sl [], .int .i64 0, .int .i64 0, .str [], .sl [], .sl []]
abbrev tl9:List T:=[.sl [], .sl [], .int .i64 0]
abbrev tl10:List T:=[.int .i64 0, .int .i64 0, .sl []]
abbrev Wi:List T:=[.sl [], .bool false]
abbrev x0:B:=⟨[(0,[[.S]])],[]⟩
abbrev x1:B:=⟨[(0,[[.S]])],[(1000000,[.F, .S, .S])]⟩
abbrev x2:B:=⟨[(0,[[.F]]),(1,[[.S]])],[]⟩
abbrev x3:B:=⟨[(0,[[.S]]),(1,[[.S]])],[(1000000,[.F, .S, .S])]⟩
abbrev x4:B:=⟨[(0,[[.U 1]])],[]⟩
abbrev x5:B:=⟨[(0,[[.S, .S, .S, .U 4]])],[(1000000,[.F, .S, .S])]⟩
abbrev x6:B:=⟨[(0,[[.F]])],[]⟩
abbrev x7:B:=⟨[(0,[[.S]]),(1,[[.F]])],[(1000000,[.F, .S, .S])]⟩
abbrev x8:B:=⟨[(0,[[.F, .F]])],[]⟩
abbrev x9:B:=⟨[(0,[[.S]]),(1,[[.S, .S, .S, .F, .F]]),(2,[[.F]]),(3,[[.F]])],[(1000000,[.A 4, .A 4, .S])]⟩
abbrev x10:B:=⟨[(0,[[.S],[.S],[.S]])],[]⟩
abbrev x11:B:=⟨[(0,[[.S, .S, .S, .F]]),(1,[[.S]])],[]⟩
abbrev x12:B:=⟨[(0,[])],[(1000000,[.A 4, .A 4, .S])]⟩
abbrev x13:B:=⟨[(0,[[.S]])],[(1000000,[.F, .F])]⟩
abbrev x14:B:=⟨[(0,[[.S, .S, .S, .U 5, .U 10]])],[(1000000,[.F, .S, .S])]⟩
abbrev x15:B:=⟨[(0,[[.S]]),(1,[[.S]]),(2,[[.S]])],[]⟩
abbrev x16:B:=⟨[(0,[])],[(1000000,[.U 1, .S])]⟩
abbrev x17:B:=⟨[(0,[[.F, .F]]),(1,[[.S]])],[]⟩
abbrev x18:B:=⟨[(0,[[.S, .S, .S, .N, .N]])],[]⟩
abbrev x19:B:=⟨[(0,[[.S, .S, .S, .F, .F]])],[]⟩
abbrev x20:B:=⟨[(0,[[.U 1]]),(1,[[.S]])],[]⟩
abbrev x21:B:=⟨[(0,[[.S]])],[(1000000,[.S])]⟩
abbrev x22:B:=⟨[(0,[[.U 4, .U 4],[.S]])],[]⟩
abbrev x23:B:=⟨[(0,[[.F]]),(1,[[.F]])],[]⟩
abbrev x24:B:=⟨[(0,[[.S, .S, .S, .S]])],[]⟩
abbrev x25:B:=⟨[(0,[[.S, .S, .S, .F]])],[]⟩
abbrev y0:V:= .one (.ptr 1000000 0)
abbrev y1:V:= .one (.ag [.sl [], .sl []])
abbrev y2:V:= .one (.ag tl0)
abbrev y3:V:= .one (.ag tl1)
abbrev y4:V:= .one (.ptr 1000000 2)
abbrev y5:V:= .one (.ptr 1000000 1)
abbrev y6:V:= .one (.cp [.int .i64 0])
abbrev y7:V:= .tup [.c (.int .i64 0), .c (.int .i64 0), .c (.bool false)]
abbrev y8:V:= .one (.cp tl2)
abbrev y9:V:= .one (.ptr 5 0)
abbrev y10:V:= .one (.ag tl3)
abbrev y11:V:= .one (.ptr 5 1)
abbrev y12:V:= .one (.ptr 1 0)
abbrev y13:V:= .one (.ptr 5 3)
abbrev y14:V:= .one (.ptr 2 0)
abbrev y15:V:= .one (.ptr 1000001 0)
abbrev y16:V:= .one (.ptr 5 2)
abbrev y17:V:= .one (.ptr 4 0)
abbrev y18:V:= .one (.ptr 12 0)
abbrev y19:V:= .one (.ptr 3 0)
abbrev y20:V:= .one (.ag tl2)
abbrev y21:V:= .one (.ptr 6 0)
abbrev y22:V:= .tup [.c (.str []), .c (.int .i64 0), .c (.bool false)]
abbrev y23:V:= .one (.ptr 2 2)
abbrev y24:V:= .one (.ptr 1 1)
abbrev y25:V:= .one (.ptr 7 1)
abbrev y26:V:= .one (.cp [.str []])
abbrev y27:V:= .one (.ptr 7 0)
abbrev y28:V:= .one (.ptr 28 0)
abbrev y29:V:= .tup [.ag [.sl [], .sl []], .c (.bool false)]
abbrev y30:V:= .one (.cp tl1)
abbrev y31:V:= .one (.ptr 4 3)
abbrev y32:V:= .one (.al (.s 4 0 0) [])
abbrev y33:V:= .one (.cp [.int .u8 0])
abbrev y34:V:= .tup [.c (.sl []), .c (.bool false)]
abbrev y35:V:= .one (.ptr 7 3)
abbrev y36:V:= .one (.ptr 3 3)
abbrev y37:V:= .one (.ptr 1000002 0)
abbrev y38:V:= .one (.cp tl0)
abbrev y39:V:= .tup []
abbrev y40:V:= .one (.ptr 4 1)
abbrev y41:V:= .one (.ptr 3 1)
abbrev y42:V:= .one (.ptr 7 2)
abbrev y43:V:= .one (.ptr 4 2)
abbrev y44:V:= .one (.ptr 2 1)
abbrev y45:V:= .one (.cp tl3)
abbrev y46:V:= .one (.cp [.sl []])
abbrev y47:V:= .one (.ptr 8 3)
abbrev y48:V:= .one (.ptr 1 3)
abbrev y49:V:= .one (.pp (.oc 1000000 0) [] 0 0)
abbrev y50:V:= .one (.al (.oc 1000000 0) [])
abbrev y51:V:= .one (.ptr 8 0)
abbrev y52:V:= .one (.ag [.sl []])
abbrev y53:V:= .one (.cp tl5)
abbrev y54:V:= .one (.ptr 13 4)
abbrev y55:V:= .tup [.c (.int .i64 0), .c (.int .i64 0)]
abbrev y56:V:= .one (.ptr 4 4)
abbrev y57:V:= .one (.ptr 3 2)
abbrev y58:V:= .one (.pp (.oc 1000000 0) [] 0 3)
abbrev y59:V:= .one (.ptr 12 2)
abbrev y60:V:= .one (.pp (.s 4 0 0) [] 0 0)
abbrev y61:V:= .one (.fn 44 [(1000000,0)])
abbrev y62:V:= .one (.ptr 9 1)
abbrev y63:V:= .one (.ptr 5 4)
def F3:FA:= { n:=48,sh:=[vl,vj,vb,vl,y17,vb,y21,vb,vl,vb,vl,vl,y29,vl,y29,y1,vb,y29,vl,y29,y1,vb,vb,vb,vb,vb,vb,vb,vb,y17,vl,vi,vb,vb,vb,vb,vb,y1,vb,vb,vb,y1,vl,vl,vb,vb,vb,vb],obs:=[(4,[.sl [], .sl []]),(6,[.sl [], .sl []])],tk:=[10,12,17,23,25,28,34,35,36,40,41,43],keep:=[(0,[0]),(1,[0,9]),(2,[2]),(3,[3]),(4,[3,4,5]),(5,[3,4,5,7]),(6,[2])] }
def F4:FA:= { n:=6,sh:=[vl,vj,vb,vl,vi,vb],obs:=[],tk:=[3],keep:=[(0,[0]),(1,[2])] }
def F5:FA:= { n:=37,sh:=[vl,vj,vl,y21,vl,vl,y21,y21,y1,vl,vl,vi,vb,vl,y21,vi,vb,vb,y32,y21,vl,vi,vi,y21,vl,vi,vy,y60,vb,vb,vl,y21,vl,vi,vi,vl,vl],obs:=[(6,tl6)],al:=[18],tk:=[5,13,23,30,31,32,35,36],dp:=[24],fz:=[24],nw:=[6],keep:=[(0,[0]),(1,[3]),(2,[3,4]),(3,[3,4,12]),(4,[2]),(5,[3,4,15]),(6,[3,4,15,16]),(7,[4]),(8,[3,4,28]),(9,[4]),(10,[2])] }
def F6:FA:= { n:=51,sh:=[vl,vj,y14,vb,y17,y9,y21,y27,vl,vl, .one (.ag tl7),vi,vi,vb,y20,y9,vl,y20,vl,vl,y9,vi,vi,vi,vb,y43,vb,y3,y11,vl,y3,vl,vl,y11,vi,y43,vb,y1,y1,vl,vl,vi,vb,vb,vl,vl,vb,vb,vb,y1,y1],obs:=[(2,[.sl [], .sl []]),(4,tl7),(5,[.sl [], .sl []]),(6,tl2),(7,tl1)],tk:=[12,16,17,23,29,30,36,43,44,45,50],dp:=[18,19,31,32],keep:=[(0,[0,2]),(1,[0,2,4]),(2,[0,2,4,5]),(3,[0,2,4,5,11,12]),(4,[0,2,4,5,11,12,13]),(5,[0,2,4,5,6,11,12]),(6,[0,2,4,5,11,12]),(7,[0,2,4,5,11,12]),(8,[0,2,4,5,22,23]),(9,[0,2,4,5,22,23,24]),(10,[0,2,4,5,22,23,26]),(11,[0,2,4,5,7,22,23]),(12,[0,2,4,5,22,23]),(13,[0,2,4,5,22,23]),(14,[0,2,5,36]),(15,[2,3]),(16,[0,2,5,8]),(17,[2,5,48]),(18,[2,3]),(19,[2,3])] }
def F7:FA:= { n:=101,sh:=[vl,vj,y14,vb,y18,y9,vi,vi,vi,vi,vl, .one (.ag tl7),y18,y1,y18,vi,vi,vi,vb,vb,vi,vb,vb,vb,y18,y18,y59,vb,vb,vb,vi,vi,y9,vl,y18,y20,vl,vl,y9,y18,vi,vi,vi,vb,vb,vi,vb,vb,vb,y18,y18,y59,vb,vb,vb,vi,vi,y11,vl,y18,y3,vl,vl,y11,y18,y18,y59,vb,vb,y18,y18, .one (.ptr 12 1),vi,vl,vi,vb,vb,vb,vi,y9,vl,vi,vb,vb,vb,vi,y11,vl,vi,vb,vb,vb,y1,vl,vs,vl,vs,vb,vb,y1,y1],obs:=[(2,[.sl [], .sl []]),(5,[.sl [], .sl []]),(12,tl7)],tk:=[19,23,30,33,44,48,55,58,67,68,69,72,77,78,84,85,91,95,100],dp:=[36,37,61,62],keep:=[(0,[0,2]),(1,[0,2,4]),(2,[0,2,4,5]),(3,[0,2,4,5,6]),(4,[0,2,4,5,6,7]),(5,[0,2,4,5,6,7,29]),(6,[0,2,4,5,6,7]),(7,[0,2,4,5,6,7]),(8,[0,2,4,5,6,8]),(9,[0,2,4,5,6,8,9]),(10,[0,2,4,5,6,8,9,54]),(11,[0,2,4,5,6,8,9]),(12,[0,2,4,5,6,8,9]),(13,[2,5,98]),(14,[2,3]),(15,[2,3])] }
def F8:FA:= { n:=38,sh:=[y1,y12,vb,vi,y12,vl,vi,vb,vb,y24,vl,vi,vb,vb,y12,vl,vi,vi,vb,vi,y12,vl,vi,y8,y26,vs,vi,vi,vb,vb,y12,vl,vi,y8,vb,vb,vb,vi],obs:=[(1,[.sl [], .sl []])],tk:=[8,17,29,32],keep:=[(0,[1]),(1,[1,13]),(2,[2]),(3,[1,16,17]),(4,[1,16,17,18]),(5,[1,3,16,17]),(6,[1,16,17,36]),(7,[2]),(8,[1,16,17]),(9,[2])] }
def F9:FA:= { n:=26,sh:=[vl,vl,vj,vj,vb,vi,vl,vi,vl,vi,vb,vi,vl,vi,vb,vi,vi,vl,vi,y33,vy,vl,vi,y33,vy,vb],obs:=[],tk:=[15],keep:=[(0,[0,1]),(1,[0,1,10]),(2,[4]),(3,[0,1,5]),(4,[0,1,5,14]),(5,[0,1,5]),(6,[0,1,5,25]),(7,[4]),(8,[4])] }
def F10:FA:= { n:=82,sh:=[y1,y12,vl,vl,vj,y9,vj,y27,vj, .one (.ptr 9 0),y1,vb,vb,vb,y1,vb,vb,vb,y12,vl,vi,vl,y12,vl,vi,vi,vb,y8,y20,vl,y9,vs,vl,y11,vi,vl,y16,vi,vl,y13,vl,vi,vl,y13,vl,vi,vi,vb,y45,y10,vl,y27,vi,vl,y25,vi,vl,y42,vs,vl,y35,vi,vl,vi,vi,vl,y24,vl,vi,vl,y24,vl,vi,vi,vb,y30,y3,vl,y3,vl,vi,vl],obs:=[(1,[.sl [], .sl []]),(5,tl2),(7,tl3),(9,tl1)],tk:=[13,23,25,29,31,34,37,44,46,50,52,55,58,61,65,71,73,77,78,81],keep:=[(0,[1]),(1,[1,17]),(2,[2]),(3,[1,3]),(4,[1,3,23,24,25]),(5,[1,3,23,24,25,26]),(6,[1,3,5,23,24,25]),(7,[1,3,5,23,24,25]),(8,[1,3,23,24,25,44,45,46]),(9,[1,3,23,24,25,44,45,46,47]),(10,[1,3,7,23,24,25,44,45,46]),(11,[1,3,23,24,25,44,45,46]),(12,[1,3,23,24,25,44,45,46]),(13,[1,3,23,24,25]),(14,[1,3]),(15,[3,71,72,73]),(16,[3,71,72,73,74]),(17,[3,9,71,72,73]),(18,[3,71,72,73]),(19,[3,71,72,73]),(20,[2])] }
def F11:FA:= { n:=32,sh:=[vl,vj, .one (.ptr 31 0),vi,vi,vl,vi,vi,vi,vl,vi,vb,vb,vi,vb,vb,vi,vi,vi,vi,vl,vi,y33,vy,vi,vi,vi,vi,vl,vi, .one (.ag tl6), .one (.ptr 31 0)],obs:=[(31,tl6)],tk:=[12,16,18,28,29],keep:=[(0,[0]),(1,[0,3]),(2,[0,3,4]),(3,[0,3,4,15]),(4,[0,3,4]),(5,[0,3,4]),(6,[2])],n0:=some 31 }
def F12:FA:= { n:=94,sh:=[y1,y12,vl,vl,vi,y9,vi,y27,vi,y1,vb,vb,vb,y1,vb,vb,vb,vl,vl,y12,vl,vi,vl,vi,y12,vl,vi,vb,vi,vi,y12,vl,vi,y8,y20,vl,y9,vs,vl,y11,vi,vl,y16,vi,vl,y13,vl,vi,vl,vi,y13,vl,vi,vb,vi,vi,y13,vl,vi,y45,y10,vl,y27,vi,vl,y25,vi,vl,y42,vs,vl,y35,vi,vl,vl,y24,vl,vi,vl,vi,y24,vl,vi,vb,vi,vi,vl,y24,vl,vi,y30,y3,vl,vl],obs:=[(1,[.sl [], .sl []]),(5,tl2),(7,tl3)],tk:=[12,28,35,37,40,43,54,61,63,66,69,72,74,84,86,93],dp:=[17,18],keep:=[(0,[1]),(1,[1,16]),(2,[2]),(3,[1,3]),(4,[1,3,4]),(5,[1,3,4,27]),(6,[1,3,4]),(7,[1,3,4,5]),(8,[1,3,4,5]),(9,[1,3,4,5,6]),(10,[1,3,4,5,6,53]),(11,[1,3,4,5,6]),(12,[1,3,4,5,6,7]),(13,[1,3,4,5,6]),(14,[1,3]),(15,[1,3,8]),(16,[1,3,8,83]),(17,[1,3,8]),(18,[1,3,8]),(19,[2])] }
def F13:FA:= { n:=6,sh:=[y0,vj,y14,y0,y52,y1],obs:=[(2,[.sl [], .sl []]),(1000000,tl6)],tk:=[3],fz:=[4],keep:=[(0,[0,2]),(1,[2])] }
def F14:FA:= { n:=31,sh:=[y0,vi,vj,vj,vi,vi,vi,vi,vi,vb,vi,vb,y0,vi,vi,vi,y0,vi,y0,vi,y0,vi,vi,vi,vi,vi,vi,vi,vi,vi,vi],obs:=[(1000000,tl6)],tk:=[12,14,20,22,24,27,29],keep:=[(0,[0,1]),(1,[0,1,9]),(2,[4]),(3,[0,1,11]),(4,[4]),(5,[0,1,5]),(6,[0,1,5,6]),(7,[1,5,6,7]),(8,[4])] }
def F15:FA:= { n:=12,sh:=[y0,vl,vj,vj,vi,vl,y0,vl,vi,vi,y6,vi],obs:=[(1000000,tl6)],tk:=[6,7],keep:=[(0,[0,1]),(1,[4])] }
def F16:FA:= { n:=16,sh:=[y0,vi,vj,vj,vi,vi,y0,vi,vi,vi,vb,vb,y0,y0,y4,vi],obs:=[(1000000,tl7)],tk:=[9,12,15],keep:=[(0,[0,1]),(1,[0,1,5]),(2,[0,5,11]),(3,[]),(4,[4]),(5,[4])] }
def F17:FA:= { n:=42,sh:=[y0,vj,y14,y19,y17,y0,vs,y20,y0,vi,y41,y0,vi,y57,y0,vi,vi,vb,y0,y0,y4,vb,y0,vi,y10,y0,vi,y40,y0,vs,y43,y0,vi,y31,y36,vl,y10,vl,vl,y36,vi,y20],obs:=[(2,tl2),(3,tl2),(4,tl3),(1000000,tl7)],tk:=[16,35,36,41],dp:=[37,38],keep:=[(0,[0,2]),(1,[0,2,3]),(2,[0,2,3]),(3,[0,2,3]),(4,[0,2,3,15,16]),(5,[0,2,3,15,16,17]),(6,[0,2,3,15,16,21]),(7,[0,2,3,4,15,16]),(8,[0,2,3,4,15,16]),(9,[0,2,3,4,15,16]),(10,[0,2,3,4,15,16]),(11,[0,2,3,15,16]),(12,[0,2,3,15,16]),(13,[2])] }
def F18:FA:= { n:=41,sh:=[y0,vi,vj,vj,y17,y9,y21,y0,vi,y3,y0,vi,y11,y0,vs,y16,vi,vb,y0,y0,y4,y0,vi,vi,vb,y0,y0,y4,vb,y0,vi,vi,y3,y13,vl,y3,vl,vl,y13,vi,y3],obs:=[(4,tl1),(5,tl1),(6,tl1),(1000000,tl7)],tk:=[23,34,35,40],dp:=[36,37],keep:=[(0,[0,1,4]),(1,[0,1,4,5]),(2,[0,1,4,5]),(3,[0,1,4,5]),(4,[0,1,4,5,17]),(5,[0,1,4,5]),(6,[0,1,4,5,22,23]),(7,[0,1,4,5,22,23,24]),(8,[0,1,4,5,22,23,28]),(9,[0,1,4,5,6,22,23]),(10,[0,1,4,5,22,23]),(11,[0,1,4,5,22,23]),(12,[4])] }
def F19:FA:= { n:=10,sh:=[vl,vl,vj,vj,vb,vl,vs,vl,vs,vb],obs:=[],tk:=[5,7],keep:=[(0,[0,1]),(1,[4])] }
def F20:FA:= { n:=35,sh:=[y0,vj,vi,vi,vi,vb,y7,y0,y0,y0,vl,y0,y0,y5,vi,y7,vi,vi,vb,y0,y0,y4,vb,vb,vb,vb,vb,y0,y0,y4,y0,vi,y0,y5,vi],obs:=[(1000000,tl7)],tk:=[6,23,24,27,30,31,34],keep:=[(0,[0]),(1,[0,3,4,5]),(2,[0,3,4,26]),(3,[]),(4,[2]),(5,[3]),(6,[2])] }
def F21:FA:= { n:=53,sh:=[y0,vj,y14,y19,vi,vi,y21,y0,vs,y20,y0,vi,y41,y0,vi,y57,y0,vi,vi,vi,vb,vb,vi,vb,vb,vb,y0,y0,y4,vb,vb,vb,vi,vi,y0,vi,y10,y0,vi, .one (.ptr 6 1),y0,vs, .one (.ptr 6 2),y0,vi, .one (.ptr 6 3),y36,vl,y10,vl,vl,y36,y20],obs:=[(2,tl2),(3,tl2),(6,tl3),(1000000,tl7)],tk:=[21,25,32,47,48,52],dp:=[49,50],keep:=[(0,[0,2]),(1,[0,2,3]),(2,[0,2,3]),(3,[0,2,3]),(4,[0,2,3,4]),(5,[0,2,3,4,5]),(6,[0,2,3,4,5,31]),(7,[0,2,3,4,5]),(8,[0,2,3,4,5,6]),(9,[0,2,3,4,5,6]),(10,[0,2,3,4,5,6]),(11,[0,2,3,4,5,6]),(12,[0,2,3,4,5]),(13,[2])] }
def F22:FA:= { n:=51,sh:=[y0,vi,vj,vj,y17,y9,vi,vi,y0,vi,y3,y0,vi,y11,y0,vs,y16,y0,vi,vi,vb,vb,vi,vb,vb,vb,y0,y0,y4,vi,vi,vb,vb,y0,y0,y4,vb,vb,vb,vi,vi,y13,vl,y0,vi,vi,y3,vl,vl,y13,y3],obs:=[(4,tl1),(5,tl1),(1000000,tl7)],tk:=[21,32,39,42,50],dp:=[47,48],keep:=[(0,[0,1,4]),(1,[0,1,4,5]),(2,[0,1,4,5]),(3,[0,1,4,5]),(4,[0,1,4,5,6]),(5,[0,1,4,5,6,25]),(6,[0,1,4,5,6]),(7,[0,1,4,5,6,7]),(8,[0,1,4,5,6,7,38]),(9,[0,1,4,5,6,7]),(10,[0,1,4,5,6,7]),(11,[4])] }
def F23:FA:= { n:=11,sh:=[y0,vs,vj,y19,vi,y0,y0,y0,vl, .one (.fn 44 [(3,0)]),vi],obs:=[(3,[.str []]),(1000000,[.sl [], .sl []])],tk:=[5],keep:=[(0,[0,3]),(1,[4])] }
def F24:FA:= { n:=65,sh:=[y0,y8,vj,vj,vb,vj,y21,vl,vb,y8,y8,y26,vs,vb,vb,vb,y8,y8,y6,vi,vb,vb,vb,vb,y8,y8,y6,vi,y8,y8,y6,vi,vb,vb,vb,vb,y8,y8,y46,vl,vi,vb,vb,vb,y8,y8,y46,vl,vi,vi,vb,y45,y10,y0,y8,y10,vb,vb,vi,y34,y8,y34,vl,vb,vb],obs:=[(6,tl3),(1000000,[.sl [], .sl []])],tk:=[15,23,35,49,55,59,60,64],keep:=[(0,[0,1]),(1,[0,1,43]),(2,[4]),(3,[0,1,47,48,49]),(4,[0,1,47,48,49,50]),(5,[0,1,6,47,48,49]),(6,[0,1,47,48,49,57]),(7,[4]),(8,[0,1,47,48,49]),(9,[8]),(10,[4])] }
def F25:FA:= { n:=16,sh:=[y1,y12,vb,vj,y17,y24,vl,vi,vi,vb,y30,y3,y3,vb,vb,vi],obs:=[(1,[.sl [], .sl []]),(4,tl1)],tk:=[6,8,12],keep:=[(0,[1]),(1,[6,7,8]),(2,[6,7,8,9]),(3,[4,6,7,8]),(4,[6,7,8,14]),(5,[2]),(6,[6,7,8]),(7,[2])] }
def F26:FA:= { n:=32,sh:=[vl,vi,vj,vj,vl,vi,vi,vi,vi,vi,vi,vi,vb,vi,vi,vi,vi,vb,vl,vi,vi,vi,vy,vl,vl,vi,vi,vl,vi,vy,vl,vl],obs:=[],tk:=[6,13,18,25,27,28],dp:=[23,24,30,31],keep:=[(0,[0,1]),(1,[0,1]),(2,[0,1,5]),(3,[0,1,5,12]),(4,[0,5]),(5,[0,5,17]),(6,[0,5]),(7,[0,5]),(8,[4])] }
def F27:FA:= { n:=11,sh:=[vl,vs,vj,vj,vl,vl,vs,vi,vl,vs,vl],obs:=[],tk:=[5,9],dp:=[10],keep:=[(0,[0,1]),(1,[4])] }
def F28:FA:= { n:=33,sh:=[vl,y3,vj,y19,vl,vj,y21,vl,y19,vi,vl,y41,vi,vl,y57,vs,vl,y36,vl,vi,vl,y36,vl,vi,vi,vb,y30,y3,vl,y3,vl,vi,vl],obs:=[(3,tl1),(6,tl1)],tk:=[7,9,12,15,22,24,28,29,32],keep:=[(0,[0,3]),(1,[0,3]),(2,[0,22,23,24]),(3,[0,22,23,24,25]),(4,[0,6,22,23,24]),(5,[0,22,23,24]),(6,[0,22,23,24]),(7,[4])] }
def F29:FA:= { n:=25,sh:=[y1,y12,vb,vi,y12,vl,vi,vb,vb,y24,vl,vi,vb,vb,vi,y12,vl,vi,vb,vi,vi,y1,vi,vb,vb],obs:=[(1,[.sl [], .sl []])],tk:=[8,19],keep:=[(0,[1]),(1,[1,13]),(2,[2]),(3,[1,3]),(4,[1,3,18]),(5,[1,3]),(6,[1,3,24]),(7,[2]),(8,[2])] }
def F30:FA:= { n:=18,sh:=[y1,y12,vb,vi,vi,y24,vl,vi,vb,vi,vi,y24,vl,vi,y30,y3,vb,vb],obs:=[(1,[.sl [], .sl []])],tk:=[9],keep:=[(0,[1]),(1,[1,3]),(2,[1,3,8]),(3,[1,3]),(4,[1,3,17]),(5,[2]),(6,[2])] }
def F31:FA:= { n:=37,sh:=[vl,vi,vj,vj,vl,vl,vi,vl,vl,vl,vi,vb,vi,vb,vi,vi,vi,vb,vi,vi,vi,vi,vb,vl,vi,vi,vi,vy,vl,vl,vi,vi,vl,vi,vy,vl,vl],obs:=[],tk:=[8,18,23,30,32,33],dp:=[7,9,28,29,35,36],keep:=[(0,[0,1]),(1,[1,5]),(2,[1,5,11]),(3,[1,5]),(4,[1,5,13]),(5,[1,5]),(6,[1,5,6]),(7,[1,5,6,17]),(8,[5,6]),(9,[5,6,22]),(10,[5,6]),(11,[5,6]),(12,[4])] }
def F32:FA:= { n:=11,sh:=[vl,vs,vj,vj,vl,vl,vs,vi,vl,vs,vl],obs:=[],tk:=[5,9],dp:=[10],keep:=[(0,[0,1]),(1,[4])] }
def F33:FA:= { n:=35,sh:=[vl,y3,vj,y19,vl,vi,vl,y19,vi,vl,y41,vi,vl,y57,vs,vl,y36,vl,vi,vl,vi,y36,vl,vi,vb,vi,vi,vl,y36,vl,vi,y30,y3,vl,vl],obs:=[(3,tl1)],tk:=[6,8,11,14,25,27,34],keep:=[(0,[0,3]),(1,[0,3]),(2,[0,3,5]),(3,[0,3,5,24]),(4,[0,3,5]),(5,[0,3,5]),(6,[4])] }
def F34:FA:= { n:=76,sh:=[y52,y12,y14,y19,vi,y9,y28,vl,vi,y1,vi,y12,vl,vi,vb,vi,vi,y12,vl,vi, .one (.cp tl8), .one (.ag tl8),y41,vl,y11,vl,vi, .one (.ag tl9),y28,vl,vi,y11,vl,vi,vb,vi,vi,vl,vi,vl,vl,y28,y16,y2,y11,vl,vl,y39,y28,y10,y39,y28,y28, .one (.ptr 28 1),vl,y41,y19,vl,y9,vs,y11,vl,vi,y28,y28, .one (.ptr 28 2),vi,y28,y28,y28,vl,y20,vl,vl,y19,y1],obs:=[(1,[.sl []]),(2,[.sl [], .sl []]),(3,[.sl [], .sl []]),(5,tl8),(28,tl9)],tk:=[15,23,35,37,43,46,54,57,59,61,66,67,70,75],dp:=[29,39,40],fz:=[46],keep:=[(0,[1,2]),(1,[1,2,3]),(2,[1,2,3,4]),(3,[1,2,3,4,14]),(4,[1,2,3,4]),(5,[1,2,3,4,5]),(6,[1,2,3,4,5,6]),(7,[1,2,3,4,5,6,7]),(8,[1,2,3,4,5,6,7,8]),(9,[1,2,3,4,5,6,7,8,34]),(10,[1,2,3,4,5,6,7,8]),(11,[1,2,3,4,5,6,7,8]),(12,[1,2,3,4,5,6]),(13,[1,2,3,4,5,6]),(14,[1,2,3,4,5,6]),(15,[1,2,3,4]),(16,[2])] }
def F35:FA:= { n:=33,sh:=[y0,vj,y14,y19,vi,y9,y52,vi,vb,vi,vi,vl,vi,y26,vs,vl, .one (.ag tl8),vi,vb,vl,y11,y0,y11,vl,y2,y16,y19,vl, .one (.ag tl8),vl,vl,y19,y52],obs:=[(2,[.sl []]),(3,[.sl []]),(5,tl8),(1000000,tl6)],tk:=[9,27,28,32],dp:=[11,15,19],fz:=[16,19,24],keep:=[(0,[0,2]),(1,[0,2,3]),(2,[0,2,3,4]),(3,[0,2,3,4,8]),(4,[0,2,3,4]),(5,[0,2,3,4,5]),(6,[0,2,3,4,5,18]),(7,[0,2,3,4,5]),(8,[0,2,3,4,5]),(9,[0,2,3,4]),(10,[2])] }
def F36:FA:= { n:=58,sh:=[y0,vj,vi,vi,y0,y0,y0,y4,vi,vi,vi,y0,y4,y0,y0,y4,vi,vi,y0,y0,y4,vi,vi,vi,vi,y0,y0,y5,vi,y0,y0,y0,vl,vi,vb,vi,y0,y0,y0,vl,y0,y0,y5,vi,y33,vy,vi,vi,vi,y0,y0,y0,y5,vi,vi,y0,y5,vi],obs:=[(1000000,tl6)],tk:=[8,35,50,53,57],keep:=[(0,[0]),(1,[0]),(2,[0,3]),(3,[0,3,34]),(4,[0,3]),(5,[3]),(6,[2])] }
def F37:FA:= { n:=35,sh:=[y0,vj,vi,vi,vi,vb,y7,y0,y0,y0,vl,y0,y0,y5,vi,y7,vi,vi,vb,y0,y0,y4,vb,vb,vb,vb,vb,y0,y0,y4,y0,vi,y0,y5,vi],obs:=[(1000000,tl7)],tk:=[6,23,24,27,30,31,34],keep:=[(0,[0]),(1,[0,3,4,5]),(2,[0,3,4,26]),(3,[]),(4,[2]),(5,[3]),(6,[2])] }
def F38:FA:= { n:=15,sh:=[vi,vi,vi,vj,vj,vj,vb,vi,vi,vb,vb,vi,vi,vb,vb],obs:=[],tk:=[8,10,11,12],keep:=[(0,[0,1,2]),(1,[6])] }
def F39:FA:= { n:=35,sh:=[y0,vj,vs,vs,vi,vb,y22,y0,y0,y0,vl,y0,y0,y5,vi,y22,vs,vi,vb,y0,y0,y4,vb,vb,vb,vb,vb,y0,y0,y4,y0,vi,y0,y5,vs],obs:=[(1000000,tl7)],tk:=[6,23,24,27,30,31,34],keep:=[(0,[0]),(1,[0,3,4,5]),(2,[0,3,4,26]),(3,[]),(4,[2]),(5,[3]),(6,[2])] }
def F40:FA:= { n:=74,sh:=[vl,vi,vj,vj,vi,vi,vb,vi,vi,vi,vi,vi,vb,vb,vi,vb,vb,vb,vi,vl,vi,vb,vb,vb,vi,vi,vi,vl,vi,vb,vb,vi,vi,vl,vi,vi,vi,y33,vy,vi,vi,vi,vi,vi,vi, .one (.c (.int .u64 0)),vi,vi,vi,vb,vi,vi,vi,vi,vb,vi,vi,vi,vi,vb,vb,vi,vb,vb,vb,vi,vb,vb,vb,vi,vi,vi,vi,vi],obs:=[],tk:=[13,17,23,31,40,52,55,60,61,64,69,70,71],keep:=[(0,[0,1]),(1,[0,1,7]),(2,[0,1,7,8]),(3,[0,1,7,8,30]),(4,[0,1,7,8]),(5,[0,1,7,8,9]),(6,[0,1,7,8,9]),(7,[0,1,7,8,9,49]),(8,[1,7,8,9,10]),(9,[1,8,9,10,54]),(10,[1,8,9,10]),(11,[1,8,10,68]),(12,[4,5,6]),(13,[4,5,6]),(14,[4,5,6])] }
def F41:FA:= { n:=35,sh:=[y0,vj,vs,vs,vi,vb,y22,y0,y0,y0,vl,y0,y0,y5,vi,y22,vs,vi,vb,y0,y0,y4,vb,vb,vb,vb,vb,y0,y0,y4,y0,vi,y0,y5,vs],obs:=[(1000000,tl7)],tk:=[6,23,24,27,30,31,34],keep:=[(0,[0]),(1,[0,3,4,5]),(2,[0,3,4,26]),(3,[]),(4,[2]),(5,[3]),(6,[2])] }
def F42:FA:= { n:=15,sh:=[vi,vi,vi,vj,vj,vj,vb,vi,vi,vb,vb,vi,vi,vb,vb],obs:=[],tk:=[8,10,11,12],keep:=[(0,[0,1,2]),(1,[6])] }
def F43:FA:= { n:=19,sh:=[vl,y61,vj,vj,vi,vi,vl,vi,vi,vb,vi,y61,vl,vi,y8,y20,vb,vi,vi],obs:=[(1000000,[.str []])],tk:=[8,17],keep:=[(0,[0,1]),(1,[0,1,7,8]),(2,[0,1,7,8,9]),(3,[0,1,5,7,8]),(4,[0,1,5,7,8,16]),(5,[4]),(6,[0,1,7,8]),(7,[4])] }
def F44:FA:= { n:=8,sh:=[y20,y0,y14,vb,y14,vs,vs,vb],obs:=[(2,tl2),(1000000,[.str []])],tk:=[5],keep:=[(0,[1,2]),(1,[3])] }
def F45:FA:= { n:=17,sh:=[vs,vj,vb,vs,vb,vb,vs,vb,vb,vb,vs,vb,vb,vb,vs,vb,vb],obs:=[],tk:=[5,9,13,14],keep:=[(0,[0]),(1,[2])] }
def F46:FA:= { n:=179,sh:=[y0,y8,y10,vj,vj,y9,vb,vb,vb,vi,y16,vs,vb,vb,y13,vi,vb,vb,y13,vi,y8,y8,y46,vl,vi,vi,vb,y9,vi,vb,vb,vb,vb,y11,vi,vb,vb,vb,vb,y11,vi,vb,vb,y16,vs,vb,vb,vb,y13,vi,vb,vb,vb,vb,vb,vb,y11,vi,y8,y8,y6,vi,vi,vb,vb,vb,vb,vb,vb,vb,y11,vi,vb,vb,vb,vb,vb,vb,y11,vi,vb,vb,vb,vb,y11,vi,vb,vb,y16,vs,vb,vb,vb,y13,vi,vb,vb,vb,vb,y0,y16,vs,vi,vi,vb,vb,y0,y0,y0,vl,vi,y8,y6,vi,y11,vi,vb,vb,vb,y13,vi,vb,vb,vb,vb,y16,vs,vb,vb,vb,vb,vb,y11,vi,y0,y0,y5,vl,vi,vi,vb,vb,vb,y0,y0,y5,vl,y11,vi,y30,y3,y8,y8,y6,vi,vb,vb,vb,vb,y16,vs,vb,vb,y11,vi,vb,vb,vb,vb,vb,vb,vb,vb,vb,vb,y11,vi,vb,vb],obs:=[(5,tl3),(1000000,[.sl [], .sl []])],tk:=[13,28,31,32,34,40,42,44,47,49,54,55,57,58,68,69,71,76,77,79,85,87,89,92,94,101,105,106,110,115,118,120,126,128,129,131,142,143,148,151,160,162,164,167,168,173,174,176],keep:=[(0,[0,1,5]),(1,[0,1,5,7]),(2,[0,1,5,7,8]),(3,[0,1,5,7,8,28]),(4,[0,1,5,7,8,28,29]),(5,[6]),(6,[0,1,5,7,8,28,37]),(7,[6]),(8,[0,1,5,7,8,28,52]),(9,[6]),(10,[0,1,5,7,8,28,65]),(11,[0,1,5,7,8,28,65]),(12,[6]),(13,[0,1,5,7,8,28,74]),(14,[6]),(15,[0,1,5,7,8,28,82]),(16,[6]),(17,[0,1,5,7,8,28,97]),(18,[0,5,9]),(19,[6]),(20,[0,1,5,7,8,28,123]),(21,[6]),(22,[5,7,8,28,157]),(23,[6]),(24,[5,7,28,170]),(25,[5,7,170]),(26,[6]),(27,[6])] }
def F47:FA:= { n:=56,sh:=[y8,vj,vl,vb,y17,vi,vi,y27,y8,y8,y46,vl,vi,vl, .one (.ag Wi),y17,vl,vi,vi,vb,vi,y17, .one (.al (.oc 4 0) []),vi, .one (.pp (.oc 4 0) [] 0 0),vi,y39,y8,y8,y46,vl,vi,vi,vb,vi,y45,y10,y40,vb,vb,y17,vl,vi,y6,vi,vb,vb,vi,y10,y39,vi,y17,vl,y40,vb,vb],obs:=[(4,Wi),(7,tl3)],al:=[22],tk:=[18,23,27,32,39,47,48,52,54],keep:=[(0,[0]),(1,[0,4]),(2,[0,4,17,18]),(3,[0,4,17,18,19]),(4,[0,4,5,17,18]),(5,[0,4,17,18]),(6,[0,4,17,18]),(7,[0,4]),(8,[4,30,31,32]),(9,[4,30,31,32,33]),(10,[4,6,7,30,31,32]),(11,[4,6,7,30,31,32,46]),(12,[2,3]),(13,[4,30,31,32]),(14,[4,30,31,32]),(15,[2,3])] }
def F48:FA:= { n:=14,sh:=[y3,vi,y14,vj,vb,y9,vi, .one (.ag tl10),vi,vb,vb,y3,vb,vb],obs:=[(2,tl1),(5,tl10)],tk:=[8,10,11],keep:=[(0,[1,2]),(1,[1,2,5]),(2,[4])] }
def F49:FA:= { n:=83,sh:=[y1,vi,y14,vj,vb,y9,vi,vl,vb,vi,y14,vl,vi,y8,y20,y9,vs,vb,vb,vb,y1,y9,vs,vi,vi,vb,vb,vb,y11,vi,vb,vb,vb,vb,y16,vi,y11,vi,vb,vb,vb,vb,y13,vl,vi,vb,vb,vb,vi,y13,vl,vi,vb,vi,vi,y1,y20,vi,vb,vb,y34,y20,y34,vl,vb,y13,vl,y13,vl,vi,vi,y45,y6,vi,vb,vb,vi,vb,vb,vi,vb,vb,vb],obs:=[(2,[.sl [], .sl []]),(5,tl2)],tk:=[19,24,27,33,41,53,60,68,74,75,78,79],keep:=[(0,[1,2]),(1,[1,2,5]),(2,[2,5,47]),(3,[4]),(4,[2,5,6]),(5,[2,5,6,52]),(6,[2,5,6]),(7,[2,5,6,59]),(8,[4]),(9,[5,8]),(10,[8,9]),(11,[4])] }
def F50:FA:= { n:=39,sh:=[y3,vi,y14,vj,vb,vl,vi,vi,vi,vb,vb,vb,y3,vi,vi,vb,vb,y3,vl,vi,vl,vi,vb,vi,vi,vi,vi,vb,vi,vi,vl,vi,y6,vi,vl,vi,y6,vi,vb],obs:=[(2,tl1)],tk:=[11,13,17,23,28],keep:=[(0,[1,2]),(1,[2,16]),(2,[4]),(3,[5]),(4,[5,6]),(5,[5,6,22]),(6,[5,6]),(7,[5,6,7]),(8,[5,6,7,27]),(9,[5,6,7]),(10,[5,6,7,38]),(11,[4]),(12,[4])] }
def F51:FA:= { n:=95,sh:=[y0,y2,vl,vl,vj,y9,vj,vj,vi,vi,vi,y13,vl,vi,vb,vi,vi,y0,y13,vl,vi,y38,y2,vl,vl,y39,y13,vl,vi,y9,vi,vb,vb,y0,y11,vi,y10,y39,vb,vb,y0,y16,vs,y10,y39,vb,vb,y0,vl,vl,y16,vs,vi,y10,y39,vb,vb,y0,vi,y10,y39,vb,vb,y0,vi,y10,y39,vb,vb,y0,vi,y10,y39,vb,vb,y0,y16,vs,y10,y39,vb,vb,y0,y16,vs,vi,y10,y39,vb,vb,y0,y2,vl,vl,y39],obs:=[(5,tl0),(1000000,tl9)],tk:=[15,33,35,40,42,47,48,49,51,57,58,63,64,69,70,75,77,82,84,85,90,91,92,93],keep:=[(0,[0,2,3,5]),(1,[0,2,3,5,8]),(2,[0,2,3,5,8,14]),(3,[0,2,3,5,8]),(4,[0,2,3,5,8]),(5,[0,2,3,5,9]),(6,[0,2,3,5,9,30]),(7,[0,2,3,5,9,30,31]),(8,[]),(9,[0,2,3,5,9,30,38]),(10,[]),(11,[0,2,3,5,9,30,45]),(12,[]),(13,[0,2,3,5,9,30,55]),(14,[]),(15,[0,2,3,5,9,30,61]),(16,[]),(17,[0,2,3,5,9,30,67]),(18,[]),(19,[0,2,3,5,9,30,73]),(20,[]),(21,[0,2,3,5,9,30,80]),(22,[]),(23,[0,2,3,5,88]),(24,[])] }
def F52:FA:= { n:=14,sh:=[y0,y10,vj,y19,y0,y0,y0,y0,vl,y10,vl,vl,y0,y0],obs:=[(3,tl3),(1000000,tl9)],tk:=[5,8,9],dp:=[10],keep:=[(0,[0,3]),(1,[])] }
def F53:FA:= { n:=14,sh:=[y0,vl,vj,vj,y17,y9,y0,vl,y2,y2,vb,vb,y2,y2],obs:=[(4,tl0),(5,tl0),(1000000,tl6)],tk:=[6,7,13],keep:=[(0,[0,1,4]),(1,[4,5]),(2,[4,5,11]),(3,[4]),(4,[4])] }
def F54:FA:= { n:=66,sh:=[vl,vi,vj,vj,vi,vi,vb,vi,vi,vi,vi,vi,vl,vi,vi,vb,vb,vi,vb,vb,vi,vl,vi,vb,vb,vi,vi,vl,vi,y33,vy,vi,vi,vi,vi,vi,vi,vi,vi, .one (.c (.int .u64 0)),vi,vi,vi,vb,vi,vi,vi,vi,vb,vi,vi,vi,vi,vi,vb,vb,vi,vb,vb,vb,vi,vb,vb,vb,vi,vi],obs:=[],tk:=[19,25,32,34,49,53,55,56,59,64,65],keep:=[(0,[0,1]),(1,[0,1,16]),(2,[4,5,6]),(3,[0,1,7]),(4,[0,1,7,8]),(5,[0,1,7,8,24]),(6,[0,1,7,8]),(7,[0,1,7,8,9]),(8,[0,1,7,8,9]),(9,[0,1,7,8,9]),(10,[0,1,7,8,9,43]),(11,[1,7,8,9,10]),(12,[1,7,8,9,10,48]),(13,[1,8,9,10]),(14,[1,10,63]),(15,[4,5,6]),(16,[4,5,6]),(17,[4,5,6])] }
def F55:FA:= { n:=41,sh:=[vl,vi,vj,vj,vs,vi,vb,vi,vi,vb,y7,vl,vi,y7,vi,vi,vb,vb,vb,vb,vi,vb,vb,vb,vi,vl,vi,vi,vi,vb,vb,vl,vi,vi,vi,vi,vl,vs,vi,vi,vi],obs:=[],tk:=[10,12,17,19,23,31,38,39],keep:=[(0,[0,1]),(1,[0,7,8,9]),(2,[0,7,8,30]),(3,[4,5,6]),(4,[4,5,6])] }
def F56:FA:= { n:=41,sh:=[vl,vi,vj,vj,vs,vi,vb,vi,vi,vb,y7,vl,vi,y7,vi,vi,vb,vb,vb,vb,vi,vb,vb,vb,vi,vl,vi,vi,vi,vb,vb,vl,vi,vi,vi,vi,vl,vs,vi,vi,vi],obs:=[],tk:=[10,12,17,19,23,31,38,39],keep:=[(0,[0,1]),(1,[0,7,8,9]),(2,[0,7,8,30]),(3,[4,5,6]),(4,[4,5,6])] }
def F57:FA:= { n:=35,sh:=[vs,vj,vb,vi,vi,vs,vi,vb,vi,vi,vs,vi,vy,vb,vb,vb,vi,vb,vb,vs,vi,vy,vb,vb,vb,vs,vi,vy,vb,vb,vb,vb,vs,vi,vb],obs:=[],tk:=[8,15,18,24,32],keep:=[(0,[0]),(1,[0,3]),(2,[0,3,7]),(3,[0,3]),(4,[0,3,31]),(5,[2]),(6,[2])] }
def F58:FA:= { n:=10,sh:=[vs,vj,vb,vs,vb,vb,vb,vb,vb,vb],obs:=[],tk:=[3],keep:=[(0,[0]),(1,[3]),(2,[3,4]),(3,[3,4]),(4,[3,4]),(5,[3,4]),(6,[4]),(7,[2]),(8,[2])] }
def F59:FA:= { n:=50,sh:=[y0,vi,vi,vj,vj,vj,vb,vi,y0,y0,y0,vl,vi,vb,vb,vi,vb,vb,y0,y0,y5,vb,y0,y0,y0,vl,vi,y6,vi,vb,y0,y0,y0,y50,vi,vi,y49,vb,y0,y0,y0,vl,vi,y6,vi,vi,vb,y0,y0,y5],obs:=[(1000000,Wi)],al:=[33],tk:=[14,18,30,34,35,42,45,47],keep:=[(0,[0,1,2,6]),(1,[]),(2,[0,1,2,21]),(3,[]),(4,[0,37]),(5,[])] }
def F60:FA:= { n:=83,sh:=[y0,vi,y10,vj,vj,y9,vi,y0,y0,y0,vl,vi,y6,vi,vi,y10,vi,vb,vb,y9,vi,vb,vb,y9,vi,vb,vb,vb,y13,vi,vi,vb,vb,vb,y0,y0,y5,y9,vi,y0,vi,vi,vi,y10,vi,vi,vi,y39,vb,vb,y0,vi,vi,vi,vi,y39,y0,y13,vi,vi,y39,vb,vb,y0,y13,vi,vi,y39,vb,vb,vb,vb,y0,y0,y0,y5,vb,vb,vi,vb,vb,y0,y5],obs:=[(5,tl3),(1000000,Wi)],tk:=[18,22,27,34,39,40,42,43,51,56,58,59,63,65,66,73,76,77,78],keep:=[(0,[0,1,5]),(1,[0,1,5,6]),(2,[0,1,5,6,33]),(3,[]),(4,[0,1,5,6,38]),(5,[]),(6,[0,1,5,6,38,48]),(7,[0,5,6]),(8,[]),(9,[0,1,5,6,38,61]),(10,[]),(11,[0,1,5,6,38,68]),(12,[0,1,5,6,70]),(13,[])] }
def F61:FA:= { n:=103,sh:=[y0,y3,vi,vj,y17,vj,vb,vj,y51,y0,y0,y5,vi,vi,y0,y5,vi,vb,vb,y0,y0,y5,vi,vb,vb,y17,vi,vb,y40,vi,y0,y0,y0,vi,vi,vb,vb,vb,y43,vs,vb,vb,vb,y31,vl,vi,vb,vb,vb,y40,vi,vb,vb,y0,y0,y4,vl,y40,vi,vb,vb,vb,y0,y0,y0,y4,vl,y40,vi,vl,vl,y0,y4,y17,vi,vb,vb,y17,vi,y40,vi,y43,vs,y31,vl,vi,vb,vb,vb,y31,vl,vi,vi,vb,y30,y3,y0,y3,vi,vi,vb,vb,vi],obs:=[(4,tl1),(8,tl1),(1000000,tl10)],tk:=[12,18,37,39,42,44,48,52,63,66,68,76,78,80,82,90,92,97],dp:=[69],keep:=[(0,[0,2,4]),(1,[0,2,4]),(2,[0,2,4,24]),(3,[6]),(4,[0,2,4,27]),(5,[0,4,61]),(6,[6]),(7,[]),(8,[6]),(9,[0,2,4,88]),(10,[6]),(11,[0,2,90,91,92]),(12,[0,2,90,91,92,93]),(13,[0,2,8,90,91,92]),(14,[0,2,90,91,92,101]),(15,[6]),(16,[0,2,90,91,92]),(17,[6])] }
def F62:FA:= { n:=10,sh:=[vs,vj,vb,vs,vb,vb,vs,vb,vb,vb],obs:=[],tk:=[5,6],keep:=[(0,[0]),(1,[2])] }
def F63:FA:= { n:=22,sh:=[y1,vs,y14,vj,vi,vi,vi,y14,vl,vi,vb,vi,vi,y14,vl,vi,y8,y26,vs,vs,vb,vi],obs:=[(2,[.sl [], .sl []])],tk:=[11,21],keep:=[(0,[1,2]),(1,[1,2,5]),(2,[1,2,5,10]),(3,[1,2,5]),(4,[1,2,5,20]),(5,[4]),(6,[4])] }
def F64:FA:= { n:=172,sh:=[y1,y20,vi,y19,y17,vj,vb,y27,vb,vb,vi,y31,vl,vi,y45,y10,y42,vs,vb,vb,y35,vi,vb,vb,y42,vs,vb,vb,y35,vi,vi,vi,y31,vl,vi,vi,vb,vb,y27,vi,vb,vb,vb,vb,y25,vi,vb,vb,vb,vb,y42,vs,vb,vb,y25,vi,vb,vb,vb,y35,vi,vb,vb,vb,vb,vb,vb,y25,vi,y43,vi,vi,vb,vb,vb,vb,vb,vb,vb,y25,vi,vb,vb,vb,vb,vb,vb,y25,vi,vb,vb,vb,vb,y42,vs,vb,vb,y25,vi,vb,vb,vb,y35,vi,vb,vb,vb,vb,y1,y42,vs,vi,vi,vb,vb,y19,vl,vi,y8,y6,vi,y25,vi,vb,vb,vb,y35,vi,vb,vb,vb,vb,vb,vb,y25,vi,y41,vl,vi,vi,vb,vb,vb,y41,vl,y25,vi,y30,y3,y43,vi,vb,vb,vb,vb,vb,vb,y25,vi,vb,vb,vb,vb,y25,vi,vb,vb,vb,y27,vi,vb,vb],obs:=[(3,[.sl [], .sl []]),(4,tl2),(7,tl3)],tk:=[19,27,30,33,42,43,45,51,53,55,58,60,65,66,68,70,77,78,80,85,86,88,94,96,98,101,103,110,114,116,117,122,125,127,132,133,142,144,146,150,155,156,158,161,162,164,167,169],keep:=[(0,[2,3,4]),(1,[2,3,4,7]),(2,[2,3,4,7,8]),(3,[3,4,7,8,9]),(4,[3,4,7,8,9,39]),(5,[3,4,7,8,9,39,40]),(6,[6]),(7,[3,4,7,8,9,39,48]),(8,[6]),(9,[3,4,7,8,9,39,63]),(10,[6]),(11,[3,4,7,8,9,39,74]),(12,[3,4,7,8,9,39,74]),(13,[6]),(14,[3,4,7,8,9,39,83]),(15,[6]),(16,[3,4,7,8,9,39,91]),(17,[6]),(18,[3,4,7,8,9,39,106]),(19,[3,7,10]),(20,[6]),(21,[3,4,7,8,9,39,130]),(22,[6]),(23,[7,8,9,153]),(24,[6]),(25,[6])] }
def F65:FA:= { n:=116,sh:=[y20,y12,vl,vb,vl,vi,vi,y27,vi,vi,vi,vb,y48,vl,vi,vl,vi,vl,vi,vb,vi,vi,y32,vi,y60,vi,vl,vi,vb,vi,vi,y48,vl,vi,y45,y10,y55,y10,y55,vi,vi,vl,vi,y6,vi,vi,vi,vb,vb,vi,vb,vb,vb,y27,vi,vb,vb,vi,vb,vb,vb,vl,y27,vi,vi,vi,vl,vi,vb,vb,y32,vi,vi,vi,vi,vi,vi,vi,vb,vb,vb,vb,vb,vb,vb,y32,y35,vi,vi,vb,vb,vb,y32,y35,vi,vi,vb,vb,vi,vi,vl,vi,vb,vb,vb,y32,vi,vi,vi,vi,vb,vb,vb,vb,vl,vl],obs:=[(1,tl2),(7,tl3)],al:=[22,70,85,92,105],tk:=[20,29,36,48,52,56,61,63,69,73,74,76,87,88,94,97,104,108,112,114,115],keep:=[(0,[1]),(1,[1,4]),(2,[1,4,5]),(3,[1,4,5,19]),(4,[1,4,5]),(5,[1,4,5]),(6,[1,4,6]),(7,[1,4,6,28]),(8,[1,4,6]),(9,[1,4,6,7]),(10,[1,4,6,7,8,9]),(11,[1,4,6,7,8,9,10]),(12,[1,4,6,7,8,9,10,60]),(13,[2,3]),(14,[1,4,6,7,8,9,10,11]),(15,[1,4,6,7,8,9,10,11,63]),(16,[1,4,6,11]),(17,[1,4,6,7,8,9,10,11,63,80]),(18,[1,4,6,7,8,9,10,11,63,80]),(19,[1,4,6,7,8,9,10,63,83]),(20,[1,4,6,11]),(21,[1,4,6,7,8,9,10,90]),(22,[1,4,6,11]),(23,[1,4,6,113]),(24,[2,3]),(25,[2,3])],ioa:=[70,85,92,105] }
def F66:FA:= { n:=46,sh:=[y3,vi,vi,vi,y17,vj,vj,vj,vi,vi,vi,vb,vb,vi,vb,vb,vb,y3,vi,vb,vb,vb,vi,vi,vi,y31,vl,vi,vb,vb,vi,vb,vb,vi,vi,y31,vl,vi,y30,y3,vi,vi,vi,vi,vi,vi],obs:=[(4,tl1)],tk:=[12,16,22,29,33,43,45],keep:=[(0,[1,2,3,4]),(1,[1,2,3,4,21]),(2,[8]),(3,[1,2,3,4]),(4,[1,2,3,4,9]),(5,[1,2,3,4,9,32]),(6,[1,2,3,4,9]),(7,[1,2,3,4,9]),(8,[8])] }
def F67:FA:= { n:=35,sh:=[y3,y12,vl,vl,vi,vl,y12,vi,vb,vb,y24,vi,vb,vb,vl,y24,vi,vl,vl,vi,y48,vl,vi,vb,vi,vi,vl,y48,vl,vi,y30,y3,vl,vl,vl],obs:=[(1,tl1)],tk:=[7,9,14,16,24,26,34],dp:=[5,17,18,33],keep:=[(0,[1]),(1,[1,3]),(2,[1,3,13]),(3,[1,3]),(4,[1,3,4]),(5,[1,3,4,23]),(6,[1,3,4]),(7,[1,3,4]),(8,[2])] }
def F68:FA:= { n:=25,sh:=[vl,vl,vs,vj,vj,vj,vi,vi,vl,vi,vi,vi,vb,vi,vi,vl,vi,y26,vs,vs,vb,vl,vi,y6,vi],obs:=[],tk:=[13,21,22],keep:=[(0,[0,1,2]),(1,[0,1,2,7]),(2,[0,1,2,7,12]),(3,[0,1,2,7]),(4,[0,1,2,7,20]),(5,[6]),(6,[6])] }
def F69:FA:= { n:=118,sh:=[y0,y2,vl,vl,vj,y9,vj,vj,vl,vi, .one (.ptr 10 0), .one (.ptr 11 0),y18,vi,vi,vl,vi,y63,vl,vi,vb,vi,vi,vl,vl,vl,vl,vl,vl,y0,y63,vl,vi,y53,y38,y2,y3,y0,y0,y0,vl,vi,y0,y0,y0,y5,vl,vi,y10,y39,y0,y0,y5,vl,y3,vi,vl,vl, .one (.pp (.s 57 0 0) [] 0 0),y0,y5,y0,y63,vl,vi,y53,y38,y2,vl,vl,y39,vl,y0,y0,y0,vl,vi,vl,vl,y0,y10,y39,y0,y0,y0,y50,vi,y0,y0,y0,vl,vi,y49,y58,y0,y10,y39,vi,vl,vi,vb,vi,vi,y0,y0,y0,y50,vl,vi,y6,vi,y0,y0,y0,vl,vi,y49,y58],obs:=[(5,tl0),(10,[.sl []]),(11,[.sl []]),(12,tl1),(1000000,tl9)],al:=[85,106],tk:=[21,53,54,68,69,71,86,101],dp:=[15,23,25,26,28,56,77,78],fz:=[68,69],keep:=[(0,[0,2,3,5]),(1,[0,2,3,5,8]),(2,[0,2,3,5,8,9]),(3,[0,2,3,5,8,9,20]),(4,[0,2,3,5,8,9]),(5,[0,2,3,5,8,9,10]),(6,[0,2,3,5,8,9,10,11]),(7,[0,2,3,5,8,9,10,11,12]),(8,[0,2,3,5,8,9,10,11,12,13]),(9,[0,2,3,5,8,9,10,11,12,13]),(10,[0,2,3,5,8,9,10,11,13]),(11,[0,2,3,5,8,9,13]),(12,[0,2,3,5,8,9,13]),(13,[0,2,3,5,8,9,13]),(14,[0,2,3,5,8,9]),(15,[0,8]),(16,[0,8,14]),(17,[0,8,14,100]),(18,[0,8,14]),(19,[0,8,14])] }
def F70:FA:= { n:=184,sh:=[y0,vi,vl,vj,vj,vj,y21,vi,y51,vi, .one (.ptr 10 0),vi,vi, .one (.ptr 13 0),vi, .one (.ptr 15 0), .one (.ptr 16 0),y0,vi,vi,vb,y0,vi,vi,vb,vb,y0,vl,vi,y2,vb,vb,y0,vl,vs,y2,vb,vb,vb,vb,vl,vi,vb,vl,y0,vl,vi,vi,y26,vs,y2,y0,vi,y2,vb,vb,vb,y0,vl,vs,y0,vi,vi,vl,y2,y0,vi,vi,vl,y2,vl,y2,vb,vb,y0,vl,vi,y2,y0,vi,vi,vb,vi,vi,y47,vl,y0,vi,vi,vl,y2,vl,vl,y47,y2,vb,vb,y0,vi,vi,vl,y2,y0,vi,vi,vl,y2,vl,y2,vl,y2,vb,vb,y0,vl,vs,y2, .one (.ptr 10 2),vs,vb,vi,vi,vb,vi,vi, .one (.ptr 10 3),vl,y0,vi,vi,vl,y2,vl,vl, .one (.ptr 10 3),y2,y0,vi,vi,vl,y2,vl,y2,y0,vi,vi,vi,vb,vi,vi,vl,y0,y2,y54,vl,y2,y0,vi,vi,vl,vl,vl,vl,vl,y2, .one (.ag tl5),vl,vl,y54,y0,vb,y54,vl,y2,y0,vi,vi,vl,y2, .one (.ag tl5),vl,vl,y54,y2],obs:=[(6,tl0),(8,tl0),(10,tl0),(13,tl0),(15,[.sl []]),(16,tl0),(1000000,tl6)],tk:=[23,26,32,44,45,51,65,66,68,82,85,94,102,103,105,123,126,135,148,154,155,162,172,174,175,177,183],dp:=[27,33,58,70,75,91,92,107,109,114,132,133,141,150,159,161,163,166,167,180,181],fz:=[27,33,58,75,114,163],keep:=[(0,[0,1,2,6]),(1,[0,1,2,6,7]),(2,[0,1,2,6,7,20]),(3,[0,1,2,6,7]),(4,[0,1,2,6,23]),(5,[0,1,2,6,23,24]),(6,[6]),(7,[0,1,2,6,23,30]),(8,[6]),(9,[0,1,2,6,23,36]),(10,[0,1,2,6,23,36]),(11,[0,1,2,6,23,36]),(12,[0,2,6,42]),(13,[6]),(14,[6]),(15,[0,1,2,6,23,54]),(16,[0,1,2,6,23,54]),(17,[6]),(18,[0,1,2,6,23,72]),(19,[0,1,2,6,8]),(20,[0,1,2,6,8,9]),(21,[0,1,2,6,8,9,81]),(22,[0,1,2,6,8,9]),(23,[0,1,2,6,8,9]),(24,[6]),(25,[0,1,2,6,23,95]),(26,[6]),(27,[0,1,2,6,111]),(28,[0,1,2,6,10]),(29,[0,1,2,6,10,11]),(30,[0,1,2,6,10,11,119]),(31,[0,1,2,6,10,11]),(32,[0,1,2,6,10,11,12]),(33,[0,1,2,6,10,11,12,122]),(34,[0,1,2,6,10,11,12]),(35,[0,1,2,6,10,11,12]),(36,[6]),(37,[0,1,2,6,13]),(38,[0,1,2,6,13,14]),(39,[0,1,2,6,13,14,147]),(40,[0,1,2,6,13,14]),(41,[0,1,2,6,13,14,15]),(42,[0,1,2,6,13,14,15,16]),(43,[0,1,2,6,13,14]),(44,[0,1,2,6,13,170]),(45,[6,13]),(46,[6])] }
def F71:FA:= { n:=6,sh:=[y2,y12,vb,y2,vi,vb],obs:=[(1,tl0)],tk:=[3],keep:=[(0,[1]),(1,[2])] }
def F72:FA:= { n:=5,sh:=[vi,vj,y14,vi,y2],obs:=[(2,tl0)],tk:=[3],keep:=[(0,[0,2]),(1,[2])] }
def F73:FA:= { n:=9,sh:=[vy,vj,vb,vy,vb,vb,vy,vb,vb],obs:=[],tk:=[5,6],keep:=[(0,[0]),(1,[2])] }
def F74:FA:= { n:=9,sh:=[vy,vj,vb,vy,vb,vb,vy,vb,vb],obs:=[],tk:=[5,6],keep:=[(0,[0]),(1,[2])] }
def F75:FA:= { n:=17,sh:=[y10,y12,vi,y12,vi,vb,vb,vb,vb,vb,y24,vi,vb,vb,vb,vb,vb],obs:=[(1,tl3)],tk:=[4,11],keep:=[(0,[1]),(1,[1,4]),(2,[1,4,5]),(3,[1,4,5]),(4,[1,4,5]),(5,[1,4,5]),(6,[2]),(7,[4,12]),(8,[2]),(9,[4,14]),(10,[14]),(11,[2]),(12,[2])] }
def F76:FA:= { n:=9,sh:=[vl,vi,vj,vj,vb,vl,vi,vi,vb],obs:=[],tk:=[5,6],keep:=[(0,[0,1]),(1,[4])] }
def F77:FA:= { n:=107,sh:=[vi,vi,vs,vi,vj,vj,vj,vj,vb,vi,vb,vb,vi,vb,vb,vs,vb,vb,vb,vi,vb,vb,vb,vb,vi,vb,vb,vs,vb,vb,vb,vi,vb,vb,vb,vb,vi,vb,vb,vs,vb,vb,vb,vi,vb,vb,vb,vb,vb,vi,vb,vb,vs,vb,vb,vb,vi,vb,vb,vb,vb,vi,vb,vb,vs,vb,vb,vb,vi,vb,vb,vb,vb,vi,vb,vb,vs,vb,vb,vb,vi,vb,vb,vb,vb,vi,vb,vb,vs,vb,vb,vb,vi,vb,vb,vb,vb,vi,vb,vb,vs,vb,vb,vb,vi,vb,vb],obs:=[],tk:=[9,12,14,15,18,19,24,26,27,30,31,36,38,39,42,43,49,51,52,55,56,61,63,64,67,68,73,75,76,79,80,85,87,88,91,92,97,99,100,103,104],keep:=[(0,[0,1,2,3]),(1,[1,2,3,9]),(2,[1,2,3,9,10]),(3,[8]),(4,[1,2,3,9,22]),(5,[8]),(6,[1,2,3,9,34]),(7,[8]),(8,[1,2,3,9,46]),(9,[1,2,3,9,46]),(10,[8]),(11,[1,2,3,9,59]),(12,[8]),(13,[1,2,3,9,71]),(14,[8]),(15,[1,2,3,9,83]),(16,[8]),(17,[1,2,3,95]),(18,[8]),(19,[8])] }
def F78:FA:= { n:=36,sh:=[vs,vj,vb,vi,vi,vb,vi,vs,vi,vb,vi,vi,vs,vi,vy,vi,vi,vb,vb,vb,vb,vi,vb,vb,vi,vb,vb,vb,vi,vb,vb,vb,vb,vs,vi,vb],obs:=[],tk:=[10,18,20,23,27,28,33],keep:=[(0,[0]),(1,[0,3]),(2,[0,3,9]),(3,[0,3]),(4,[0,3,4]),(5,[0,3,4,5]),(6,[0,3,32]),(7,[2]),(8,[2])] }
def F79:FA:= { n:=13,sh:=[vs,vj,vb,vs,vb,vb,vs,vb,vb,vb,vs,vb,vb],obs:=[],tk:=[5,9,10],keep:=[(0,[0]),(1,[2])] }
def F80:FA:= { n:=21,sh:=[vs,vj,vb,vs,vb,vb,vs,vb,vb,vb,vs,vb,vb,vb,vs,vb,vb,vb,vs,vb,vb],obs:=[],tk:=[5,9,13,17,18],keep:=[(0,[0]),(1,[2])] }
def F81:FA:= { n:=22,sh:=[y10,y12,vi,vi,y12,vi,vb,vb,vb,vb,vb,vb,vb,vb,vb,y24,vi,vb,vb,vb,vb,vb],obs:=[(1,tl3)],tk:=[5,16],keep:=[(0,[1]),(1,[1,5]),(2,[1,5,6]),(3,[1,5,6]),(4,[1,5,6]),(5,[2,3]),(6,[1,5,10]),(7,[1,5,10]),(8,[1,5,10]),(9,[1,5,10]),(10,[2,3]),(11,[5,17]),(12,[2,3]),(13,[5,19]),(14,[19]),(15,[2,3]),(16,[2,3])] }
def F82:FA:= { n:=22,sh:=[vl,vi,vi,vj,vj,vj,vb,vl,vi,y6,vi,vb, .one (.al (.s 0 0 0) []),vi,vi, .one (.pp (.s 0 0 0) [] 0 0),vl,vi,y6,vi,vi,vb],obs:=[],al:=[12],tk:=[17,20],keep:=[(0,[0,1,2]),(1,[0,1,2,11]),(2,[0,1,2]),(3,[0,6])],io:=some 0 }
def F83:FA:= { n:=84,sh:=[y3,vi,y14,vj,vb,vi, .one (.ptr 2 3),vl,vi,y14,vi,vb,vb,y44,vi,vb,vb,y23,vs,vb,vb,vb,vi,vb,vb,vb,vb,y23,vs,vb,vb,y44,vi,vb,vb,vb,vi,vb,vb,vb,vb,y23,vs,vb,vb,vi,vb,vb,vb,y44,vi,vi,vi,vb,vb,vb,vb,vb,y23,vs,vb,vb,y44,vi,vb,vb,vb,vi,vb,vb,vb,vb,y23,vs,vb,vb,y44,vi,vb,vb,vb,vi,vb,vb],obs:=[(2,tl1)],tk:=[7,10,14,16,18,21,22,28,30,32,35,36,42,44,45,48,50,51,59,61,63,66,67,73,75,77,80,81],keep:=[(0,[1,2]),(1,[1,2,5]),(2,[1,2,5,10]),(3,[1,2,5,10,11]),(4,[4]),(5,[1,2,5,10,25]),(6,[4]),(7,[1,2,5,10,39]),(8,[4]),(9,[2,5,10,55]),(10,[2,5,10,55]),(11,[4]),(12,[2,5,70]),(13,[4]),(14,[4])] }
def F84:FA:= { n:=78,sh:=[y0,y2,y15,y37,vj,y9,vj,vj,y51, .one (.ptr 9 0),vi,y9,vi,y11,vi,y16,vs,y3,y9,vi,vb, .one (.ptr 9 2),y62,y16,vs,vb,y0,y0,y4,vi,y62,y0,y0,y4,vi,vi,y0,y4,y15,y15,y15,vl,y16,vs,vl,vl,y15,y37,y37,y37,vl,y62,vi,vl,vl,y37,vi,y13,vl,vi,vb,vi,vi, .one (.ptr 9 3),vl,y0,y13,vl,vi,y38,y2,y15,y37,y3,vl,vl, .one (.ptr 9 3),y3],obs:=[(5,tl0),(8,tl1),(9,tl1),(1000000,tl9),(1000001,[.sl []]),(1000002,[.sl []])],tk:=[14,19,34,41,43,50,61,64,77],dp:=[44,53,74,75],keep:=[(0,[0,2,3,5,8]),(1,[0,2,3,5,8,9]),(2,[0,2,3,5,8,9,20]),(3,[0,2,3,5,8,9]),(4,[0,2,3,5,8,9]),(5,[0,2,3,5,8,9,25]),(6,[0,2,3,5,8,9]),(7,[0,2,3,5,8,9]),(8,[0,2,3,5,8,9]),(9,[0,2,3,5,8,9]),(10,[0,2,3,5,8,9,10]),(11,[0,2,3,5,8,9,10,60]),(12,[0,2,3,5,8,9,10]),(13,[0,2,3,5,8,9,10]),(14,[8])] }
def F85:FA:= { n:=5,sh:=[vs,vj,y14,vs,y2],obs:=[(2,tl0)],tk:=[3],keep:=[(0,[0,2]),(1,[2])] }
def F86:FA:= { n:=12,sh:=[y0,vl,vj,vj,vs,vl,y0,vl,vi,vi,y26,vs],obs:=[(1000000,tl6)],tk:=[6,7],keep:=[(0,[0,1]),(1,[4])] }
def F87:FA:= { n:=83,sh:=[y0,vi,y15,vj,vj,vj,y21,vs,y51,vi,vi,y0,vi,vb,vb,y0,vi,y2,vb,vb,y0,vl,vs,y2,vb,vb,y2,vb,vb,vb,vb,y0,vl,vs,y15,y15,vl,vs,vb,y2,y15,y15,y15,vl,vs,vl,vl,y15,vs,y2,y0,vl,vi,y2,y0,vi,y51,vi,vb,vi,vi,vb,vi,vi,vi,vb,y47,vl,y0,vi,vi,y15,y2,vl,vl,y47,y47,vl,y2,vl,vl,y47,y2],obs:=[(6,tl0),(8,tl0),(1000000,tl6),(1000001,[.sl []])],tk:=[15,20,31,41,43,48,62,67,77,82],dp:=[21,32,45,51,73,74,79,80],fz:=[21,32,51],keep:=[(0,[0,1,2,6]),(1,[0,1,2,6,12]),(2,[0,1,2,6,12,13]),(3,[6]),(4,[0,1,2,6,12,18]),(5,[6]),(6,[0,1,2,6,12,24]),(7,[6]),(8,[0,1,2,6,12,27]),(9,[0,1,2,6,12,27]),(10,[0,1,2,6,27]),(11,[2,6,7]),(12,[2,6,7,38]),(13,[6]),(14,[6,7]),(15,[6]),(16,[0,1,2,6,8]),(17,[0,1,2,6,8,9]),(18,[0,1,2,6,8,9,58]),(19,[0,1,2,6,8,9]),(20,[0,1,2,6,8,9,10]),(21,[0,1,2,6,8,9,10,61]),(22,[0,1,2,6,8,9,10]),(23,[0,1,2,6,8,9,10,65]),(24,[0,1,2,6,8,9,10]),(25,[0,1,2,6,8,9,10]),(26,[6])] }
def F88:FA:= { n:=9,sh:=[y0,vi,vj,vj,vb,y0,vi,vi,vb],obs:=[(1000000,tl6)],tk:=[5,6],keep:=[(0,[0,1]),(1,[4])] }
def F89:FA:= { n:=89,sh:=[y2,vb,vi,vi,y17,vj,vj,vj,vi,vi,vi,vi,vb,vb,vi,vb,vb,vb,y2,vb,vb,vb,vb,vi,vi,vi,y31,vl,vi,vb,vb,vi,vb,vb,vi,vi,y31,vl,vi,y38,y2,vb,vi,vi,vi,vi,vi,y56,vl,vi,vb,vb,vi,vb,vb,vi,vi,y56,vl,vi,y53,y38,y2,vl,vb,vb,y56,vl,vi,y53,y38,y2,vi,vi,vi,vi,vi,vb,y56,vl,vi,y53,y38,y2,vi,vi,vi,vi,vi],obs:=[(4,tl0)],tk:=[13,17,23,30,34,44,51,55,74,86,88],keep:=[(0,[1,2,3,4]),(1,[1,2,3,4,22]),(2,[8]),(3,[1,2,3,4]),(4,[1,2,3,4,9]),(5,[1,2,3,4,9,33]),(6,[1,2,3,4,9]),(7,[1,2,3,4,9]),(8,[2,3,4,10]),(9,[2,3,4,10,54]),(10,[2,3,4,10]),(11,[2,3,4,10,65]),(12,[8]),(13,[2,3,4,10]),(14,[2,3,4,10,77]),(15,[2,3,4,10]),(16,[8])] }
def F90:FA:= { n:=19,sh:=[vl,vi,vj,vj,vi,vi,vl,vi,vi,vb,vi,vi,vl,vi,y6,vi,vb,vi,vi],obs:=[],tk:=[8,17],keep:=[(0,[0,1]),(1,[0,1,7,8]),(2,[0,1,7,8,9]),(3,[0,1,5,7,8]),(4,[0,1,5,7,8,16]),(5,[4]),(6,[0,1,7,8]),(7,[4])] }
def F91:FA:= { n:=23,sh:=[vs,vj,vb,vi,vi,vs,vi,vb,vi,vi,vs,vi,vy,vb,vb,vs,vi,vb,vb,vs,vy,vb,vb],obs:=[],tk:=[8,18,19],keep:=[(0,[0]),(1,[0,3]),(2,[0,3,7]),(3,[0,3]),(4,[0,3,14]),(5,[2]),(6,[2])] }
def F92:FA:= { n:=18,sh:=[vl,vs,vj,vj,vb,vi,vi,vl,vi,vb,vi,vi,vl,vi,y26,vs,vs,vb],obs:=[],tk:=[10],keep:=[(0,[0,1]),(1,[0,1,5]),(2,[0,1,5,9]),(3,[0,1,5]),(4,[0,1,5,17]),(5,[4]),(6,[4])] }
def F93:FA:= { n:=134,sh:=[y2,vb,y14,vj,vb,vi, .one (.ptr 2 3),vl,vi,y14,vi,vb,vb, .one (.ptr 2 4),vl,vi,vb,vb,vb,y14,vi,vb,vb,y44,vi,vb,vb,vb,y14,vi,vb,vb,y44,vi,vb,vb,y23,vs,vb,vb,vb,vi,vb,vb,vb,vb,y23,vs,vb,vb,vi,vb,vb,vb,vb,y23,vs,vb,vb,vi,vb,vb,vb,vb,vb,y23,vs,vb,vb,vb,vb,vb,vb,y23,vs,vb,vb,vi,vb,vb,vb,vb,y23,vs,vb,vb,vi,vb,vb,vb,vb,vb,vb,vb,y23,vs,vb,vb,vb,vi,vb,vb,vb,vb,vb,vb,vb,y23,vs,vb,vb,vb,vi,vb,vb,vb,vb,vb,vb,vb,y23,vs,vb,vb,vb,vi,vb,vb,vb, .one (.ptr 2 4),vl,vi,vb,vb],obs:=[(2,tl0)],tk:=[7,12,18,22,29,33,35,37,40,41,47,49,50,58,59,62,63,64,66,74,76,77,83,85,86,91,93,95,98,99,104,106,108,111,112,117,119,121,124,125,128,130],keep:=[(0,[1,2]),(1,[1,2,5]),(2,[1,2,5,27]),(3,[4]),(4,[1,2,5,29]),(5,[1,2,5,29,30]),(6,[4]),(7,[1,2,5,29,44]),(8,[4]),(9,[1,2,5,29,53]),(10,[4]),(11,[1,2,5,29,70]),(12,[1,2,5,29,70]),(13,[4]),(14,[1,2,5,29,80]),(15,[4]),(16,[1,2,5,29,89]),(17,[4]),(18,[1,2,5,29,102]),(19,[4]),(20,[1,2,5,115]),(21,[4]),(22,[4])] }
def F94:FA:= { n:=18,sh:=[vl,vj,vb,vi,vi,vl,vi,vb,vi,vi,vl,vi,vl,vl,vi,y26,vs,vb],obs:=[],tk:=[8],keep:=[(0,[0]),(1,[0,3]),(2,[0,3,7]),(3,[0,3]),(4,[0,3,17]),(5,[2]),(6,[2])] }
def F95:FA:= { n:=34,sh:=[y2,y12,vl,vl,vi,vl,y12,vi,vb, .one (.ptr 1 2),vs,vb,vl, .one (.ptr 1 2),vs,vl,vl,vl,vi,y48,vl,vi,vb,vi,vi,vl,y48,vl,vi,y38,y2,vl,vl,vl],obs:=[(1,tl0)],tk:=[7,12,14,17,23,25,33],dp:=[5,15,16,32],keep:=[(0,[1]),(1,[1,3]),(2,[1,3,8]),(3,[1,3,11]),(4,[3]),(5,[2]),(6,[1,3,4]),(7,[1,3,4,22]),(8,[1,3,4]),(9,[1,3,4]),(10,[2])] }
def F96:FA:= { n:=13,sh:=[vy,vj,vb,vy,vb,vb,vy,vb,vb,vb,vy,vb,vb],obs:=[],tk:=[5,9,10],keep:=[(0,[0]),(1,[2])] }
def F97:FA:= { n:=13,sh:=[vy,vj,vb,vy,vb,vb,vy,vb,vb,vb,vy,vb,vb],obs:=[],tk:=[5,9,10],keep:=[(0,[0]),(1,[2])] }
def F98:FA:= { n:=36,sh:=[vs,vj,vb,vi,vi,vs,vi,vb,vi,vi,vs,vi,vy,vb,vb,vb,vi,vb,vb,vs,vi,vy,vb,vb,vb,vs,vi,vy,vb,vb,vb,vb,vb,vs,vi,vb],obs:=[],tk:=[8,15,18,24,33],keep:=[(0,[0]),(1,[0,3]),(2,[0,3,7]),(3,[0,3]),(4,[0,3,32]),(5,[2]),(6,[2])] }
def F99:FA:= { n:=10,sh:=[vy,vj,vb,vy,vi,vb,vb,vy,vb,vb],obs:=[],tk:=[6,7],keep:=[(0,[0]),(1,[2])] }
def F100:FA:= { n:=6,sh:=[vy,vj,vb,vy,vi,vb],obs:=[],tk:=[3],keep:=[(0,[0]),(1,[2])] }
def F101:FA:= { n:=6,sh:=[vy,vj,vb,vy,vi,vb],obs:=[],tk:=[3],keep:=[(0,[0]),(1,[2])] }
def An:FuncId→FA
  | 3=>F3
  | 4=>F4
  | 5=>F5
  | 6=>F6
  | 7=>F7
  | 8=>F8
  | 9=>F9
  | 10=>F10
  | 11=>F11
  | 12=>F12
  | 13=>F13
  | 14=>F14
  | 15=>F15
  | 16=>F16
  | 17=>F17
  | 18=>F18
  | 19=>F19
  | 20=>F20
  | 21=>F21
  | 22=>F22
  | 23=>F23
  | 24=>F24
  | 25=>F25
  | 26=>F26
  | 27=>F27
  | 28=>F28
  | 29=>F29
  | 30=>F30
  | 31=>F31
  | 32=>F32
  | 33=>F33
  | 34=>F34
  | 35=>F35
  | 36=>F36
  | 37=>F37
  | 38=>F38
  | 39=>F39
  | 40=>F40
  | 41=>F41
  | 42=>F42
  | 43=>F43
  | 44=>F44
  | 45=>F45
  | 46=>F46
  | 47=>F47
  | 48=>F48
  | 49=>F49
  | 50=>F50
  | 51=>F51
  | 52=>F52
  | 53=>F53
  | 54=>F54
  | 55=>F55
  | 56=>F56
  | 57=>F57
  | 58=>F58
  | 59=>F59
  | 60=>F60
  | 61=>F61
  | 62=>F62
  | 63=>F63
  | 64=>F64
  | 65=>F65
  | 66=>F66
  | 67=>F67
  | 68=>F68
  | 69=>F69
  | 70=>F70
  | 71=>F71
  | 72=>F72
  | 73=>F73
  | 74=>F74
  | 75=>F75
  | 76=>F76
  | 77=>F77
  | 78=>F78
  | 79=>F79
  | 80=>F80
  | 81=>F81
  | 82=>F82
  | 83=>F83
  | 84=>F84
  | 85=>F85
  | 86=>F86
  | 87=>F87
  | 88=>F88
  | 89=>F89
  | 90=>F90
  | 91=>F91
  | 92=>F92
  | 93=>F93
  | 94=>F94
  | 95=>F95
  | 96=>F96
  | 97=>F97
  | 98=>F98
  | 99=>F99
  | 100=>F100
  | 101=>F101
  | _=> { n:=0,sh:=[],obs:=[] }
abbrev sg3:Sg:= { bi:=x6,bo:=x0,np:=1,ext:=false }
abbrev sg4:Sg:= { bi:=x6,bo:=x0,np:=1,ext:=false }
abbrev sg5:Sg:= { bi:=x6,bo:=x4,np:=1,ext:=false }
abbrev sg6:Sg:= { bi:=x6,bo:=x22,np:=1,ext:=false }
abbrev sg7:Sg:= { bi:=x6,bo:=x22,np:=1,ext:=false }
abbrev sg8:Sg:= { bi:=x8,bo:=x0,np:=1,ext:=false }
abbrev sg9:Sg:= { bi:=x23,bo:=x0,np:=2,ext:=false }
abbrev sg10:Sg:= { bi:=x8,bo:=x4,np:=1,ext:=false }
abbrev sg11:Sg:= { bi:=x6,bo:=⟨[(0,[[.S]])],[(0,[.F, .S, .S])]⟩,np:=1 }
abbrev sg12:Sg:= { bi:=x8,bo:=x4,np:=1,ext:=false }
abbrev sg13:Sg:= { bi:=x1,bo:=⟨[(0,[[.A 4, .A 4]])],[(1000000,[.F, .S, .S])]⟩,np:=1,no:=1 }
abbrev sg14:Sg:= { bi:=x3,bo:=x1,np:=2,no:=1 }
abbrev sg15:Sg:= { bi:=x7,bo:=x1,np:=2,no:=1 }
abbrev sg16:Sg:= { bi:=x3,bo:=x1,np:=2,no:=1 }
abbrev sg17:Sg:= { bi:=x1,bo:=x5,np:=1,no:=1 }
abbrev sg18:Sg:= { bi:=x3,bo:=x5,np:=2,no:=1 }
abbrev sg19:Sg:= { bi:=x23,bo:=x0,np:=2,ext:=false }
abbrev sg20:Sg:= { bi:=x1,bo:=x1,np:=1,no:=1 }
abbrev sg21:Sg:= { bi:=x1,bo:=x5,np:=1,no:=1 }
abbrev sg22:Sg:= { bi:=x3,bo:=x5,np:=2,no:=1 }
abbrev sg23:Sg:= { bi:=⟨[(0,[[.S]]),(1,[[.S]])],[(1000000,[.F, .F])]⟩,bo:=x13,np:=2,no:=1 }
abbrev sg24:Sg:= { bi:=⟨[(0,[[.S]]),(1,[[.F]])],[(1000000,[.F, .F])]⟩,bo:=x13,np:=2,no:=1 }
abbrev sg25:Sg:= { bi:=x8,bo:=x0,np:=1,ext:=false }
abbrev sg26:Sg:= { bi:=x20,bo:=x4,np:=2 }
abbrev sg27:Sg:= { bi:=x20,bo:=x4,np:=2 }
abbrev sg28:Sg:= { bi:=⟨[(0,[[.U 1]]),(1,[[.S, .S, .S, .F]])],[]⟩,bo:=x4,np:=2 }
abbrev sg29:Sg:= { bi:=x8,bo:=x0,np:=1,ext:=false }
abbrev sg30:Sg:= { bi:=x8,bo:=x0,np:=1,ext:=false }
abbrev sg31:Sg:= { bi:=x2,bo:=x4,np:=2,ext:=false }
abbrev sg32:Sg:= { bi:=x2,bo:=x4,np:=2,ext:=false }
abbrev sg33:Sg:= { bi:=⟨[(0,[[.F]]),(1,[[.S, .S, .S, .F]])],[]⟩,bo:=x4,np:=2,ext:=false }
abbrev sg34:Sg:= { bi:=x6,bo:=⟨[(0,[[.A 4, .A 4]])],[]⟩,np:=1 }
abbrev sg35:Sg:= { bi:=x1,bo:=⟨[(0,[[.A 7]])],[(1000000,[.F, .S, .S])]⟩,np:=1,no:=1 }
abbrev sg36:Sg:= { bi:=x1,bo:=x1,np:=1,no:=1 }
abbrev sg37:Sg:= { bi:=x1,bo:=x1,np:=1,no:=1 }
abbrev sg38:Sg:= { bi:=x15,bo:=x0,np:=3,ext:=false }
abbrev sg39:Sg:= { bi:=x1,bo:=x1,np:=1,no:=1 }
abbrev sg40:Sg:= { bi:=x2,bo:=x10,np:=2,ext:=false }
abbrev sg41:Sg:= { bi:=x1,bo:=x1,np:=1,no:=1 }
abbrev sg42:Sg:= { bi:=x15,bo:=x0,np:=3,ext:=false }
abbrev sg43:Sg:= { bi:=⟨[(0,[[.F]]),(1,[[.S]])],[(1000000,[.S])]⟩,bo:=x21,np:=2,ext:=false,no:=1 }
abbrev sg44:Sg:= { bi:=⟨[(0,[[.S, .S, .S, .F]]),(1,[[.S]])],[(1000000,[.S])]⟩,bo:=x21,np:=2,ext:=false,no:=1 }
abbrev sg45:Sg:= { bi:=x0,bo:=x0,np:=1,ext:=false }
abbrev sg46:Sg:= { bi:=⟨[(0,[[.S]]),(1,[[.F]]),(2,[[.S, .S, .S, .S]])],[(1000000,[.F, .F])]⟩,bo:=x13,np:=3,no:=1 }
abbrev sg47:Sg:= { bi:=x6,bo:=⟨[(0,[[.U 1],[.S]])],[]⟩,np:=1,ext:=false }
abbrev sg48:Sg:= { bi:=x11,bo:=x0,np:=2,ext:=false }
abbrev sg49:Sg:= { bi:=x17,bo:=x0,np:=2,ext:=false }
abbrev sg50:Sg:= { bi:=x11,bo:=x0,np:=2,ext:=false }
abbrev sg51:Sg:= { bi:=x9,bo:=x12,np:=4,no:=1 }
abbrev sg52:Sg:= { bi:=⟨[(0,[[.S]]),(1,[[.S, .S, .S, .S]])],[(1000000,[.A 4, .A 4, .S])]⟩,bo:=x12,np:=2,no:=1 }
abbrev sg53:Sg:= { bi:=x7,bo:=x14,np:=2,no:=1 }
abbrev sg54:Sg:= { bi:=x2,bo:=x10,np:=2,ext:=false }
abbrev sg55:Sg:= { bi:=x2,bo:=x10,np:=2,ext:=false }
abbrev sg56:Sg:= { bi:=x2,bo:=x10,np:=2,ext:=false }
abbrev sg57:Sg:= { bi:=x0,bo:=x0,np:=1,ext:=false }
abbrev sg58:Sg:= { bi:=x0,bo:=x0,np:=1,ext:=false }
abbrev sg59:Sg:= { bi:=⟨[(0,[[.S]]),(1,[[.S]]),(2,[[.S]])],[(1000000,[.U 1, .S])]⟩,bo:=x16,np:=3,no:=1 }
abbrev sg60:Sg:= { bi:=⟨[(0,[[.S]]),(1,[[.S]]),(2,[[.S, .S, .S, .S]])],[(1000000,[.U 1, .S])]⟩,bo:=x16,np:=3,no:=1 }
abbrev sg61:Sg:= { bi:=⟨[(0,[[.S]]),(1,[[.S, .S, .S, .F]]),(2,[[.S]])],[(1000000,[.S, .S, .A 1])]⟩,bo:=⟨[(0,[[.S]])],[(1000000,[.S, .S, .A 1])]⟩,np:=3,no:=1 }
abbrev sg62:Sg:= { bi:=x0,bo:=x0,np:=1,ext:=false }
abbrev sg63:Sg:= { bi:=x17,bo:=x0,np:=2,ext:=false }
abbrev sg64:Sg:= { bi:=⟨[(0,[[.F, .F]]),(1,[[.S, .S, .S, .F]]),(2,[[.S]])],[]⟩,bo:=x0,np:=3,ext:=false }
abbrev sg65:Sg:= { bi:=x25,bo:=⟨[(0,[[.U 0],[.S]])],[]⟩,np:=1,ext:=false }
abbrev sg66:Sg:= { bi:=⟨[(0,[[.S, .S, .S, .F]]),(1,[[.S]]),(2,[[.S]]),(3,[[.S]])],[]⟩,bo:=x0,np:=4,ext:=false }
abbrev sg67:Sg:= { bi:=x25,bo:=x4,np:=1,ext:=false }
abbrev sg68:Sg:= { bi:=⟨[(0,[[.F]]),(1,[[.F]]),(2,[[.S]])],[]⟩,bo:=x0,np:=3,ext:=false }
abbrev sg69:Sg:= { bi:=x9,bo:=x12,np:=4,no:=1 }
abbrev sg70:Sg:= { bi:=⟨[(0,[[.S]]),(1,[[.S]]),(2,[[.F]])],[(1000000,[.F, .S, .S])]⟩,bo:=x14,np:=3,no:=1 }
abbrev sg71:Sg:= { bi:=x19,bo:=x0,np:=1,ext:=false }
abbrev sg72:Sg:= { bi:=x0,bo:=x18,np:=1,ext:=false }
abbrev sg73:Sg:= { bi:=x0,bo:=x0,np:=1,ext:=false }
abbrev sg74:Sg:= { bi:=x0,bo:=x0,np:=1,ext:=false }
abbrev sg75:Sg:= { bi:=x24,bo:=x0,np:=1,ext:=false }
abbrev sg76:Sg:= { bi:=x2,bo:=x0,np:=2,ext:=false }
abbrev sg77:Sg:= { bi:=⟨[(0,[[.S]]),(1,[[.S]]),(2,[[.S]]),(3,[[.S]])],[]⟩,bo:=x0,np:=4,ext:=false }
abbrev sg78:Sg:= { bi:=x0,bo:=x0,np:=1,ext:=false }
abbrev sg79:Sg:= { bi:=x0,bo:=x0,np:=1,ext:=false }
abbrev sg80:Sg:= { bi:=x0,bo:=x0,np:=1,ext:=false }
abbrev sg81:Sg:= { bi:=x24,bo:=⟨[(0,[[.S],[.S]])],[]⟩,np:=1,ext:=false }
abbrev sg82:Sg:= { bi:=⟨[(0,[[.U 0]]),(1,[[.S]]),(2,[[.S]])],[]⟩,bo:=⟨[(0,[[.S]]),(1,[[.U 0]])],[]⟩,np:=3,io:=some 0 }
abbrev sg83:Sg:= { bi:=x11,bo:=x0,np:=2,ext:=false }
abbrev sg84:Sg:= { bi:=⟨[(0,[[.S]]),(1,[[.S, .S, .S, .F, .F]]),(2,[[.S]]),(3,[[.S]])],[(1000000,[.A 4, .A 4, .S]),(1000001,[.A 1]),(1000002,[.A 1])]⟩,bo:=⟨[(0,[[.S, .S, .S, .U 4]])],[(1000000,[.A 4, .A 4, .S]),(1000001,[.A 1]),(1000002,[.A 1])]⟩,np:=4,no:=3 }
abbrev sg85:Sg:= { bi:=x0,bo:=x18,np:=1,ext:=false }
abbrev sg86:Sg:= { bi:=x7,bo:=x1,np:=2,no:=1 }
abbrev sg87:Sg:= { bi:=⟨[(0,[[.S]]),(1,[[.S]]),(2,[[.S]])],[(1000000,[.F, .S, .S]),(1000001,[.A 1])]⟩,bo:=⟨[(0,[[.S, .S, .S, .U 5, .N]])],[(1000000,[.F, .S, .S]),(1000001,[.A 1])]⟩,np:=3,no:=2 }
abbrev sg88:Sg:= { bi:=x3,bo:=x1,np:=2,no:=1 }
abbrev sg89:Sg:= { bi:=⟨[(0,[[.S, .S, .S, .F, .F]]),(1,[[.S]]),(2,[[.S]]),(3,[[.S]])],[]⟩,bo:=x0,np:=4,ext:=false }
abbrev sg90:Sg:= { bi:=x2,bo:=x0,np:=2,ext:=false }
abbrev sg91:Sg:= { bi:=x0,bo:=x0,np:=1,ext:=false }
abbrev sg92:Sg:= { bi:=x2,bo:=x0,np:=2,ext:=false }
abbrev sg93:Sg:= { bi:=⟨[(0,[[.S, .S, .S, .F, .F]]),(1,[[.S]])],[]⟩,bo:=x0,np:=2,ext:=false }
abbrev sg94:Sg:= { bi:=x6,bo:=x0,np:=1,ext:=false }
abbrev sg95:Sg:= { bi:=x19,bo:=x4,np:=1,ext:=false }
abbrev sg96:Sg:= { bi:=x0,bo:=x0,np:=1,ext:=false }
abbrev sg97:Sg:= { bi:=x0,bo:=x0,np:=1,ext:=false }
abbrev sg98:Sg:= { bi:=x0,bo:=x0,np:=1,ext:=false }
abbrev sg99:Sg:= { bi:=x0,bo:=x0,np:=1,ext:=false }
abbrev WE:Sg:= { bi:=x0,bo:=x0,np:=1,ext:=false }
abbrev WD:Sg:= { bi:=x0,bo:=x0,np:=1,ext:=false }
def Sgs:FuncId→List Sg
  | 3=> [sg3]
  | 4=> [sg4]
  | 5=> [sg5]
  | 6=> [sg6]
  | 7=> [sg7]
  | 8=> [sg8]
  | 9=> [sg9]
  | 10=> [sg10]
  | 11=> [sg11]
  | 12=> [sg12]
  | 13=> [sg13]
  | 14=> [sg14]
  | 15=> [sg15]
  | 16=> [sg16]
  | 17=> [sg17]
  | 18=> [sg18]
  | 19=> [sg19]
  | 20=> [sg20]
  | 21=> [sg21]
  | 22=> [sg22]
  | 23=> [sg23]
  | 24=> [sg24]
  | 25=> [sg25]
  | 26=> [sg26]
  | 27=> [sg27]
  | 28=> [sg28]
  | 29=> [sg29]
  | 30=> [sg30]
  | 31=> [sg31]
  | 32=> [sg32]
  | 33=> [sg33]
  | 34=> [sg34]
  | 35=> [sg35]
  | 36=> [sg36]
  | 37=> [sg37]
  | 38=> [sg38]
  | 39=> [sg39]
  | 40=> [sg40]
  | 41=> [sg41]
  | 42=> [sg42]
  | 43=> [sg43]
  | 44=> [sg44]
  | 45=> [sg45]
  | 46=> [sg46]
  | 47=> [sg47]
  | 48=> [sg48]
  | 49=> [sg49]
  | 50=> [sg50]
  | 51=> [sg51]
  | 52=> [sg52]
  | 53=> [sg53]
  | 54=> [sg54]
  | 55=> [sg55]
  | 56=> [sg56]
  | 57=> [sg57]
  | 58=> [sg58]
  | 59=> [sg59]
  | 60=> [sg60]
  | 61=> [sg61]
  | 62=> [sg62]
  | 63=> [sg63]
  | 64=> [sg64]
  | 65=> [sg65]
  | 66=> [sg66]
  | 67=> [sg67]
  | 68=> [sg68]
  | 69=> [sg69]
  | 70=> [sg70]
  | 71=> [sg71]
  | 72=> [sg72]
  | 73=> [sg73]
  | 74=> [sg74]
  | 75=> [sg75]
  | 76=> [sg76]
  | 77=> [sg77]
  | 78=> [sg78]
  | 79=> [sg79]
  | 80=> [sg80]
  | 81=> [sg81]
  | 82=> [sg82]
  | 83=> [sg83]
  | 84=> [sg84]
  | 85=> [sg85]
  | 86=> [sg86]
  | 87=> [sg87]
  | 88=> [sg88]
  | 89=> [sg89]
  | 90=> [sg90]
  | 91=> [sg91]
  | 92=> [sg92]
  | 93=> [sg93]
  | 94=> [sg94]
  | 95=> [sg95]
  | 96=> [sg96]
  | 97=> [sg97]
  | 98=> [sg98]
  | 99=> [sg99]
  | 100=> [WE]
  | 101=> [WD]
  | _=> []
end Go.Own
