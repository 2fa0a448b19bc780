/- What is told of the functions: shapes and kinds. No conditions. -/
import Derived.Test.YtloebajamceclaaDoorProg
import Derived.KernelRfl
import Derived.Test.YtloebajamceclaaDoorShelf
import Derived.Lib.AppendIntMem
import Derived.Test.YtloebajamceclaaDoorOwn4
set_option linter.unusedVariables false
set_option linter.unusedSimpArgs false
set_option linter.unnecessarySimpa false
namespace Go.Own
open Go Go.Proofs
def τ:TypeId→Option TI
  | 3=>some { size:=1,bytes:=8,zero:=[.int .i64 0],agg:=false,kind:= .int .i64 }
  | 4=>some { size:=1,bytes:=1,zero:=[.bool false],agg:=false,kind:= .bool }
  | 5=>some { size:=1,bytes:=1,zero:=[.int .u8 0],agg:=false,kind:= .int .u8 }
  | 9=>some { size:=1,bytes:=16,zero:=[.str []],agg:=false,kind:= .str }
  | 22=>some { size:=1,bytes:=24,zero:=[.sl []],agg:=false,kind:= .sl 25 }
  | 23=>some { size:=1,bytes:=24,zero:=[.sl []],agg:=false,kind:= .sl 87 }
  | 25=>some { size:=5,bytes:=80,zero:=[.int .i64 0, .int .i64 0, .str [], .sl [], .sl []],agg:=true,kind:= .struct [(0,1,false),(1,1,false),(2,1,false),(3,1,false),(4,1,false)] }
  | 28=>some { size:=1,bytes:=24,zero:=[.sl []],agg:=false,kind:= .sl 31 }
  | 29=>some { size:=1,bytes:=24,zero:=[.sl []],agg:=false,kind:= .sl 67 }
  | 31=>some { size:=5,bytes:=80,zero:=[.int .i64 0, .int .i64 0, .str [], .sl [], .sl []],agg:=true,kind:= .struct [(0,1,false),(1,1,false),(2,1,false),(3,1,false),(4,1,false)] }
  | 35=>some { size:=1,bytes:=24,zero:=[.sl []],agg:=false,kind:= .sl 5 }
  | 67=>some { size:=10,bytes:=160,zero:=[.int .i64 0, .int .i64 0, .str [], .sl [], .sl [], .int .i64 0, .int .i64 0, .str [], .sl [], .sl []],agg:=true,kind:= .struct [(0,5,true),(5,5,true)] }
  | 72=>some { size:=1,bytes:=24,zero:=[.sl []],agg:=false,kind:= .sl 9 }
  | 87=>some { size:=10,bytes:=160,zero:=[.int .i64 0, .int .i64 0, .str [], .sl [], .sl [], .int .i64 0, .int .i64 0, .str [], .sl [], .sl []],agg:=true,kind:= .struct [(0,5,true),(5,5,true)] }
  | 92=>some { size:=2,bytes:=32,zero:=[.int .i64 0, .sl []],agg:=true,kind:= .struct [(0,1,false),(1,1,false)] }
  | _=>none
set_option maxRecDepth 100000 in
theorem Ok:aQ Tryd.prog τ:=by
  intro t i h; unfold τ at h; split at h<;>(try cases h)
  · exact⟨_,_,_,rfl,rfl,rfl,rfl,rfl,rfl,rfl,by decide,rfl,rfl,nofun⟩
  · exact⟨_,_,_,rfl,rfl,rfl,rfl,rfl,rfl,rfl,by decide,rfl,rfl,nofun⟩
  · exact⟨_,_,_,rfl,rfl,rfl,rfl,rfl,rfl,rfl,by decide,rfl,rfl,nofun⟩
  · exact⟨_,_,_,rfl,rfl,rfl,rfl,rfl,rfl,rfl,by decide,rfl,rfl,nofun⟩
  · exact⟨_,_,_,rfl,rfl,rfl,rfl,rfl,rfl,rfl,by decide,rfl,rfl,nofun⟩
  · exact⟨_,_,_,rfl,rfl,rfl,rfl,rfl,rfl,rfl,by decide,rfl,rfl,nofun⟩
  · refine⟨_,_,_,rfl,rfl,rfl,rfl,rfl,rfl,rfl,by decide,rfl,⟨_,rfl,rfl,fun j f hf=> ?_⟩,nofun⟩
    match j with
    | 0=>simp at hf; subst hf; exact⟨_,_,rfl,rfl,rfl,rfl,by decide,rfl,rfl⟩
    | 1=>simp at hf; subst hf; exact⟨_,_,rfl,rfl,rfl,rfl,by decide,rfl,rfl⟩
    | 2=>simp at hf; subst hf; exact⟨_,_,rfl,rfl,rfl,rfl,by decide,rfl,rfl⟩
    | 3=>simp at hf; subst hf; exact⟨_,_,rfl,rfl,rfl,rfl,by decide,rfl,rfl⟩
    | 4=>simp at hf; subst hf; exact⟨_,_,rfl,rfl,rfl,rfl,by decide,rfl,rfl⟩
    | j+5=>simp at hf
  · exact⟨_,_,_,rfl,rfl,rfl,rfl,rfl,rfl,rfl,by decide,rfl,rfl,nofun⟩
  · exact⟨_,_,_,rfl,rfl,rfl,rfl,rfl,rfl,rfl,by decide,rfl,rfl,nofun⟩
  · refine⟨_,_,_,rfl,rfl,rfl,rfl,rfl,rfl,rfl,by decide,rfl,⟨_,rfl,rfl,fun j f hf=> ?_⟩,nofun⟩
    match j with
    | 0=>simp at hf; subst hf; exact⟨_,_,rfl,rfl,rfl,rfl,by decide,rfl,rfl⟩
    | 1=>simp at hf; subst hf; exact⟨_,_,rfl,rfl,rfl,rfl,by decide,rfl,rfl⟩
    | 2=>simp at hf; subst hf; exact⟨_,_,rfl,rfl,rfl,rfl,by decide,rfl,rfl⟩
    | 3=>simp at hf; subst hf; exact⟨_,_,rfl,rfl,rfl,rfl,by decide,rfl,rfl⟩
    | 4=>simp at hf; subst hf; exact⟨_,_,rfl,rfl,rfl,rfl,by decide,rfl,rfl⟩
    | j+5=>simp at hf
  · exact⟨_,_,_,rfl,rfl,rfl,rfl,rfl,rfl,rfl,by decide,rfl,rfl,nofun⟩
  · refine⟨_,_,_,rfl,rfl,rfl,rfl,rfl,rfl,rfl,by decide,rfl,⟨_,rfl,rfl,fun j f hf=> ?_⟩,nofun⟩
    match j with
    | 0=>simp at hf; subst hf; exact⟨_,_,rfl,rfl,rfl,rfl,by decide,rfl,rfl⟩
    | 1=>simp at hf; subst hf; exact⟨_,_,rfl,rfl,rfl,rfl,by decide,rfl,rfl⟩
    | j+2=>simp at hf
  · exact⟨_,_,_,rfl,rfl,rfl,rfl,rfl,rfl,rfl,by decide,rfl,rfl,nofun⟩
  · refine⟨_,_,_,rfl,rfl,rfl,rfl,rfl,rfl,rfl,by decide,rfl,⟨_,rfl,rfl,fun j f hf=> ?_⟩,nofun⟩
    match j with
    | 0=>simp at hf; subst hf; exact⟨_,_,rfl,rfl,rfl,rfl,by decide,rfl,rfl⟩
    | 1=>simp at hf; subst hf; exact⟨_,_,rfl,rfl,rfl,rfl,by decide,rfl,rfl⟩
    | j+2=>simp at hf
  · refine⟨_,_,_,rfl,rfl,rfl,rfl,rfl,rfl,rfl,by decide,rfl,⟨_,rfl,rfl,fun j f hf=> ?_⟩,nofun⟩
    match j with
    | 0=>simp at hf; subst hf; exact⟨_,_,rfl,rfl,rfl,rfl,by decide,rfl,rfl⟩
    | 1=>simp at hf; subst hf; exact⟨_,_,rfl,rfl,rfl,rfl,by decide,rfl,rfl⟩
    | j+2=>simp at hf
end Go.Own
namespace Go.Own
open Go Go.Proofs Go.RowKit
set_option maxRecDepth 100000 in
theorem PJ{xs:List (List UInt8)}{sep:List UInt8}(h0:xs.length≤140737488355328)(h1:(Lib.join xs sep).length≤140737488355328):TC Tryd.prog 44 (FX ([[[.F]],[[.S]]],[[.S]],false)) [.one (.c (.sl (xs.map fun s=> [.str s]))), .one (.c (.str sep))] [] (.one (.c (.str (Lib.join xs sep)))) none [] none:=by
  have e:(xs.map fun s=>(⟨s.toArray⟩:ByteArray)).map (·.data.toList)=xs:=by
    rw[NX]; exact(z43 fun s _=>by simp).trans (List.map_id' xs)
  refine PI Tryd.func44 rfl (by decide) (fun a k w=>Tryd.strings_Join_none a k ⟨sep.toArray⟩ w) (fun b o k w hc hb hk=> ?_)
  have h:=Tryd.strings_Join b o k (xs.map fun s=>⟨s.toArray⟩) ⟨sep.toArray⟩ w (fun j x hx=>by
    rw[z31]at hx
    obtain⟨s,hs,rfl⟩:=z27.1 hx; exact hc j s hs) hb (by rw[z59]; exact h0) (by rw[z59]; exact hk) (by rw[e]; exact h1)
  rw[e,z59]at h; exact h
end Go.Own
namespace Go.Own
open Go Go.Proofs Go.RowKit
set_option maxRecDepth 100000 in
theorem PK{n:Int}(h0: -9223372036854775808≤n)(h1:n≤9223372036854775807):TC Tryd.prog 52 (FX ([[[.S]]],[[.S]],false)) [.one (.c (.int .i64 n))] [] (.one (.c (.str (Lib.itoa n)))) none [] none:=by
  refine Oj Tryd.func52 rfl (by decide) (fun w hw=> ?_)
  obtain⟨ty,fz,hb⟩:=hw tabB _ (z17 rfl); refine(Tryd.strconv_Itoa n h0 h1 w ?_).mono ?_
  · have e:Tryd.prog.globalNamed "internal/strconv.uint64pow10" =some tabB:=by kernel_rfl
    unfold Lib.TabIs World.var?; rw[e,z9,hb]
  · rintro e w' ⟨rfl,k,os,rfl⟩
    exact⟨rfl,Lib.below_grow _ w (z77 _) k os⟩
end Go.Own
namespace Go.Own
open Go Go.Proofs
abbrev vi:V:= .one (.c (.int .i64 0))
abbrev vy:V:= .one (.c (.int .u8 0))
abbrev vb:V:= .one (.c (.bool false))
abbrev vl:V:= .one (.c (.sl []))
abbrev vs:V:= .one (.c (.str []))
abbrev vj:V:= .one .junk
abbrev tl0:List T:=[.int .i64 0, .int .i64 0, .str [], .sl [], .sl []]
abbrev tl1:List T:=[.int .i64 0, .int .i64 0, .str [], .sl [], .sl [], .int .i64 0, .int .i64 0, .str [], .sl [], .sl []]
abbrev tl2:List T:=[.int .i64 0, .sl []]
abbrev x0:B:=⟨[(0,[[.S]])],[]⟩
abbrev x1:B:=⟨[(0,[[.S, .S, .S, .F, .F]])],[]⟩
abbrev x2:B:=⟨[(0,[[.F]]),(1,[[.S]])],[]⟩
abbrev x3:B:=⟨[(0,[[.S]]),(1,[[.S, .S, .S, .F, .F]]),(2,[[.S]])],[(1000000,[.S, .A 1])]⟩
abbrev x4:B:=⟨[(0,[[.F]])],[]⟩
abbrev x5:B:=⟨[(0,[[.S, .S, .S, .F, .F]]),(1,[[.S]])],[]⟩
abbrev x6:B:=⟨[(0,[[.S]]),(1,[[.S]]),(2,[[.S]])],[]⟩
abbrev x7:B:=⟨[(0,[[.S]])],[(1000000,[.S, .A 1])]⟩
abbrev x8:B:=⟨[(0,[[.F]]),(1,[[.F]])],[]⟩
abbrev y0:V:= .one (.ag tl0)
abbrev y1:V:= .one (.ptr 1000000 0)
abbrev y2:V:= .one (.cp tl0)
abbrev y3:V:= .one (.ptr 1 3)
abbrev y4:V:= .one (.ptr 1 0)
abbrev y5:V:= .one (.ptr 2 0)
abbrev y6:V:= .one (.ag tl1)
abbrev y7:V:= .one (.ptr 2 2)
abbrev y8:V:= .one (.cp tl1)
abbrev y9:V:= .one (.ptr 4 0)
abbrev y10:V:= .one (.ptr 3 0)
abbrev y11:V:= .one (.ptr 1 2)
abbrev y12:V:= .one (.ptr 4 4)
abbrev y13:V:= .one (.ptr 4 3)
abbrev y14:V:= .one (.ptr 4 2)
abbrev y15:V:= .one (.ptr 1000000 1)
abbrev y16:V:= .one (.ptr 1 4)
abbrev y17:V:= .one (.ptr 2 4)
abbrev y18:V:= .one (.cp [.str []])
abbrev y19:V:= .one (.pp (.s 3 0 0) [] 0 0)
abbrev y20:V:= .one (.ptr 2 3)
abbrev y21:V:= .one (.ptr 2 1)
abbrev y22:V:= .one (.ptr 1 1)
def F3:FA:= { n:=27,sh:=[y0,y4,vb,vi,vs, .one (.ptr 5 0),vs,y0,vi,vi,vi,vb,y0,y0,vs,y0,y0,y0,vs,vs,vs,vb,y0,y0,y0,vb,vb],obs:=[(1,tl0),(5,tl0)],tk:=[8,10,19,20,22,23],keep:=[(0,[1]),(1,[1,3]),(2,[1,3]),(3,[1,11]),(4,[2]),(5,[1,4]),(6,[1,4,5]),(7,[1,4,5,6]),(8,[1,5,21]),(9,[2]),(10,[26]),(11,[2]),(12,[2])] }
def F6:FA:= { n:=25,sh:=[y0,vi,y5,vj,vi,vi,y7,vs,vi,vi,vi,vb,y20,vl,vi,vi,vi,vb,y17,vl,vi,vi,vi,vb,vi],obs:=[(2,tl0)],tk:=[5,7,13,14,19,20,24],keep:=[(0,[1,2]),(1,[1,2]),(2,[1,2,11]),(3,[4]),(4,[1,2]),(5,[1,2,17]),(6,[4]),(7,[1]),(8,[1,23]),(9,[4]),(10,[4])] }
def F7:FA:= { n:=8,sh:=[y0,y4,vs,y0,vb,vb,y0,vs],obs:=[(1,tl0)],tk:=[6],keep:=[(0,[1]),(1,[1,5]),(2,[2]),(3,[2])] }
def F8:FA:= { n:=22,sh:=[y0,y4,y5,y10,y4,vi,y10,y22,vi, .one (.ptr 3 1),y11,vs, .one (.ptr 3 2),y3,vl,vl, .one (.ptr 3 3),y16,vl,vl, .one (.ptr 3 4),y0],obs:=[(1,tl0),(2,tl0),(3,tl0)],tk:=[5,8,11,14,18,21],keep:=[(0,[1,2]),(1,[1,2,3]),(2,[1,2,3]),(3,[1,2,3]),(4,[1,2,3]),(5,[1,2,3]),(6,[2,3]),(7,[2])] }
def F9:FA:= { n:=8,sh:=[y0,y4,vs,y0,vb,vb,y0,vs],obs:=[(1,tl0)],tk:=[6],keep:=[(0,[1]),(1,[1,5]),(2,[2]),(3,[2])] }
def F10:FA:= { n:=32,sh:=[y0,y0,y5,y10,vb,y5,vi,y10,vi,vb,y21,vi, .one (.ptr 3 1),vi,vb,y7,vs, .one (.ptr 3 2),vs,vb,y20,vl, .one (.ptr 3 3),vl,vb,vb,y17,vl, .one (.ptr 3 4),vl,vb,vb],obs:=[(2,tl0),(3,tl0)],tk:=[6,8,11,13,16,18,21,23,27,29],keep:=[(0,[2,3]),(1,[2,3,9]),(2,[4]),(3,[2,3,14]),(4,[4]),(5,[2,3,19]),(6,[4]),(7,[2,3,25]),(8,[4]),(9,[31]),(10,[4]),(11,[4])] }
def F15:FA:= { n:=6,sh:=[y0,y4,vb,y0,vi,vb],obs:=[(1,tl0)],tk:=[3],keep:=[(0,[1]),(1,[2])] }
def F21:FA:= { n:=27,sh:=[vl,vi,vj,vj,vi,vi,vi,vl,vi,vi,vi,vb,vi,vl,vi,vb,vi,vi,vl,vi,y2,y0,vi,vi,vi,vb,vi],obs:=[],tk:=[6,16,22,26],keep:=[(0,[0,1]),(1,[0,1]),(2,[0,1,11]),(3,[4]),(4,[0,1,5]),(5,[0,1,5,15]),(6,[0,1,5]),(7,[0,1,5]),(8,[0,1,5,25]),(9,[4]),(10,[4])] }
def F22:FA:= { n:=27,sh:=[vl,vi,vj,vj,vi,vi,vi,vl,vi,vi,vi,vb,vi,vl,vi,vb,vi,vi,vl,vi,y8,y6,vi,vi,vi,vb,vi],obs:=[],tk:=[6,16,22,26],keep:=[(0,[0,1]),(1,[0,1]),(2,[0,1,11]),(3,[4]),(4,[0,1,5]),(5,[0,1,5,15]),(6,[0,1,5]),(7,[0,1,5]),(8,[0,1,5,25]),(9,[4]),(10,[4])] }
def F23:FA:= { n:=121,sh:=[y0,y4,vs,vi,vs,vi,y4,vi,vb,vb,y22,vi,vs,vb,vb,vb,y11,vs,vb,vb,y3,vl,vs,vs,vs,vb,vb,y3,vl,vs,vs,vs,vb,vb,y3,vl,vi,vi,y3,vl,vi,vl,vs,vs,vs,y3,vl,vi,y2,y0,vs,vs,vs,vb,vb,y3,vl,y2,y0,vs,vs,vs,y11,vs,vs,vs,y3,vl,y2,y0,vs,vs,vs,vb,vb,y11,vs,vs,y3,vl,vs,vs,vs,y3,vl,y2,y0,vs,vs,vs,vi,y16,vl,vi,vb,vi,vi,vi,vb,vs,vs,vs,y16,vl,vi,y8,y2,y0,vs,vs,vs,y16,vl,vi,y8,y2,y0,vs,vs,vs,vs],obs:=[(1,tl0)],tk:=[7,11,17,21,28,46,47,63,67,76,79,84,95,99,101,119],keep:=[(0,[1]),(1,[1,7]),(2,[1,7,8]),(3,[2]),(4,[1,7,13]),(5,[1,7,13]),(6,[2]),(7,[1,7,18]),(8,[2]),(9,[1,7,25]),(10,[2]),(11,[1,7,32]),(12,[1,3]),(13,[2]),(14,[1,7,53]),(15,[2]),(16,[1,73]),(17,[2]),(18,[1,4]),(19,[1,4,5]),(20,[1,4,5,94]),(21,[1,4,5]),(22,[1,4,5,98]),(23,[1,4,5]),(24,[1,4,5]),(25,[2])] }
def F24:FA:= { n:=23,sh:=[vl,vj,vl,vl,vi,vl,vi,vl,vi,vl,vi,vb,vi,vi, .one (.al (.s 3 0 0) []),vi,vl,vi,y2,y0,y0,y19,vl],obs:=[],al:=[14],tk:=[12,22],keep:=[(0,[0]),(1,[0,3]),(2,[0,3,4]),(3,[0,3,4,11]),(4,[0,3,4]),(5,[0,3,4]),(6,[2])] }
def F25:FA:= { n:=23,sh:=[vl,vj,vl,vl,vi,vl,vi,vl,vi,vl,vi,vb,vi,vi, .one (.al (.s 3 0 0) []),vi,vl,vi,y8,y6,y6,y19,vl],obs:=[],al:=[14],tk:=[12,22],keep:=[(0,[0]),(1,[0,3]),(2,[0,3,4]),(3,[0,3,4,11]),(4,[0,3,4]),(5,[0,3,4]),(6,[2])] }
def F26:FA:= { n:=6,sh:=[y0,y4,vb,y10,y0,vb],obs:=[(1,tl0),(3,tl2)],tk:=[4],keep:=[(0,[1]),(1,[1,3]),(2,[2])] }
def F27:FA:= { n:=114,sh:=[y0,y4,vs,vi,vl,vj, .one (.ptr 6 0),y4,vi,vb,vb,y22,vi,vs,vb,vb,vb,y11,vs,vb,vb,y3,vl,vs,vs,vs,vb,vb,y3,vl,vs,vs,vs,vb,vb,y3,vl,vi,vi,y3,vl,vi,vl,vs,vs,vs,y3,vl,vi,y2,y0,vs,vs,vs,vb,vb,y3,vl,y2,y0,vs,vs,vs,y11,vs,vs,vs,y3,vl,y2,y0,vs,vs,vs,vb,vb,y11,vs,vs,y3,vl,vs,vs,vs,y16,vl,vi,vi,vb,y8,y6,vl, .one (.ptr 6 0),y0,vs,vs, .one (.ptr 6 5),y0,vs,vs,vl,vl,vi,y3,vl,y2,y0,vs,vs,vs,vl,vs,vs,vs],obs:=[(1,tl0),(6,tl1)],tk:=[8,12,18,22,29,47,48,64,68,77,80,85,87,91,93,97,104,110],dp:=[100,101],keep:=[(0,[1]),(1,[1,8]),(2,[1,8,9]),(3,[2]),(4,[1,8,14]),(5,[1,8,14]),(6,[2]),(7,[1,8,19]),(8,[2]),(9,[1,8,26]),(10,[2]),(11,[1,8,33]),(12,[1,3]),(13,[2]),(14,[1,8,54]),(15,[2]),(16,[1,74]),(17,[2]),(18,[1,4]),(19,[1,4,85,86,87]),(20,[1,4,85,86,87,88]),(21,[1,4,6,85,86,87]),(22,[1,4,85,86,87]),(23,[1,4,85,86,87]),(24,[2])] }
def F28:FA:= { n:=27,sh:=[vl,vl,vj,vj,vb,vi,vl,vi,vl,vi,vb,vi,vl,vi,vb,vi,vi,vl,vi,y2,y0,vl,vi,y2,y0,vb,vb],obs:=[],tk:=[15],keep:=[(0,[0,1]),(1,[0,1,10]),(2,[4]),(3,[0,1,5]),(4,[0,1,5,14]),(5,[0,1,5]),(6,[0,1,5,26]),(7,[4]),(8,[4])] }
def F29:FA:= { n:=27,sh:=[vl,vl,vj,vj,vb,vi,vl,vi,vl,vi,vb,vi,vl,vi,vb,vi,vi,vl,vi,y8,y6,vl,vi,y8,y6,vb,vb],obs:=[],tk:=[15],keep:=[(0,[0,1]),(1,[0,1,10]),(2,[4]),(3,[0,1,5]),(4,[0,1,5,14]),(5,[0,1,5]),(6,[0,1,5,26]),(7,[4]),(8,[4])] }
def F38:FA:= { n:=89,sh:=[y0,vb,vi,vi,y9,vj,vj,vj,vi,vi,vi,vi,vb,vb,vi,vb,vb,vb,y0,vb,vb,vb,vb,vi,vi,vi,y13,vl,vi,vb,vb,vi,vb,vb,vi,vi,y13,vl,vi,y2,y0,vb,vi,vi,vi,vi,vi,y12,vl,vi,vb,vb,vi,vb,vb,vi,vi,y12,vl,vi,y8,y2,y0,vl,vb,vb,y12,vl,vi,y8,y2,y0,vi,vi,vi,vi,vi,vb,y12,vl,vi,y8,y2,y0,vi,vi,vi,vi,vi],obs:=[(4,tl0)],tk:=[13,17,23,30,34,44,51,55,74,86,88],keep:=[(0,[1,2,3,4]),(1,[1,2,3,4,22]),(2,[8]),(3,[1,2,3,4]),(4,[1,2,3,4,9]),(5,[1,2,3,4,9,33]),(6,[1,2,3,4,9]),(7,[1,2,3,4,9]),(8,[2,3,4,10]),(9,[2,3,4,10,54]),(10,[2,3,4,10]),(11,[2,3,4,10,65]),(12,[8]),(13,[2,3,4,10]),(14,[2,3,4,10,77]),(15,[2,3,4,10]),(16,[8])] }
def F44:FA:= { n:=0,sh:=[],obs:=[],lb:=some ([[[.F]],[[.S]]],[[.S]],false) }
def F47:FA:= { n:=18,sh:=[y6,vi,y5,vj,vi,y5,y0,vi,vi,vi,vb, .one (.ptr 2 5),y0,vi,vi,vi,vb,vi],obs:=[(2,tl1)],tk:=[6,7,12,13,17],keep:=[(0,[1,2]),(1,[1,2]),(2,[1,2,10]),(3,[4]),(4,[1]),(5,[1,16]),(6,[4]),(7,[4])] }
def F48:FA:= { n:=28,sh:=[vi,vj,vs,vb,vi,vb,vi,vi,vs,vs,vb,vi,vb,vi,vi,vy,vl,vs,vi,vi,vs,vi,vi,vi,vy,vl,vs,vs],obs:=[],tk:=[6,13,21],dp:=[16,25],keep:=[(0,[0]),(1,[0,3]),(2,[2]),(3,[0,10]),(4,[2]),(5,[2])] }
def F49:FA:= { n:=23,sh:=[vl,vj,vs,vs,vi,vi,vl,vi,vb,vi,vi,vi,vb,vs,vs,vs,vl,vi,y2,y0,vs,vs,vs],obs:=[],tk:=[9,13,15,22],keep:=[(0,[0]),(1,[0,3]),(2,[0,3,4]),(3,[0,3,4,8]),(4,[0,3,4]),(5,[0,3,4,12]),(6,[0,3,4]),(7,[0,3,4]),(8,[2])] }
def F50:FA:= { n:=13,sh:=[y6,y4,y5,y10,y4,y0,y0,y10, .one (.ptr 1 5),y0,y0, .one (.ptr 3 5),y6],obs:=[(1,tl1),(2,tl1),(3,tl1)],tk:=[5,9,12],keep:=[(0,[1,2]),(1,[1,2,3]),(2,[1,2,3]),(3,[2,3]),(4,[2])] }
def F51:FA:= { n:=105,sh:=[y1,y0,vi,vj,y9,vj,vb,vj, .one (.ptr 8 0),vj, .one (.ptr 10 0),y1,y1,y1,vi,vi,y1,y1,vi,vb,vb,y1,y1,y1,vi,vb,vb,vb,y9,vi, .one (.ptr 4 1),vi,y14,vs,y13,vl,vi,vb,vb,vb,vb,y9,vi,vb,vb,y14,vs,vb,vb,vb,y9,vi,vb,y12,vl,vi,vb,vb,vb,y12,vl,vi,vb,vb,y13,vl,vi,vi,vb,y2,y0,y1,y0,vi,vi,vb,vb,vi,y12,vl,vi,vi,vb,y8,y6,y1,y1,y15,y1, .one (.ptr 10 0),y0,vi,vi,vb,vb,vb,y1, .one (.ptr 10 5),y0,vi,vi,vb,vb,vb,vi],obs:=[(4,tl0),(8,tl0),(10,tl1),(1000000,tl2)],tk:=[14,20,27,31,40,44,46,51,58,65,67,72,79,81,90,95,98],keep:=[(0,[0,2,4]),(1,[0,2,4]),(2,[0,2,4,49]),(3,[6]),(4,[0,2,4,63]),(5,[6]),(6,[0,2,4,65,66,67]),(7,[0,2,4,65,66,67,68]),(8,[0,2,4,8,65,66,67]),(9,[0,2,4,65,66,67,76]),(10,[6]),(11,[0,2,4,65,66,67]),(12,[0,2,79,80,81]),(13,[0,2,79,80,81,82]),(14,[0,2,10,79,80,81]),(15,[0,2,10,79,80,81]),(16,[0,2,79,80,81,103]),(17,[6]),(18,[0,2,79,80,81]),(19,[6])] }
def F52:FA:= { n:=0,sh:=[],obs:=[],lb:=some ([[[.S]]],[[.S]],false) }
def F53:FA:= { n:=20,sh:=[vl,vj,vs,vl,vj, .one (.ptr 5 0),vl,vi,vi,vb,y2,y0,vl,y0,vs,vl,vl,vi,vl,vs],obs:=[(5,tl0)],tk:=[6,8,12,13,18],dp:=[15,16],keep:=[(0,[0]),(1,[0,3]),(2,[3,6,7,8]),(3,[3,6,7,8,9]),(4,[3,5,6,7,8]),(5,[3,6,7,8]),(6,[3,6,7,8]),(7,[2])] }
def F54:FA:= { n:=17,sh:=[y6,y6,y5,y10,vb,y5,y0,y10,y0,vb,vb, .one (.ptr 2 5),y0, .one (.ptr 3 5),y0,vb,vb],obs:=[(2,tl1),(3,tl1)],tk:=[6,8,12,14],keep:=[(0,[2,3]),(1,[2,3,10]),(2,[4]),(3,[16]),(4,[4]),(5,[4])] }
def F61:FA:= { n:=134,sh:=[y0,vb,y5,vj,vb,vi,y20,vl,vi,y5,vi,vb,vb,y17,vl,vi,vb,vb,vb,y5,vi,vb,vb,y21,vi,vb,vb,vb,y5,vi,vb,vb,y21,vi,vb,vb,y7,vs,vb,vb,vb,vi,vb,vb,vb,vb,y7,vs,vb,vb,vi,vb,vb,vb,vb,y7,vs,vb,vb,vi,vb,vb,vb,vb,vb,y7,vs,vb,vb,vb,vb,vb,vb,y7,vs,vb,vb,vi,vb,vb,vb,vb,y7,vs,vb,vb,vi,vb,vb,vb,vb,vb,vb,vb,y7,vs,vb,vb,vb,vi,vb,vb,vb,vb,vb,vb,vb,y7,vs,vb,vb,vb,vi,vb,vb,vb,vb,vb,vb,vb,y7,vs,vb,vb,vb,vi,vb,vb,vb,y17,vl,vi,vb,vb],obs:=[(2,tl0)],tk:=[7,12,18,22,29,33,35,37,40,41,47,49,50,58,59,62,63,64,66,74,76,77,83,85,86,91,93,95,98,99,104,106,108,111,112,117,119,121,124,125,128,130],keep:=[(0,[1,2]),(1,[1,2,5]),(2,[1,2,5,27]),(3,[4]),(4,[1,2,5,29]),(5,[1,2,5,29,30]),(6,[4]),(7,[1,2,5,29,44]),(8,[4]),(9,[1,2,5,29,53]),(10,[4]),(11,[1,2,5,29,70]),(12,[1,2,5,29,70]),(13,[4]),(14,[1,2,5,29,80]),(15,[4]),(16,[1,2,5,29,89]),(17,[4]),(18,[1,2,5,29,102]),(19,[4]),(20,[1,2,5,115]),(21,[4]),(22,[4])] }
def F62:FA:= { n:=18,sh:=[vl,vj,vb,vi,vi,vl,vi,vb,vi,vi,vl,vi,vl,vl,vi,y18,vs,vb],obs:=[],tk:=[8],keep:=[(0,[0]),(1,[0,3]),(2,[0,3,7]),(3,[0,3]),(4,[0,3,17]),(5,[2]),(6,[2])] }
def F63:FA:= { n:=34,sh:=[y0,y4,vl,vl,vi,vl,y4,vi,vb,y11,vs,vb,vl,y11,vs,vl,vl,vl,vi,y3,vl,vi,vb,vi,vi,vl,y3,vl,vi,y2,y0,vl,vl,vl],obs:=[(1,tl0)],tk:=[7,12,14,17,23,25,33],dp:=[5,15,16,32],keep:=[(0,[1]),(1,[1,3]),(2,[1,3,8]),(3,[1,3,11]),(4,[3]),(5,[2]),(6,[1,3,4]),(7,[1,3,4,22]),(8,[1,3,4]),(9,[1,3,4]),(10,[2])] }
def F71:FA:= { n:=107,sh:=[vi,vi,vs,vi,vj,vj,vj,vj,vb,vi,vb,vb,vi,vb,vb,vs,vb,vb,vb,vi,vb,vb,vb,vb,vi,vb,vb,vs,vb,vb,vb,vi,vb,vb,vb,vb,vi,vb,vb,vs,vb,vb,vb,vi,vb,vb,vb,vb,vb,vi,vb,vb,vs,vb,vb,vb,vi,vb,vb,vb,vb,vi,vb,vb,vs,vb,vb,vb,vi,vb,vb,vb,vb,vi,vb,vb,vs,vb,vb,vb,vi,vb,vb,vb,vb,vi,vb,vb,vs,vb,vb,vb,vi,vb,vb,vb,vb,vi,vb,vb,vs,vb,vb,vb,vi,vb,vb],obs:=[],tk:=[9,12,14,15,18,19,24,26,27,30,31,36,38,39,42,43,49,51,52,55,56,61,63,64,67,68,73,75,76,79,80,85,87,88,91,92,97,99,100,103,104],keep:=[(0,[0,1,2,3]),(1,[1,2,3,9]),(2,[1,2,3,9,10]),(3,[8]),(4,[1,2,3,9,22]),(5,[8]),(6,[1,2,3,9,34]),(7,[8]),(8,[1,2,3,9,46]),(9,[1,2,3,9,46]),(10,[8]),(11,[1,2,3,9,59]),(12,[8]),(13,[1,2,3,9,71]),(14,[8]),(15,[1,2,3,9,83]),(16,[8]),(17,[1,2,3,95]),(18,[8]),(19,[8])] }
def F72:FA:= { n:=89,sh:=[y1,y0,vi,vj,y9,vj,vb,vj, .one (.ptr 8 0),y1,y1,y1,vi,vi,y1,y1,vi,vb,vb,y1,y1,y1,vi,vb,vb,vb,y9,vi,vb,vb,vb,y12,vl,vi,vb,vb,vb,y9,vi, .one (.ptr 4 1),vi,y14,vs,y13,vl,vi,vb,vb,vb,y9,vi,vb,vb,y14,vs,vb,vb,y1,y1,y15,vl,y14,vs,vb,y1,y1,y1,y15,vl,y14,vs,vl,vl,y1,y15,y13,vl,vi,vi,vb,y2,y0,y1,y0,vi,vi,vb,vb,vi],obs:=[(4,tl0),(8,tl0),(1000000,tl2)],tk:=[12,18,25,30,32,36,40,50,52,68,70,76,78,83],dp:=[71],keep:=[(0,[0,2,4]),(1,[0,2,4]),(2,[0,2,4,48]),(3,[6]),(4,[0,2,4,56]),(5,[0,2,4,63]),(6,[6]),(7,[0,2,4]),(8,[0,2,76,77,78]),(9,[0,2,76,77,78,79]),(10,[0,2,8,76,77,78]),(11,[0,2,76,77,78,87]),(12,[6]),(13,[0,2,76,77,78]),(14,[6])] }
def F75:FA:= { n:=15,sh:=[vi,vi,vi,vj,vj,vj,vb,vi,vi,vb,vb,vi,vi,vb,vb],obs:=[],tk:=[8,10,11,12],keep:=[(0,[0,1,2]),(1,[6])] }
def F76:FA:= { n:=10,sh:=[vs,vj,vb,vs,vb,vb,vs,vb,vb,vb],obs:=[],tk:=[5,6],keep:=[(0,[0]),(1,[2])] }
def F77:FA:= { n:=36,sh:=[vs,vj,vb,vi,vi,vs,vi,vb,vi,vi,vs,vi,vy,vb,vb,vb,vi,vb,vb,vs,vi,vy,vb,vb,vb,vs,vi,vy,vb,vb,vb,vb,vb,vs,vi,vb],obs:=[],tk:=[8,15,18,24,33],keep:=[(0,[0]),(1,[0,3]),(2,[0,3,7]),(3,[0,3]),(4,[0,3,32]),(5,[2]),(6,[2])] }
def F78:FA:= { n:=21,sh:=[vs,vj,vb,vs,vb,vb,vs,vb,vb,vb,vs,vb,vb,vb,vs,vb,vb,vb,vs,vb,vb],obs:=[],tk:=[5,9,13,17,18],keep:=[(0,[0]),(1,[2])] }
def F79:FA:= { n:=18,sh:=[vl,vs,vj,vj,vb,vi,vi,vl,vi,vb,vi,vi,vl,vi,y18,vs,vs,vb],obs:=[],tk:=[10],keep:=[(0,[0,1]),(1,[0,1,5]),(2,[0,1,5,9]),(3,[0,1,5]),(4,[0,1,5,17]),(5,[4]),(6,[4])] }
def F82:FA:= { n:=23,sh:=[vs,vj,vb,vi,vi,vs,vi,vb,vi,vi,vs,vi,vy,vb,vb,vs,vi,vb,vb,vs,vy,vb,vb],obs:=[],tk:=[8,18,19],keep:=[(0,[0]),(1,[0,3]),(2,[0,3,7]),(3,[0,3]),(4,[0,3,14]),(5,[2]),(6,[2])] }
def F83:FA:= { n:=17,sh:=[vs,vj,vb,vs,vb,vb,vs,vb,vb,vb,vs,vb,vb,vb,vs,vb,vb],obs:=[],tk:=[5,9,13,14],keep:=[(0,[0]),(1,[2])] }
def F87:FA:= { n:=15,sh:=[vi,vi,vi,vj,vj,vj,vb,vi,vi,vb,vb,vi,vi,vb,vb],obs:=[],tk:=[8,10,11,12],keep:=[(0,[0,1,2]),(1,[6])] }
def F88:FA:= { n:=10,sh:=[vs,vj,vb,vs,vb,vb,vb,vb,vb,vb],obs:=[],tk:=[3],keep:=[(0,[0]),(1,[3]),(2,[3,4]),(3,[3,4]),(4,[3,4]),(5,[3,4]),(6,[4]),(7,[2]),(8,[2])] }
def F89:FA:= { n:=9,sh:=[vl,vs,vj,vj,vb,vl,vs,vi,vb],obs:=[],tk:=[5,6],keep:=[(0,[0,1]),(1,[4])] }
def F93:FA:= { n:=36,sh:=[vs,vj,vb,vi,vi,vb,vi,vs,vi,vb,vi,vi,vs,vi,vy,vi,vi,vb,vb,vb,vb,vi,vb,vb,vi,vb,vb,vb,vi,vb,vb,vb,vb,vs,vi,vb],obs:=[],tk:=[10,18,20,23,27,28,33],keep:=[(0,[0]),(1,[0,3]),(2,[0,3,9]),(3,[0,3]),(4,[0,3,4]),(5,[0,3,4,5]),(6,[0,3,32]),(7,[2]),(8,[2])] }
def F94:FA:= { n:=13,sh:=[vs,vj,vb,vs,vb,vb,vs,vb,vb,vb,vs,vb,vb],obs:=[],tk:=[5,9,10],keep:=[(0,[0]),(1,[2])] }
def F95:FA:= { n:=10,sh:=[vy,vj,vb,vy,vi,vb,vb,vy,vb,vb],obs:=[],tk:=[6,7],keep:=[(0,[0]),(1,[2])] }
def F96:FA:= { n:=6,sh:=[vy,vj,vb,vy,vi,vb],obs:=[],tk:=[3],keep:=[(0,[0]),(1,[2])] }
def F97:FA:= { n:=6,sh:=[vy,vj,vb,vy,vi,vb],obs:=[],tk:=[3],keep:=[(0,[0]),(1,[2])] }
def F98:FA:= { n:=13,sh:=[vy,vj,vb,vy,vb,vb,vy,vb,vb,vb,vy,vb,vb],obs:=[],tk:=[5,9,10],keep:=[(0,[0]),(1,[2])] }
def F99:FA:= { n:=13,sh:=[vy,vj,vb,vy,vb,vb,vy,vb,vb,vb,vy,vb,vb],obs:=[],tk:=[5,9,10],keep:=[(0,[0]),(1,[2])] }
def F100:FA:= { n:=35,sh:=[vs,vj,vb,vi,vi,vs,vi,vb,vi,vi,vs,vi,vy,vb,vb,vb,vi,vb,vb,vs,vi,vy,vb,vb,vb,vs,vi,vy,vb,vb,vb,vb,vs,vi,vb],obs:=[],tk:=[8,15,18,24,32],keep:=[(0,[0]),(1,[0,3]),(2,[0,3,7]),(3,[0,3]),(4,[0,3,31]),(5,[2]),(6,[2])] }
def F102:FA:= { n:=19,sh:=[vl,vs,vj,vj,vi,vi,vl,vi,vi,vb,vi,vs,vl,vi,y18,vs,vb,vi,vi],obs:=[],tk:=[8,17],keep:=[(0,[0,1]),(1,[0,1,7,8]),(2,[0,1,7,8,9]),(3,[0,1,5,7,8]),(4,[0,1,5,7,8,16]),(5,[4]),(6,[0,1,7,8]),(7,[4])] }
def F107:FA:= { n:=9,sh:=[vy,vj,vb,vy,vb,vb,vy,vb,vb],obs:=[],tk:=[5,6],keep:=[(0,[0]),(1,[2])] }
def F108:FA:= { n:=9,sh:=[vy,vj,vb,vy,vb,vb,vy,vb,vb],obs:=[],tk:=[5,6],keep:=[(0,[0]),(1,[2])] }
def An:FuncId→FA
  | 3=>F3
  | 6=>F6
  | 7=>F7
  | 8=>F8
  | 9=>F9
  | 10=>F10
  | 15=>F15
  | 21=>F21
  | 22=>F22
  | 23=>F23
  | 24=>F24
  | 25=>F25
  | 26=>F26
  | 27=>F27
  | 28=>F28
  | 29=>F29
  | 38=>F38
  | 44=>F44
  | 47=>F47
  | 48=>F48
  | 49=>F49
  | 50=>F50
  | 51=>F51
  | 52=>F52
  | 53=>F53
  | 54=>F54
  | 61=>F61
  | 62=>F62
  | 63=>F63
  | 71=>F71
  | 72=>F72
  | 75=>F75
  | 76=>F76
  | 77=>F77
  | 78=>F78
  | 79=>F79
  | 82=>F82
  | 83=>F83
  | 87=>F87
  | 88=>F88
  | 89=>F89
  | 93=>F93
  | 94=>F94
  | 95=>F95
  | 96=>F96
  | 97=>F97
  | 98=>F98
  | 99=>F99
  | 100=>F100
  | 102=>F102
  | 107=>F107
  | 108=>F108
  | _=> { n:=0,sh:=[],obs:=[] }
abbrev sg3:Sg:= { bi:=x1,bo:=x0,np:=1,ext:=false }
abbrev sg6:Sg:= { bi:=x5,bo:=x0,np:=2,ext:=false }
abbrev sg7:Sg:= { bi:=x1,bo:=x0,np:=1,ext:=false }
abbrev sg8:Sg:= { bi:=x1,bo:=⟨[(0,[[.S, .S, .S, .U 5, .U 10]])],[]⟩,np:=1,ext:=false }
abbrev sg9:Sg:= { bi:=x1,bo:=x0,np:=1,ext:=false }
abbrev sg10:Sg:= { bi:=⟨[(0,[[.S, .S, .S, .F, .F]]),(1,[[.S, .S, .S, .F, .F]])],[]⟩,bo:=x0,np:=2,ext:=false }
abbrev sg15:Sg:= { bi:=x1,bo:=x0,np:=1,ext:=false }
abbrev sg21:Sg:= { bi:=x2,bo:=x0,np:=2,ext:=false }
abbrev sg22:Sg:= { bi:=x2,bo:=x0,np:=2,ext:=false }
abbrev sg23:Sg:= { bi:=x1,bo:=x0,np:=1,ext:=false }
abbrev sg24:Sg:= { bi:=x4,bo:=⟨[(0,[[.U 5]])],[]⟩,np:=1,ext:=false }
abbrev sg25:Sg:= { bi:=x4,bo:=⟨[(0,[[.U 10]])],[]⟩,np:=1,ext:=false }
abbrev sg26:Sg:= { bi:=x1,bo:=x0,np:=1,ext:=false }
abbrev sg27:Sg:= { bi:=x1,bo:=x0,np:=1,ext:=false }
abbrev sg28:Sg:= { bi:=x8,bo:=x0,np:=2,ext:=false }
abbrev sg29:Sg:= { bi:=x8,bo:=x0,np:=2,ext:=false }
abbrev sg38:Sg:= { bi:=⟨[(0,[[.S, .S, .S, .F, .F]]),(1,[[.S]]),(2,[[.S]]),(3,[[.S]])],[]⟩,bo:=x0,np:=4,ext:=false }
abbrev sg44:Sg:= { bi:=x2,bo:=x0,np:=2,ext:=false }
abbrev sg47:Sg:= { bi:=⟨[(0,[[.S, .S, .S, .F, .F, .S, .S, .S, .F, .F]]),(1,[[.S]])],[]⟩,bo:=x0,np:=2,ext:=false }
abbrev sg48:Sg:= { bi:=x0,bo:=x0,np:=1,ext:=false }
abbrev sg49:Sg:= { bi:=x4,bo:=x0,np:=1,ext:=false }
abbrev sg50:Sg:= { bi:=⟨[(0,[[.S, .S, .S, .F, .F, .S, .S, .S, .F, .F]])],[]⟩,bo:=⟨[(0,[[.S, .S, .S, .U 5, .U 10, .S, .S, .S, .U 5, .U 10]])],[]⟩,np:=1,ext:=false }
abbrev sg51:Sg:= { bi:=x3,bo:=x7,np:=3,no:=1 }
abbrev sg52:Sg:= { bi:=x0,bo:=x0,np:=1,ext:=false }
abbrev sg53:Sg:= { bi:=x4,bo:=x0,np:=1,ext:=false }
abbrev sg54:Sg:= { bi:=⟨[(0,[[.S, .S, .S, .F, .F, .S, .S, .S, .F, .F]]),(1,[[.S, .S, .S, .F, .F, .S, .S, .S, .F, .F]])],[]⟩,bo:=x0,np:=2,ext:=false }
abbrev sg61:Sg:= { bi:=x5,bo:=x0,np:=2,ext:=false }
abbrev sg62:Sg:= { bi:=x4,bo:=x0,np:=1,ext:=false }
abbrev sg63:Sg:= { bi:=x1,bo:=⟨[(0,[[.U 1]])],[]⟩,np:=1,ext:=false }
abbrev sg71:Sg:= { bi:=⟨[(0,[[.S]]),(1,[[.S]]),(2,[[.S]]),(3,[[.S]])],[]⟩,bo:=x0,np:=4,ext:=false }
abbrev sg72:Sg:= { bi:=x3,bo:=x7,np:=3,no:=1 }
abbrev sg75:Sg:= { bi:=x6,bo:=x0,np:=3,ext:=false }
abbrev sg76:Sg:= { bi:=x0,bo:=x0,np:=1,ext:=false }
abbrev sg77:Sg:= { bi:=x0,bo:=x0,np:=1,ext:=false }
abbrev sg78:Sg:= { bi:=x0,bo:=x0,np:=1,ext:=false }
abbrev sg79:Sg:= { bi:=x2,bo:=x0,np:=2,ext:=false }
abbrev sg82:Sg:= { bi:=x0,bo:=x0,np:=1,ext:=false }
abbrev sg83:Sg:= { bi:=x0,bo:=x0,np:=1,ext:=false }
abbrev sg87:Sg:= { bi:=x6,bo:=x0,np:=3,ext:=false }
abbrev sg88:Sg:= { bi:=x0,bo:=x0,np:=1,ext:=false }
abbrev sg89:Sg:= { bi:=x2,bo:=x0,np:=2,ext:=false }
abbrev sg93:Sg:= { bi:=x0,bo:=x0,np:=1,ext:=false }
abbrev sg94:Sg:= { bi:=x0,bo:=x0,np:=1,ext:=false }
abbrev sg95:Sg:= { bi:=x0,bo:=x0,np:=1,ext:=false }
abbrev sg96:Sg:= { bi:=x0,bo:=x0,np:=1,ext:=false }
abbrev sg97:Sg:= { bi:=x0,bo:=x0,np:=1,ext:=false }
abbrev sg98:Sg:= { bi:=x0,bo:=x0,np:=1,ext:=false }
abbrev sg99:Sg:= { bi:=x0,bo:=x0,np:=1,ext:=false }
abbrev Nu:Sg:= { bi:=x0,bo:=x0,np:=1,ext:=false }
abbrev Nt:Sg:= { bi:=x2,bo:=x0,np:=2,ext:=false }
abbrev Ns:Sg:= { bi:=x0,bo:=x0,np:=1,ext:=false }
abbrev Nr:Sg:= { bi:=x0,bo:=x0,np:=1,ext:=false }
def Sgs:FuncId→List Sg
  | 3=> [sg3]
  | 6=> [sg6]
  | 7=> [sg7]
  | 8=> [sg8]
  | 9=> [sg9]
  | 10=> [sg10]
  | 15=> [sg15]
  | 21=> [sg21]
  | 22=> [sg22]
  | 23=> [sg23]
  | 24=> [sg24]
  | 25=> [sg25]
  | 26=> [sg26]
  | 27=> [sg27]
  | 28=> [sg28]
  | 29=> [sg29]
  | 38=> [sg38]
  | 44=> [sg44]
  | 47=> [sg47]
  | 48=> [sg48]
  | 49=> [sg49]
  | 50=> [sg50]
  | 51=> [sg51]
  | 52=> [sg52]
  | 53=> [sg53]
  | 54=> [sg54]
  | 61=> [sg61]
  | 62=> [sg62]
  | 63=> [sg63]
  | 71=> [sg71]
  | 72=> [sg72]
  | 75=> [sg75]
  | 76=> [sg76]
  | 77=> [sg77]
  | 78=> [sg78]
  | 79=> [sg79]
  | 82=> [sg82]
  | 83=> [sg83]
  | 87=> [sg87]
  | 88=> [sg88]
  | 89=> [sg89]
  | 93=> [sg93]
  | 94=> [sg94]
  | 95=> [sg95]
  | 96=> [sg96]
  | 97=> [sg97]
  | 98=> [sg98]
  | 99=> [sg99]
  | 100=> [Nu]
  | 102=> [Nt]
  | 107=> [Ns]
  | 108=> [Nr]
  | _=> []
end Go.Own
