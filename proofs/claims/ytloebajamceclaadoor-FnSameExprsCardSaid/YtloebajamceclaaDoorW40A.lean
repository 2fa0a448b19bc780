/- What is told of the functions: shapes and kinds. No conditions. -/
import Derived.Test.YtloebajamceclaaDoorProg
import Derived.KernelRfl
import Derived.Test.YtloebajamceclaaDoorShelf
import Derived.Lib.AppendIntMem
import Derived.Test.YtloebajamceclaaDoorOwn4
set_option linter.unusedVariables false
set_option linter.unusedSimpArgs false
set_option linter.unnecessarySimpa false
namespace Go.Own
open Go Go.Proofs
def τ:TypeId→Option TI
  | 3=>some { size:=1,bytes:=8,zero:=[.int .i64 0],agg:=false,kind:= .int .i64 }
  | 4=>some { size:=1,bytes:=1,zero:=[.bool false],agg:=false,kind:= .bool }
  | 5=>some { size:=1,bytes:=1,zero:=[.int .u8 0],agg:=false,kind:= .int .u8 }
  | 9=>some { size:=1,bytes:=16,zero:=[.str []],agg:=false,kind:= .str }
  | 28=>some { size:=1,bytes:=24,zero:=[.sl []],agg:=false,kind:= .sl 31 }
  | 29=>some { size:=1,bytes:=24,zero:=[.sl []],agg:=false,kind:= .sl 67 }
  | 31=>some { size:=5,bytes:=80,zero:=[.int .i64 0, .int .i64 0, .str [], .sl [], .sl []],agg:=true,kind:= .struct [(0,1,false),(1,1,false),(2,1,false),(3,1,false),(4,1,false)] }
  | 35=>some { size:=1,bytes:=24,zero:=[.sl []],agg:=false,kind:= .sl 5 }
  | 67=>some { size:=10,bytes:=160,zero:=[.int .i64 0, .int .i64 0, .str [], .sl [], .sl [], .int .i64 0, .int .i64 0, .str [], .sl [], .sl []],agg:=true,kind:= .struct [(0,5,true),(5,5,true)] }
  | 72=>some { size:=1,bytes:=24,zero:=[.sl []],agg:=false,kind:= .sl 9 }
  | 92=>some { size:=2,bytes:=32,zero:=[.int .i64 0, .sl []],agg:=true,kind:= .struct [(0,1,false),(1,1,false)] }
  | 95=>some { size:=3,bytes:=40,zero:=[.sl [], .int .i64 0, .int .i64 0],agg:=true,kind:= .struct [(0,1,false),(1,1,false),(2,1,false)] }
  | 100=>some { size:=1,bytes:=24,zero:=[.sl []],agg:=false,kind:= .sl 3 }
  | _=>none
set_option maxRecDepth 100000 in
theorem PJ:aR Tryd.prog τ:=by
  intro t i h; unfold τ at h; split at h<;>(try cases h)
  · exact⟨_,_,_,rfl,rfl,rfl,rfl,rfl,rfl,rfl,by decide,rfl,rfl,nofun⟩
  · exact⟨_,_,_,rfl,rfl,rfl,rfl,rfl,rfl,rfl,by decide,rfl,rfl,nofun⟩
  · exact⟨_,_,_,rfl,rfl,rfl,rfl,rfl,rfl,rfl,by decide,rfl,rfl,nofun⟩
  · exact⟨_,_,_,rfl,rfl,rfl,rfl,rfl,rfl,rfl,by decide,rfl,rfl,nofun⟩
  · exact⟨_,_,_,rfl,rfl,rfl,rfl,rfl,rfl,rfl,by decide,rfl,rfl,nofun⟩
  · exact⟨_,_,_,rfl,rfl,rfl,rfl,rfl,rfl,rfl,by decide,rfl,rfl,nofun⟩
  · refine⟨_,_,_,rfl,rfl,rfl,rfl,rfl,rfl,rfl,by decide,rfl,⟨_,rfl,rfl,fun j f hf=> ?_⟩,nofun⟩
    match j with
    | 0=>simp at hf; subst hf; exact⟨_,_,rfl,rfl,rfl,rfl,by decide,rfl,rfl⟩
    | 1=>simp at hf; subst hf; exact⟨_,_,rfl,rfl,rfl,rfl,by decide,rfl,rfl⟩
    | 2=>simp at hf; subst hf; exact⟨_,_,rfl,rfl,rfl,rfl,by decide,rfl,rfl⟩
    | 3=>simp at hf; subst hf; exact⟨_,_,rfl,rfl,rfl,rfl,by decide,rfl,rfl⟩
    | 4=>simp at hf; subst hf; exact⟨_,_,rfl,rfl,rfl,rfl,by decide,rfl,rfl⟩
    | j+5=>simp at hf
  · exact⟨_,_,_,rfl,rfl,rfl,rfl,rfl,rfl,rfl,by decide,rfl,rfl,nofun⟩
  · refine⟨_,_,_,rfl,rfl,rfl,rfl,rfl,rfl,rfl,by decide,rfl,⟨_,rfl,rfl,fun j f hf=> ?_⟩,nofun⟩
    match j with
    | 0=>simp at hf; subst hf; exact⟨_,_,rfl,rfl,rfl,rfl,by decide,rfl,rfl⟩
    | 1=>simp at hf; subst hf; exact⟨_,_,rfl,rfl,rfl,rfl,by decide,rfl,rfl⟩
    | j+2=>simp at hf
  · exact⟨_,_,_,rfl,rfl,rfl,rfl,rfl,rfl,rfl,by decide,rfl,rfl,nofun⟩
  · refine⟨_,_,_,rfl,rfl,rfl,rfl,rfl,rfl,rfl,by decide,rfl,⟨_,rfl,rfl,fun j f hf=> ?_⟩,nofun⟩
    match j with
    | 0=>simp at hf; subst hf; exact⟨_,_,rfl,rfl,rfl,rfl,by decide,rfl,rfl⟩
    | 1=>simp at hf; subst hf; exact⟨_,_,rfl,rfl,rfl,rfl,by decide,rfl,rfl⟩
    | j+2=>simp at hf
  · refine⟨_,_,_,rfl,rfl,rfl,rfl,rfl,rfl,rfl,by decide,rfl,⟨_,rfl,rfl,fun j f hf=> ?_⟩,nofun⟩
    match j with
    | 0=>simp at hf; subst hf; exact⟨_,_,rfl,rfl,rfl,rfl,by decide,rfl,rfl⟩
    | 1=>simp at hf; subst hf; exact⟨_,_,rfl,rfl,rfl,rfl,by decide,rfl,rfl⟩
    | 2=>simp at hf; subst hf; exact⟨_,_,rfl,rfl,rfl,rfl,by decide,rfl,rfl⟩
    | j+3=>simp at hf
  · exact⟨_,_,_,rfl,rfl,rfl,rfl,rfl,rfl,rfl,by decide,rfl,rfl,nofun⟩
end Go.Own
namespace Go.Own
open Go Go.Proofs Go.RowKit
set_option maxRecDepth 100000 in
theorem Pf{xs:List (List UInt8)}{sep:List UInt8}(h0:xs.length≤140737488355328)(h1:(Lib.join xs sep).length≤140737488355328):TC Tryd.prog 44 (Fi ([[[.F]],[[.S]]],[[.S]],false)) [.one (.c (.sl (xs.map fun s=> [.str s]))), .one (.c (.str sep))] [] (.one (.c (.str (Lib.join xs sep)))) none [] none:=by
  have e:(xs.map fun s=>(⟨s.toArray⟩:ByteArray)).map (·.data.toList)=xs:=by
    rw[Nu]; exact(z45 fun s _=>by simp).trans (List.map_id' xs)
  refine Pe Tryd.func44 rfl (by decide) (fun a k w=>Tryd.strings_Join_none a k ⟨sep.toArray⟩ w) (fun b o k w hc hb hk=> ?_)
  have h:=Tryd.strings_Join b o k (xs.map fun s=>⟨s.toArray⟩) ⟨sep.toArray⟩ w (fun j x hx=>by
    rw[z33]at hx
    obtain⟨s,hs,rfl⟩:=z29.1 hx; exact hc j s hs) hb (by rw[z61]; exact h0) (by rw[z61]; exact hk) (by rw[e]; exact h1)
  rw[e,z61]at h; exact h
end Go.Own
namespace Go.Own
open Go Go.Proofs Go.RowKit
set_option maxRecDepth 100000 in
theorem Pg{n:Int}(h0: -9223372036854775808≤n)(h1:n≤9223372036854775807):TC Tryd.prog 52 (Fi ([[[.S]]],[[.S]],false)) [.one (.c (.int .i64 n))] [] (.one (.c (.str (Lib.itoa n)))) none [] none:=by
  refine PI Tryd.func52 rfl (by decide) (fun w hw=> ?_)
  obtain⟨ty,fz,hb⟩:=hw tabB _ (z17 rfl); refine(Tryd.strconv_Itoa n h0 h1 w ?_).mono ?_
  · have e:Tryd.prog.globalNamed "internal/strconv.uint64pow10" =some tabB:=by kernel_rfl
    unfold Lib.TabIs World.var?; rw[e,z10,hb]
  · rintro e w' ⟨rfl,k,os,rfl⟩
    exact⟨rfl,Lib.below_grow _ w (z63 _) k os⟩
end Go.Own
namespace Go.Own
open Go Go.Proofs
abbrev vi:V:= .one (.c (.int .i64 0))
abbrev vy:V:= .one (.c (.int .u8 0))
abbrev vb:V:= .one (.c (.bool false))
abbrev vl:V:= .one (.c (.sl []))
abbrev vs:V:= .one (.c (.str []))
abbrev vj:V:= .one .junk
abbrev tl0:List T:=[.int .i64 0, .int .i64 0, .str [], .sl [], .sl []]
abbrev tl1:List T:=[.int .i64 0, .int .i64 0, .str [], .sl [], .sl [], .int .i64 0, .int .i64 0, .str [], .sl [], .sl []]
abbrev tl2:List T:=[.sl [], .int .i64 0, .int .i64 0]
abbrev tl3:List T:=[.int .i64 0, .sl []]
abbrev x0:B:=⟨[(0,[[.S]])],[]⟩
abbrev x1:B:=⟨[(0,[[.S]])],[(1000000,[.F, .S, .S])]⟩
abbrev x2:B:=⟨[(0,[[.S, .S, .S, .U 5, .U 10]])],[(1000000,[.F, .S, .S])]⟩
abbrev x3:B:=⟨[(0,[[.S, .S, .S, .F, .F]])],[]⟩
abbrev x4:B:=⟨[(0,[[.S]]),(1,[[.F]])],[(1000000,[.F, .S, .S])]⟩
abbrev x5:B:=⟨[(0,[[.F]]),(1,[[.S]])],[]⟩
abbrev x6:B:=⟨[(0,[[.F]])],[]⟩
abbrev x7:B:=⟨[(0,[[.S]]),(1,[[.S, .S, .S, .F, .F]]),(2,[[.S]])],[(1000000,[.S, .A 1])]⟩
abbrev x8:B:=⟨[(0,[[.S, .S, .S, .F, .F]]),(1,[[.S, .S, .S, .F, .F]])],[]⟩
abbrev x9:B:=⟨[(0,[[.S]]),(1,[[.S]])],[(1000000,[.F, .S, .S])]⟩
abbrev x10:B:=⟨[(0,[[.S]]),(1,[[.S]]),(2,[[.S]])],[]⟩
abbrev x11:B:=⟨[(0,[[.F]]),(1,[[.F]]),(2,[[.S]])],[]⟩
abbrev x12:B:=⟨[(0,[[.S]])],[(1000000,[.S, .A 1])]⟩
abbrev x13:B:=⟨[(0,[[.S, .S, .S, .N, .N]])],[]⟩
abbrev y0:V:= .one (.ptr 1000000 0)
abbrev y1:V:= .one (.ag tl0)
abbrev y2:V:= .one (.cp tl0)
abbrev y3:V:= .one (.ptr 2 0)
abbrev y4:V:= .one (.ptr 3 0)
abbrev y5:V:= .one (.ptr 1 3)
abbrev y6:V:= .one (.ptr 4 0)
abbrev y7:V:= .one (.cp tl1)
abbrev y8:V:= .one (.ptr 1000001 0)
abbrev y9:V:= .one (.ptr 1000000 1)
abbrev y10:V:= .one (.ag tl1)
abbrev y11:V:= .one (.ptr 3 4)
abbrev y12:V:= .one (.ptr 2 2)
abbrev y13:V:= .one (.ptr 4 4)
abbrev y14:V:= .one (.ptr 3 3)
abbrev y15:V:= .one (.ptr 1 0)
abbrev y16:V:= .one (.ptr 8 0)
abbrev y17:V:= .one (.ptr 7 0)
abbrev y18:V:= .one (.ptr 2 4)
abbrev y19:V:= .one (.cp [.str []])
abbrev y20:V:= .one (.ptr 8 3)
abbrev y21:V:= .one (.ptr 4 3)
abbrev y22:V:= .one (.ptr 4 2)
abbrev y23:V:= .one (.ptr 1000000 2)
abbrev y24:V:= .one (.ptr 2 3)
abbrev y25:V:= .one (.ptr 1 2)
abbrev y26:V:= .one (.ptr 13 4)
abbrev y27:V:= .one (.ptr 6 0)
abbrev y28:V:= .one (.ptr 5 0)
abbrev y29:V:= .one (.ptr 2 1)
abbrev y30:V:= .one (.ptr 1 4)
abbrev y31:V:= .one (.ptr 10 0)
abbrev y32:V:= .one (.ptr 3 2)
abbrev y33:V:= .one (.ptr 3 1)
abbrev y34:V:= .one (.pp (.oc 3 4) [] 0 0)
def F4:FA:= { n:=51,sh:=[vl,vj,vb,y4,y6,vb,vl,vb, .tup [.ag tl0, .ag tl0],vl, .tup [.ag tl0, .ag tl0],y1,y1,y1,y1,vb,vb,y1,y1,vb,vb,vb,y1,y1,vb,vb,vb,vb,vb,y1,y1,vb,vb,vb,y1,vb,vb,vb,y1,vb,vb,vb,vb,y1,vs,y1,vs,vb,vb,vb,vb],obs:=[(3,tl0),(4,tl0)],tk:=[8,9,21,27,37,42,43,45,48],keep:=[(0,[0]),(1,[0,7]),(2,[2]),(3,[3,4]),(4,[3,4,5]),(5,[3,4,5,33]),(6,[2]),(7,[2])] }
def F9:FA:= { n:=8,sh:=[y1,y15,vs,y1,vb,vb,y1,vs],obs:=[(1,tl0)],tk:=[6],keep:=[(0,[1]),(1,[1,5]),(2,[2]),(3,[2])] }
def F11:FA:= { n:=6,sh:=[vl,vj,vb,vl,vi,vb],obs:=[],tk:=[3],keep:=[(0,[0]),(1,[2])] }
def F12:FA:= { n:=26,sh:=[vl,vj,y3,y4,y17,y28,vl,y17,y17,y1,y17,vi,vb,vb,y1,y1,y1,vb,vb,y1,y17,y1,y1,y1,y17,y1],obs:=[(2,tl0),(3,tl0),(5,tl0),(7,tl2)],tk:=[6,15,20,21,23,24],fz:=[9,21],nw:=[7],keep:=[(0,[0,2,3]),(1,[2,3,4]),(2,[2,3,4,5]),(3,[2,3,4,5,11]),(4,[2,3,4,5,11,12]),(5,[2,3]),(6,[2,3,4,5,17]),(7,[2,3]),(8,[2,3])] }
def F13:FA:= { n:=37,sh:=[y1,y1,y3,y4,vb,y3,vi,y4,vi,vb,vb,y29,vi,y33,vi,vb,vb,vb,y12,vs,y32,vs,vb,vb,vb,y24,vl,y14,vl,vb,vb,vb,y18,vl,y11,vl,vb],obs:=[(2,tl0),(3,tl0)],tk:=[6,8,10,12,14,17,19,21,24,26,28,33,35],keep:=[(0,[2,3]),(1,[2,3,31]),(2,[4]),(3,[4])] }
def F14:FA:= { n:=100,sh:=[y1,y1,y3,y4,vb,vi,vi,y3,vi,y4,vi,vb,vb,y29,vi,y33,vi,vb,vb,vb,y12,vs,y32,vs,vb,vb,vb,y24,vl,vi,y14,vl,vi,vb,vb,vb,y18,vl,vi,y11,vl,vi,vb,vb,vi,y24,vl,vi,vb,vi,vi,y24,vl,vi,y2,y1,y14,vl,vi,y2,y1,vb,vb,vi,y18,vl,vi,vb,vi,vi,y18,vl,vi,y7,y2,y1,y11,vl,vi,y7,y2,y1,vb,vb,vb,y18,vl,vi,y7,y2,y1,y11,vl,vi,y7,y2,y1,vb,vb,vb],obs:=[(2,tl0),(3,tl0)],tk:=[8,10,12,14,16,19,21,23,26,35,49,68,84],keep:=[(0,[2,3]),(1,[2,3,43]),(2,[4]),(3,[2,3,5]),(4,[2,3,5,48]),(5,[2,3,5]),(6,[2,3,5,62]),(7,[4]),(8,[2,3,6]),(9,[2,3,6,67]),(10,[2,3,6]),(11,[2,3,6,99]),(12,[4]),(13,[4])] }
def F15:FA:= { n:=6,sh:=[y1,y15,vb,y1,vi,vb],obs:=[(1,tl0)],tk:=[3],keep:=[(0,[1]),(1,[2])] }
def F26:FA:= { n:=6,sh:=[y1,y15,vb,y4,y1,vb],obs:=[(1,tl0),(3,tl3)],tk:=[4],keep:=[(0,[1]),(1,[1,3]),(2,[2])] }
def F27:FA:= { n:=114,sh:=[y1,y15,vs,vi,vl,vj,y27,y15,vi,vb,vb, .one (.ptr 1 1),vi,vs,vb,vb,vb,y25,vs,vb,vb,y5,vl,vs,vs,vs,vb,vb,y5,vl,vs,vs,vs,vb,vb,y5,vl,vi,vi,y5,vl,vi,vl,vs,vs,vs,y5,vl,vi,y2,y1,vs,vs,vs,vb,vb,y5,vl,y2,y1,vs,vs,vs,y25,vs,vs,vs,y5,vl,y2,y1,vs,vs,vs,vb,vb,y25,vs,vs,y5,vl,vs,vs,vs,y30,vl,vi,vi,vb,y7,y10,vl,y27,y1,vs,vs, .one (.ptr 6 5),y1,vs,vs,vl,vl,vi,y5,vl,y2,y1,vs,vs,vs,vl,vs,vs,vs],obs:=[(1,tl0),(6,tl1)],tk:=[8,12,18,22,29,47,48,64,68,77,80,85,87,91,93,97,104,110],dp:=[100,101],keep:=[(0,[1]),(1,[1,8]),(2,[1,8,9]),(3,[2]),(4,[1,8,14]),(5,[1,8,14]),(6,[2]),(7,[1,8,19]),(8,[2]),(9,[1,8,26]),(10,[2]),(11,[1,8,33]),(12,[1,3]),(13,[2]),(14,[1,8,54]),(15,[2]),(16,[1,74]),(17,[2]),(18,[1,4]),(19,[1,4,85,86,87]),(20,[1,4,85,86,87,88]),(21,[1,4,6,85,86,87]),(22,[1,4,85,86,87]),(23,[1,4,85,86,87]),(24,[2])] }
def F30:FA:= { n:=32,sh:=[vl,vj, .one (.ptr 31 0),vi,vi,vl,vi,vi,vi,vl,vi,vb,vb,vi,vb,vb,vi,vi,vi,vi,vl,vi, .one (.cp [.int .u8 0]),vy,vi,vi,vi,vi,vl,vi, .one (.ag tl2), .one (.ptr 31 0)],obs:=[(31,tl2)],tk:=[12,16,18,28,29],keep:=[(0,[0]),(1,[0,3]),(2,[0,3,4]),(3,[0,3,4,15]),(4,[0,3,4]),(5,[0,3,4]),(6,[2])],n0:=some 31 }
def F31:FA:= { n:=13,sh:=[y0,vj,y3,y4,y0,vl,y1,y0,vb,y0,y1,y1,y1],obs:=[(2,tl0),(3,tl0),(1000000,tl2)],tk:=[9,10,12],dp:=[5],fz:=[5,10],keep:=[(0,[0,2]),(1,[0,2,3]),(2,[0,2,3,8]),(3,[2,3]),(4,[2])] }
def F32:FA:= { n:=31,sh:=[y0,vi,vj,vj,vi,vi,vi,vi,vi,vb,vi,vb,y0,vi,vi,vi,y0,vi,y0,vi,y0,vi,vi,vi,vi,vi,vi,vi,vi,vi,vi],obs:=[(1000000,tl2)],tk:=[12,14,20,22,24,27,29],keep:=[(0,[0,1]),(1,[0,1,9]),(2,[4]),(3,[0,1,11]),(4,[4]),(5,[0,1,5]),(6,[0,1,5,6]),(7,[1,5,6,7]),(8,[4])] }
def F33:FA:= { n:=57,sh:=[y1,y15,y3,y4,vi,vi,y1,vl,y14,vl,y11,vi,y5,vl,vi,vb,vi,vi,y14,vl,y5,vl,vi,y2,y1,y1,vl,vl,y14,vi,y30,vl,vi,vb,vi,vi,y11,vl,y30,vl,vi,y7,y2,y1,y1,y30,vl,vi,y7,y2,y1,y1,y10,vl,vl,y11,y1],obs:=[(1,tl0),(2,tl0),(3,tl0)],tk:=[16,19,34,37,56],dp:=[7,9,26,27,53,54],keep:=[(0,[1,2]),(1,[1,2,3]),(2,[1,2,3]),(3,[1,2,3]),(4,[1,2,3,4]),(5,[1,2,3,4,15]),(6,[1,2,3,4]),(7,[1,2,3,4]),(8,[1,2,3,5]),(9,[1,2,3,5,33]),(10,[1,2,3,5]),(11,[1,2,3,5]),(12,[2])] }
def F34:FA:= { n:=74,sh:=[y0,y1,vj,y4,y6,y28,vi,y17,y1,y1,y0,vi,vb,vb,y0,vi,y4,vb,vb,y0,vl,vi,y33,vb,vb,y0,vl,vs,y32,vb,vb,y14,vl,y1,vl,vl,y14,vb,vb,y1,y1,y11,vl,y1,y1,y10,vl,vl,y11,vb,vb,vi,vb,vi,vi,y1,y1,vl,y1,vb,vb,y11,vl,vi,vb,y11, .one (.al (.oc 3 4) []),y1,y1,vl,y1,y34,y34,y1],obs:=[(3,tl0),(4,tl0),(5,tl0),(7,tl0),(1000000,tl2)],al:=[66],tk:=[8,14,19,25,32,42,44,53,55,56,73],dp:=[20,26,34,35,46,47,57,69],fz:=[20,26],keep:=[(0,[0,3,4]),(1,[0,3,4]),(2,[0,3,4,11]),(3,[0,3,4,11,12]),(4,[3,4]),(5,[0,3,4,11,17]),(6,[3,4]),(7,[0,3,4,11,23]),(8,[3,4]),(9,[3,4,11,29]),(10,[3,4]),(11,[3,4,11,37]),(12,[3,4,5]),(13,[3,4]),(14,[3,4,11,49]),(15,[3,4,6]),(16,[3,4,6,52]),(17,[3,4,6]),(18,[3,4,6,7]),(19,[3,4,6]),(20,[3,4,59]),(21,[3,4,64]),(22,[3,4]),(23,[4])] }
def F35:FA:= { n:=32,sh:=[vl,vl, .one (.fn 13 []),vj,vj,vj,vb,vi,y16, .one (.ptr 9 0),vl,vi,vl,vi,vb,vl,vi,vi,vb,vi,y2,y1,vl,vi,y2,y1, .one (.fn 13 []),y1,y1,vb,vb,vi],obs:=[(8,tl0),(9,tl0)],tk:=[15,17,23,27,28],keep:=[(0,[0,1,2]),(1,[0,1,2,14]),(2,[6]),(3,[1,2,15,16,17]),(4,[1,2,15,16,17,18]),(5,[1,2,7,8,15,16,17]),(6,[1,2,8,9,15,16,17]),(7,[1,2,15,16,17,30]),(8,[6]),(9,[1,2,15,16,17]),(10,[6])] }
def F36:FA:= { n:=32,sh:=[vl,vl, .one (.fn 37 []),vj,vj,vj,vb,vi,y16, .one (.ptr 9 0),vl,vi,vl,vi,vb,vl,vi,vi,vb,vi,y7,y10,vl,vi,y7,y10, .one (.fn 37 []),y10,y10,vb,vb,vi],obs:=[(8,tl1),(9,tl1)],tk:=[15,17,23,27,28],keep:=[(0,[0,1,2]),(1,[0,1,2,14]),(2,[6]),(3,[1,2,15,16,17]),(4,[1,2,15,16,17,18]),(5,[1,2,7,8,15,16,17]),(6,[1,2,8,9,15,16,17]),(7,[1,2,15,16,17,30]),(8,[6]),(9,[1,2,15,16,17]),(10,[6])] }
def F37:FA:= { n:=17,sh:=[y10,y10,y3,y4,vb,y3,y1,y4,y1,vb,vb, .one (.ptr 2 5),y1, .one (.ptr 3 5),y1,vb,vb],obs:=[(2,tl1),(3,tl1)],tk:=[6,8,10,12,14],keep:=[(0,[2,3]),(1,[4])] }
def F38:FA:= { n:=89,sh:=[y1,vb,vi,vi,y6,vj,vj,vj,vi,vi,vi,vi,vb,vb,vi,vb,vb,vb,y1,vb,vb,vb,vb,vi,vi,vi,y21,vl,vi,vb,vb,vi,vb,vb,vi,vi,y21,vl,vi,y2,y1,vb,vi,vi,vi,vi,vi,y13,vl,vi,vb,vb,vi,vb,vb,vi,vi,y13,vl,vi,y7,y2,y1,vl,vb,vb,y13,vl,vi,y7,y2,y1,vi,vi,vi,vi,vi,vb,y13,vl,vi,y7,y2,y1,vi,vi,vi,vi,vi],obs:=[(4,tl0)],tk:=[13,17,23,30,34,44,51,55,74,86,88],keep:=[(0,[1,2,3,4]),(1,[1,2,3,4,22]),(2,[8]),(3,[1,2,3,4]),(4,[1,2,3,4,9]),(5,[1,2,3,4,9,33]),(6,[1,2,3,4,9]),(7,[1,2,3,4,9]),(8,[2,3,4,10]),(9,[2,3,4,10,54]),(10,[2,3,4,10]),(11,[2,3,4,10,65]),(12,[8]),(13,[2,3,4,10]),(14,[2,3,4,10,77]),(15,[2,3,4,10]),(16,[8])] }
def F44:FA:= { n:=0,sh:=[],obs:=[],lb:=some ([[[.F]],[[.S]]],[[.S]],false) }
def F51:FA:= { n:=105,sh:=[y0,y1,vi,vj,y6,vj,vb,vj,y16,vj,y31,y0,y0,y0,vi,vi,y0,y0,vi,vb,vb,y0,y0,y0,vi,vb,vb,vb,y6,vi, .one (.ptr 4 1),vi,y22,vs,y21,vl,vi,vb,vb,vb,vb,y6,vi,vb,vb,y22,vs,vb,vb,vb,y6,vi,vb,y13,vl,vi,vb,vb,vb,y13,vl,vi,vb,vb,y21,vl,vi,vi,vb,y2,y1,y0,y1,vi,vi,vb,vb,vi,y13,vl,vi,vi,vb,y7,y10,y0,y0,y9,y0,y31,y1,vi,vi,vb,vb,vb,y0, .one (.ptr 10 5),y1,vi,vi,vb,vb,vb,vi],obs:=[(4,tl0),(8,tl0),(10,tl1),(1000000,tl3)],tk:=[14,20,27,31,40,44,46,51,58,65,67,72,79,81,90,95,98],keep:=[(0,[0,2,4]),(1,[0,2,4]),(2,[0,2,4,49]),(3,[6]),(4,[0,2,4,63]),(5,[6]),(6,[0,2,4,65,66,67]),(7,[0,2,4,65,66,67,68]),(8,[0,2,4,8,65,66,67]),(9,[0,2,4,65,66,67,76]),(10,[6]),(11,[0,2,4,65,66,67]),(12,[0,2,79,80,81]),(13,[0,2,79,80,81,82]),(14,[0,2,10,79,80,81]),(15,[0,2,10,79,80,81]),(16,[0,2,79,80,81,103]),(17,[6]),(18,[0,2,79,80,81]),(19,[6])] }
def F52:FA:= { n:=0,sh:=[],obs:=[],lb:=some ([[[.S]]],[[.S]],false) }
def F53:FA:= { n:=20,sh:=[vl,vj,vs,vl,vj,y28,vl,vi,vi,vb,y2,y1,vl,y1,vs,vl,vl,vi,vl,vs],obs:=[(5,tl0)],tk:=[6,8,12,13,18],dp:=[15,16],keep:=[(0,[0]),(1,[0,3]),(2,[3,6,7,8]),(3,[3,6,7,8,9]),(4,[3,5,6,7,8]),(5,[3,6,7,8]),(6,[3,6,7,8]),(7,[2])] }
def F55:FA:= { n:=14,sh:=[y0,vl,vj,vj,y6,y28,y0,vl,y1,y1,vb,vb,y1,y1],obs:=[(4,tl0),(5,tl0),(1000000,tl2)],tk:=[6,7,13],keep:=[(0,[0,1,4]),(1,[4,5]),(2,[4,5,11]),(3,[4]),(4,[4])] }
def F56:FA:= { n:=9,sh:=[y0,vi,vj,vj,vb,y0,vi,vi,vb],obs:=[(1000000,tl2)],tk:=[5,6],keep:=[(0,[0,1]),(1,[4])] }
def F57:FA:= { n:=58,sh:=[y0,vj,vi,vi,y0,y0,y0,y23,vi,vi,vi,y0,y23,y0,y0,y23,vi,vi,y0,y0,y23,vi,vi,vi,vi,y0,y0,y9,vi,y0,y0,y0,vl,vi,vb,vi,y0,y0,y0,vl,y0,y0,y9,vi, .one (.cp [.int .u8 0]),vy,vi,vi,vi,y0,y0,y0,y9,vi,vi,y0,y9,vi],obs:=[(1000000,tl2)],tk:=[8,35,50,53,57],keep:=[(0,[0]),(1,[0]),(2,[0,3]),(3,[0,3,34]),(4,[0,3]),(5,[3]),(6,[2])] }
def F58:FA:= { n:=12,sh:=[y0,vl,vj,vj,vi,vl,y0,vl,vi,vi, .one (.cp [.int .i64 0]),vi],obs:=[(1000000,tl2)],tk:=[6,7],keep:=[(0,[0,1]),(1,[4])] }
def F59:FA:= { n:=12,sh:=[y0,vl,vj,vj,vs,vl,y0,vl,vi,vi,y19,vs],obs:=[(1000000,tl2)],tk:=[6,7],keep:=[(0,[0,1]),(1,[4])] }
def F60:FA:= { n:=5,sh:=[vi,vj,y3,vi,y1],obs:=[(2,tl0)],tk:=[3],keep:=[(0,[0,2]),(1,[2])] }
def F61:FA:= { n:=134,sh:=[y1,vb,y3,vj,vb,vi,y24,vl,vi,y3,vi,vb,vb,y18,vl,vi,vb,vb,vb,y3,vi,vb,vb,y29,vi,vb,vb,vb,y3,vi,vb,vb,y29,vi,vb,vb,y12,vs,vb,vb,vb,vi,vb,vb,vb,vb,y12,vs,vb,vb,vi,vb,vb,vb,vb,y12,vs,vb,vb,vi,vb,vb,vb,vb,vb,y12,vs,vb,vb,vb,vb,vb,vb,y12,vs,vb,vb,vi,vb,vb,vb,vb,y12,vs,vb,vb,vi,vb,vb,vb,vb,vb,vb,vb,y12,vs,vb,vb,vb,vi,vb,vb,vb,vb,vb,vb,vb,y12,vs,vb,vb,vb,vi,vb,vb,vb,vb,vb,vb,vb,y12,vs,vb,vb,vb,vi,vb,vb,vb,y18,vl,vi,vb,vb],obs:=[(2,tl0)],tk:=[7,12,18,22,29,33,35,37,40,41,47,49,50,58,59,62,63,64,66,74,76,77,83,85,86,91,93,95,98,99,104,106,108,111,112,117,119,121,124,125,128,130],keep:=[(0,[1,2]),(1,[1,2,5]),(2,[1,2,5,27]),(3,[4]),(4,[1,2,5,29]),(5,[1,2,5,29,30]),(6,[4]),(7,[1,2,5,29,44]),(8,[4]),(9,[1,2,5,29,53]),(10,[4]),(11,[1,2,5,29,70]),(12,[1,2,5,29,70]),(13,[4]),(14,[1,2,5,29,80]),(15,[4]),(16,[1,2,5,29,89]),(17,[4]),(18,[1,2,5,29,102]),(19,[4]),(20,[1,2,5,115]),(21,[4]),(22,[4])] }
def F62:FA:= { n:=18,sh:=[vl,vj,vb,vi,vi,vl,vi,vb,vi,vi,vl,vi,vl,vl,vi,y19,vs,vb],obs:=[],tk:=[8],keep:=[(0,[0]),(1,[0,3]),(2,[0,3,7]),(3,[0,3]),(4,[0,3,17]),(5,[2]),(6,[2])] }
def F63:FA:= { n:=34,sh:=[y1,y15,vl,vl,vi,vl,y15,vi,vb,y25,vs,vb,vl,y25,vs,vl,vl,vl,vi,y5,vl,vi,vb,vi,vi,vl,y5,vl,vi,y2,y1,vl,vl,vl],obs:=[(1,tl0)],tk:=[7,12,14,17,23,25,33],dp:=[5,15,16,32],keep:=[(0,[1]),(1,[1,3]),(2,[1,3,8]),(3,[1,3,11]),(4,[3]),(5,[2]),(6,[1,3,4]),(7,[1,3,4,22]),(8,[1,3,4]),(9,[1,3,4]),(10,[2])] }
def F71:FA:= { n:=107,sh:=[vi,vi,vs,vi,vj,vj,vj,vj,vb,vi,vb,vb,vi,vb,vb,vs,vb,vb,vb,vi,vb,vb,vb,vb,vi,vb,vb,vs,vb,vb,vb,vi,vb,vb,vb,vb,vi,vb,vb,vs,vb,vb,vb,vi,vb,vb,vb,vb,vb,vi,vb,vb,vs,vb,vb,vb,vi,vb,vb,vb,vb,vi,vb,vb,vs,vb,vb,vb,vi,vb,vb,vb,vb,vi,vb,vb,vs,vb,vb,vb,vi,vb,vb,vb,vb,vi,vb,vb,vs,vb,vb,vb,vi,vb,vb,vb,vb,vi,vb,vb,vs,vb,vb,vb,vi,vb,vb],obs:=[],tk:=[9,12,14,15,18,19,24,26,27,30,31,36,38,39,42,43,49,51,52,55,56,61,63,64,67,68,73,75,76,79,80,85,87,88,91,92,97,99,100,103,104],keep:=[(0,[0,1,2,3]),(1,[1,2,3,9]),(2,[1,2,3,9,10]),(3,[8]),(4,[1,2,3,9,22]),(5,[8]),(6,[1,2,3,9,34]),(7,[8]),(8,[1,2,3,9,46]),(9,[1,2,3,9,46]),(10,[8]),(11,[1,2,3,9,59]),(12,[8]),(13,[1,2,3,9,71]),(14,[8]),(15,[1,2,3,9,83]),(16,[8]),(17,[1,2,3,95]),(18,[8]),(19,[8])] }
def F72:FA:= { n:=89,sh:=[y0,y1,vi,vj,y6,vj,vb,vj,y16,y0,y0,y0,vi,vi,y0,y0,vi,vb,vb,y0,y0,y0,vi,vb,vb,vb,y6,vi,vb,vb,vb,y13,vl,vi,vb,vb,vb,y6,vi, .one (.ptr 4 1),vi,y22,vs,y21,vl,vi,vb,vb,vb,y6,vi,vb,vb,y22,vs,vb,vb,y0,y0,y9,vl,y22,vs,vb,y0,y0,y0,y9,vl,y22,vs,vl,vl,y0,y9,y21,vl,vi,vi,vb,y2,y1,y0,y1,vi,vi,vb,vb,vi],obs:=[(4,tl0),(8,tl0),(1000000,tl3)],tk:=[12,18,25,30,32,36,40,50,52,68,70,76,78,83],dp:=[71],keep:=[(0,[0,2,4]),(1,[0,2,4]),(2,[0,2,4,48]),(3,[6]),(4,[0,2,4,56]),(5,[0,2,4,63]),(6,[6]),(7,[0,2,4]),(8,[0,2,76,77,78]),(9,[0,2,76,77,78,79]),(10,[0,2,8,76,77,78]),(11,[0,2,76,77,78,87]),(12,[6]),(13,[0,2,76,77,78]),(14,[6])] }
def F74:FA:= { n:=184,sh:=[y0,vi,vl,vj,vj,vj,y27,vi,y16,vi,y31,vi,vi, .one (.ptr 13 0),vi, .one (.ptr 15 0), .one (.ptr 16 0),y0,vi,vi,vb,y0,vi,vi,vb,vb,y0,vl,vi,y1,vb,vb,y0,vl,vs,y1,vb,vb,vb,vb,vl,vi,vb,vl,y0,vl,vi,vi,y19,vs,y1,y0,vi,y1,vb,vb,vb,y0,vl,vs,y0,vi,vi,vl,y1,y0,vi,vi,vl,y1,vl,y1,vb,vb,y0,vl,vi,y1,y0,vi,vi,vb,vi,vi,y20,vl,y0,vi,vi,vl,y1,vl,vl,y20,y1,vb,vb,y0,vi,vi,vl,y1,y0,vi,vi,vl,y1,vl,y1,vl,y1,vb,vb,y0,vl,vs,y1, .one (.ptr 10 2),vs,vb,vi,vi,vb,vi,vi, .one (.ptr 10 3),vl,y0,vi,vi,vl,y1,vl,vl, .one (.ptr 10 3),y1,y0,vi,vi,vl,y1,vl,y1,y0,vi,vi,vi,vb,vi,vi,vl,y0,y1,y26,vl,y1,y0,vi,vi,vl,vl,vl,vl,vl,y1,y10,vl,vl,y26,y0,vb,y26,vl,y1,y0,vi,vi,vl,y1,y10,vl,vl,y26,y1],obs:=[(6,tl0),(8,tl0),(10,tl0),(13,tl0),(15,[.sl []]),(16,tl0),(1000000,tl2)],tk:=[23,26,32,44,45,51,65,66,68,82,85,94,102,103,105,123,126,135,148,154,155,162,172,174,175,177,183],dp:=[27,33,58,70,75,91,92,107,109,114,132,133,141,150,159,161,163,166,167,180,181],fz:=[27,33,58,75,114,163],keep:=[(0,[0,1,2,6]),(1,[0,1,2,6,7]),(2,[0,1,2,6,7,20]),(3,[0,1,2,6,7]),(4,[0,1,2,6,23]),(5,[0,1,2,6,23,24]),(6,[6]),(7,[0,1,2,6,23,30]),(8,[6]),(9,[0,1,2,6,23,36]),(10,[0,1,2,6,23,36]),(11,[0,1,2,6,23,36]),(12,[0,2,6,42]),(13,[6]),(14,[6]),(15,[0,1,2,6,23,54]),(16,[0,1,2,6,23,54]),(17,[6]),(18,[0,1,2,6,23,72]),(19,[0,1,2,6,8]),(20,[0,1,2,6,8,9]),(21,[0,1,2,6,8,9,81]),(22,[0,1,2,6,8,9]),(23,[0,1,2,6,8,9]),(24,[6]),(25,[0,1,2,6,23,95]),(26,[6]),(27,[0,1,2,6,111]),(28,[0,1,2,6,10]),(29,[0,1,2,6,10,11]),(30,[0,1,2,6,10,11,119]),(31,[0,1,2,6,10,11]),(32,[0,1,2,6,10,11,12]),(33,[0,1,2,6,10,11,12,122]),(34,[0,1,2,6,10,11,12]),(35,[0,1,2,6,10,11,12]),(36,[6]),(37,[0,1,2,6,13]),(38,[0,1,2,6,13,14]),(39,[0,1,2,6,13,14,147]),(40,[0,1,2,6,13,14]),(41,[0,1,2,6,13,14,15]),(42,[0,1,2,6,13,14,15,16]),(43,[0,1,2,6,13,14]),(44,[0,1,2,6,13,170]),(45,[6,13]),(46,[6])] }
def F75:FA:= { n:=15,sh:=[vi,vi,vi,vj,vj,vj,vb,vi,vi,vb,vb,vi,vi,vb,vb],obs:=[],tk:=[8,10,11,12],keep:=[(0,[0,1,2]),(1,[6])] }
def F76:FA:= { n:=10,sh:=[vs,vj,vb,vs,vb,vb,vs,vb,vb,vb],obs:=[],tk:=[5,6],keep:=[(0,[0]),(1,[2])] }
def F77:FA:= { n:=36,sh:=[vs,vj,vb,vi,vi,vs,vi,vb,vi,vi,vs,vi,vy,vb,vb,vb,vi,vb,vb,vs,vi,vy,vb,vb,vb,vs,vi,vy,vb,vb,vb,vb,vb,vs,vi,vb],obs:=[],tk:=[8,15,18,24,33],keep:=[(0,[0]),(1,[0,3]),(2,[0,3,7]),(3,[0,3]),(4,[0,3,32]),(5,[2]),(6,[2])] }
def F78:FA:= { n:=21,sh:=[vs,vj,vb,vs,vb,vb,vs,vb,vb,vb,vs,vb,vb,vb,vs,vb,vb,vb,vs,vb,vb],obs:=[],tk:=[5,9,13,17,18],keep:=[(0,[0]),(1,[2])] }
def F79:FA:= { n:=18,sh:=[vl,vs,vj,vj,vb,vi,vi,vl,vi,vb,vi,vi,vl,vi,y19,vs,vs,vb],obs:=[],tk:=[10],keep:=[(0,[0,1]),(1,[0,1,5]),(2,[0,1,5,9]),(3,[0,1,5]),(4,[0,1,5,17]),(5,[4]),(6,[4])] }
def F82:FA:= { n:=23,sh:=[vs,vj,vb,vi,vi,vs,vi,vb,vi,vi,vs,vi,vy,vb,vb,vs,vi,vb,vb,vs,vy,vb,vb],obs:=[],tk:=[8,18,19],keep:=[(0,[0]),(1,[0,3]),(2,[0,3,7]),(3,[0,3]),(4,[0,3,14]),(5,[2]),(6,[2])] }
def F83:FA:= { n:=17,sh:=[vs,vj,vb,vs,vb,vb,vs,vb,vb,vb,vs,vb,vb,vb,vs,vb,vb],obs:=[],tk:=[5,9,13,14],keep:=[(0,[0]),(1,[2])] }
def F87:FA:= { n:=15,sh:=[vi,vi,vi,vj,vj,vj,vb,vi,vi,vb,vb,vi,vi,vb,vb],obs:=[],tk:=[8,10,11,12],keep:=[(0,[0,1,2]),(1,[6])] }
def F88:FA:= { n:=10,sh:=[vs,vj,vb,vs,vb,vb,vb,vb,vb,vb],obs:=[],tk:=[3],keep:=[(0,[0]),(1,[3]),(2,[3,4]),(3,[3,4]),(4,[3,4]),(5,[3,4]),(6,[4]),(7,[2]),(8,[2])] }
def F89:FA:= { n:=9,sh:=[vl,vs,vj,vj,vb,vl,vs,vi,vb],obs:=[],tk:=[5,6],keep:=[(0,[0,1]),(1,[4])] }
def F91:FA:= { n:=5,sh:=[vs,vj,y3,vs,y1],obs:=[(2,tl0)],tk:=[3],keep:=[(0,[0,2]),(1,[2])] }
def F92:FA:= { n:=83,sh:=[y0,vi,y8,vj,vj,vj,y27,vs,y16,vi,vi,y0,vi,vb,vb,y0,vi,y1,vb,vb,y0,vl,vs,y1,vb,vb,y1,vb,vb,vb,vb,y0,vl,vs,y8,y8,vl,vs,vb,y1,y8,y8,y8,vl,vs,vl,vl,y8,vs,y1,y0,vl,vi,y1,y0,vi,y16,vi,vb,vi,vi,vb,vi,vi,vi,vb,y20,vl,y0,vi,vi,y8,y1,vl,vl,y20,y20,vl,y1,vl,vl,y20,y1],obs:=[(6,tl0),(8,tl0),(1000000,tl2),(1000001,[.sl []])],tk:=[15,20,31,41,43,48,62,67,77,82],dp:=[21,32,45,51,73,74,79,80],fz:=[21,32,51],keep:=[(0,[0,1,2,6]),(1,[0,1,2,6,12]),(2,[0,1,2,6,12,13]),(3,[6]),(4,[0,1,2,6,12,18]),(5,[6]),(6,[0,1,2,6,12,24]),(7,[6]),(8,[0,1,2,6,12,27]),(9,[0,1,2,6,12,27]),(10,[0,1,2,6,27]),(11,[2,6,7]),(12,[2,6,7,38]),(13,[6]),(14,[6,7]),(15,[6]),(16,[0,1,2,6,8]),(17,[0,1,2,6,8,9]),(18,[0,1,2,6,8,9,58]),(19,[0,1,2,6,8,9]),(20,[0,1,2,6,8,9,10]),(21,[0,1,2,6,8,9,10,61]),(22,[0,1,2,6,8,9,10]),(23,[0,1,2,6,8,9,10,65]),(24,[0,1,2,6,8,9,10]),(25,[0,1,2,6,8,9,10]),(26,[6])] }
def F93:FA:= { n:=36,sh:=[vs,vj,vb,vi,vi,vb,vi,vs,vi,vb,vi,vi,vs,vi,vy,vi,vi,vb,vb,vb,vb,vi,vb,vb,vi,vb,vb,vb,vi,vb,vb,vb,vb,vs,vi,vb],obs:=[],tk:=[10,18,20,23,27,28,33],keep:=[(0,[0]),(1,[0,3]),(2,[0,3,9]),(3,[0,3]),(4,[0,3,4]),(5,[0,3,4,5]),(6,[0,3,32]),(7,[2]),(8,[2])] }
def F94:FA:= { n:=13,sh:=[vs,vj,vb,vs,vb,vb,vs,vb,vb,vb,vs,vb,vb],obs:=[],tk:=[5,9,10],keep:=[(0,[0]),(1,[2])] }
def F95:FA:= { n:=10,sh:=[vy,vj,vb,vy,vi,vb,vb,vy,vb,vb],obs:=[],tk:=[6,7],keep:=[(0,[0]),(1,[2])] }
def F96:FA:= { n:=6,sh:=[vy,vj,vb,vy,vi,vb],obs:=[],tk:=[3],keep:=[(0,[0]),(1,[2])] }
def F97:FA:= { n:=6,sh:=[vy,vj,vb,vy,vi,vb],obs:=[],tk:=[3],keep:=[(0,[0]),(1,[2])] }
def F98:FA:= { n:=13,sh:=[vy,vj,vb,vy,vb,vb,vy,vb,vb,vb,vy,vb,vb],obs:=[],tk:=[5,9,10],keep:=[(0,[0]),(1,[2])] }
def F99:FA:= { n:=13,sh:=[vy,vj,vb,vy,vb,vb,vy,vb,vb,vb,vy,vb,vb],obs:=[],tk:=[5,9,10],keep:=[(0,[0]),(1,[2])] }
def F100:FA:= { n:=35,sh:=[vs,vj,vb,vi,vi,vs,vi,vb,vi,vi,vs,vi,vy,vb,vb,vb,vi,vb,vb,vs,vi,vy,vb,vb,vb,vs,vi,vy,vb,vb,vb,vb,vs,vi,vb],obs:=[],tk:=[8,15,18,24,32],keep:=[(0,[0]),(1,[0,3]),(2,[0,3,7]),(3,[0,3]),(4,[0,3,31]),(5,[2]),(6,[2])] }
def F102:FA:= { n:=19,sh:=[vl,vs,vj,vj,vi,vi,vl,vi,vi,vb,vi,vs,vl,vi,y19,vs,vb,vi,vi],obs:=[],tk:=[8,17],keep:=[(0,[0,1]),(1,[0,1,7,8]),(2,[0,1,7,8,9]),(3,[0,1,5,7,8]),(4,[0,1,5,7,8,16]),(5,[4]),(6,[0,1,7,8]),(7,[4])] }
def F107:FA:= { n:=9,sh:=[vy,vj,vb,vy,vb,vb,vy,vb,vb],obs:=[],tk:=[5,6],keep:=[(0,[0]),(1,[2])] }
def F108:FA:= { n:=9,sh:=[vy,vj,vb,vy,vb,vb,vy,vb,vb],obs:=[],tk:=[5,6],keep:=[(0,[0]),(1,[2])] }
def An:FuncId→FA
  | 4=>F4
  | 9=>F9
  | 11=>F11
  | 12=>F12
  | 13=>F13
  | 14=>F14
  | 15=>F15
  | 26=>F26
  | 27=>F27
  | 30=>F30
  | 31=>F31
  | 32=>F32
  | 33=>F33
  | 34=>F34
  | 35=>F35
  | 36=>F36
  | 37=>F37
  | 38=>F38
  | 44=>F44
  | 51=>F51
  | 52=>F52
  | 53=>F53
  | 55=>F55
  | 56=>F56
  | 57=>F57
  | 58=>F58
  | 59=>F59
  | 60=>F60
  | 61=>F61
  | 62=>F62
  | 63=>F63
  | 71=>F71
  | 72=>F72
  | 74=>F74
  | 75=>F75
  | 76=>F76
  | 77=>F77
  | 78=>F78
  | 79=>F79
  | 82=>F82
  | 83=>F83
  | 87=>F87
  | 88=>F88
  | 89=>F89
  | 91=>F91
  | 92=>F92
  | 93=>F93
  | 94=>F94
  | 95=>F95
  | 96=>F96
  | 97=>F97
  | 98=>F98
  | 99=>F99
  | 100=>F100
  | 102=>F102
  | 107=>F107
  | 108=>F108
  | _=> { n:=0,sh:=[],obs:=[] }
abbrev sg4:Sg:= { bi:=x6,bo:=x0,np:=1,ext:=false }
abbrev sg9:Sg:= { bi:=x3,bo:=x0,np:=1,ext:=false }
abbrev sg11:Sg:= { bi:=x6,bo:=x0,np:=1,ext:=false }
abbrev sg12:Sg:= { bi:=x6,bo:=⟨[(0,[[.S, .S, .S, .F, .F],[.S, .S, .S, .U 5, .U 10]])],[]⟩,np:=1 }
abbrev sg13:Sg:= { bi:=x8,bo:=x0,np:=2,ext:=false }
abbrev sg14:Sg:= { bi:=x8,bo:=x0,np:=2,ext:=false }
abbrev sg15:Sg:= { bi:=x3,bo:=x0,np:=1,ext:=false }
abbrev sg26:Sg:= { bi:=x3,bo:=x0,np:=1,ext:=false }
abbrev sg27:Sg:= { bi:=x3,bo:=x0,np:=1,ext:=false }
abbrev sg30:Sg:= { bi:=x6,bo:=⟨[(0,[[.S]])],[(0,[.F, .S, .S])]⟩,np:=1 }
abbrev sg31:Sg:= { bi:=x1,bo:=x2,np:=1,no:=1 }
abbrev sg32:Sg:= { bi:=x9,bo:=x1,np:=2,no:=1 }
abbrev sg33:Sg:= { bi:=x3,bo:=⟨[(0,[[.S, .S, .S, .U 5, .U 10]])],[]⟩,np:=1,ext:=false }
abbrev sg34:Sg:= { bi:=⟨[(0,[[.S]]),(1,[[.S, .S, .S, .F, .F]])],[(1000000,[.F, .S, .S])]⟩,bo:=x2,np:=2,no:=1 }
abbrev sg35:Sg:= { bi:=x11,bo:=x0,np:=3,ext:=false }
abbrev sg36:Sg:= { bi:=x11,bo:=x0,np:=3,ext:=false }
abbrev sg37:Sg:= { bi:=⟨[(0,[[.S, .S, .S, .F, .F, .S, .S, .S, .F, .F]]),(1,[[.S, .S, .S, .F, .F, .S, .S, .S, .F, .F]])],[]⟩,bo:=x0,np:=2,ext:=false }
abbrev sg38:Sg:= { bi:=⟨[(0,[[.S, .S, .S, .F, .F]]),(1,[[.S]]),(2,[[.S]]),(3,[[.S]])],[]⟩,bo:=x0,np:=4,ext:=false }
abbrev sg44:Sg:= { bi:=x5,bo:=x0,np:=2,ext:=false }
abbrev sg51:Sg:= { bi:=x7,bo:=x12,np:=3,no:=1 }
abbrev sg52:Sg:= { bi:=x0,bo:=x0,np:=1,ext:=false }
abbrev sg53:Sg:= { bi:=x6,bo:=x0,np:=1,ext:=false }
abbrev sg55:Sg:= { bi:=x4,bo:=x2,np:=2,no:=1 }
abbrev sg56:Sg:= { bi:=x9,bo:=x1,np:=2,no:=1 }
abbrev sg57:Sg:= { bi:=x1,bo:=x1,np:=1,no:=1 }
abbrev sg58:Sg:= { bi:=x4,bo:=x1,np:=2,no:=1 }
abbrev sg59:Sg:= { bi:=x4,bo:=x1,np:=2,no:=1 }
abbrev sg60:Sg:= { bi:=x0,bo:=x13,np:=1,ext:=false }
abbrev sg61:Sg:= { bi:=⟨[(0,[[.S, .S, .S, .F, .F]]),(1,[[.S]])],[]⟩,bo:=x0,np:=2,ext:=false }
abbrev sg62:Sg:= { bi:=x6,bo:=x0,np:=1,ext:=false }
abbrev sg63:Sg:= { bi:=x3,bo:=⟨[(0,[[.U 1]])],[]⟩,np:=1,ext:=false }
abbrev sg71:Sg:= { bi:=⟨[(0,[[.S]]),(1,[[.S]]),(2,[[.S]]),(3,[[.S]])],[]⟩,bo:=x0,np:=4,ext:=false }
abbrev sg72:Sg:= { bi:=x7,bo:=x12,np:=3,no:=1 }
abbrev sg74:Sg:= { bi:=⟨[(0,[[.S]]),(1,[[.S]]),(2,[[.F]])],[(1000000,[.F, .S, .S])]⟩,bo:=x2,np:=3,no:=1 }
abbrev sg75:Sg:= { bi:=x10,bo:=x0,np:=3,ext:=false }
abbrev sg76:Sg:= { bi:=x0,bo:=x0,np:=1,ext:=false }
abbrev sg77:Sg:= { bi:=x0,bo:=x0,np:=1,ext:=false }
abbrev sg78:Sg:= { bi:=x0,bo:=x0,np:=1,ext:=false }
abbrev sg79:Sg:= { bi:=x5,bo:=x0,np:=2,ext:=false }
abbrev sg82:Sg:= { bi:=x0,bo:=x0,np:=1,ext:=false }
abbrev sg83:Sg:= { bi:=x0,bo:=x0,np:=1,ext:=false }
abbrev sg87:Sg:= { bi:=x10,bo:=x0,np:=3,ext:=false }
abbrev sg88:Sg:= { bi:=x0,bo:=x0,np:=1,ext:=false }
abbrev sg89:Sg:= { bi:=x5,bo:=x0,np:=2,ext:=false }
abbrev sg91:Sg:= { bi:=x0,bo:=x13,np:=1,ext:=false }
abbrev sg92:Sg:= { bi:=⟨[(0,[[.S]]),(1,[[.S]]),(2,[[.S]])],[(1000000,[.F, .S, .S]),(1000001,[.A 1])]⟩,bo:=⟨[(0,[[.S, .S, .S, .U 5, .N]])],[(1000000,[.F, .S, .S]),(1000001,[.A 1])]⟩,np:=3,no:=2 }
abbrev sg93:Sg:= { bi:=x0,bo:=x0,np:=1,ext:=false }
abbrev sg94:Sg:= { bi:=x0,bo:=x0,np:=1,ext:=false }
abbrev sg95:Sg:= { bi:=x0,bo:=x0,np:=1,ext:=false }
abbrev sg96:Sg:= { bi:=x0,bo:=x0,np:=1,ext:=false }
abbrev sg97:Sg:= { bi:=x0,bo:=x0,np:=1,ext:=false }
abbrev sg98:Sg:= { bi:=x0,bo:=x0,np:=1,ext:=false }
abbrev sg99:Sg:= { bi:=x0,bo:=x0,np:=1,ext:=false }
abbrev OS:Sg:= { bi:=x0,bo:=x0,np:=1,ext:=false }
abbrev OQ:Sg:= { bi:=x5,bo:=x0,np:=2,ext:=false }
abbrev OP:Sg:= { bi:=x0,bo:=x0,np:=1,ext:=false }
abbrev OO:Sg:= { bi:=x0,bo:=x0,np:=1,ext:=false }
def Sgs:FuncId→List Sg
  | 4=> [sg4]
  | 9=> [sg9]
  | 11=> [sg11]
  | 12=> [sg12]
  | 13=> [sg13]
  | 14=> [sg14]
  | 15=> [sg15]
  | 26=> [sg26]
  | 27=> [sg27]
  | 30=> [sg30]
  | 31=> [sg31]
  | 32=> [sg32]
  | 33=> [sg33]
  | 34=> [sg34]
  | 35=> [sg35]
  | 36=> [sg36]
  | 37=> [sg37]
  | 38=> [sg38]
  | 44=> [sg44]
  | 51=> [sg51]
  | 52=> [sg52]
  | 53=> [sg53]
  | 55=> [sg55]
  | 56=> [sg56]
  | 57=> [sg57]
  | 58=> [sg58]
  | 59=> [sg59]
  | 60=> [sg60]
  | 61=> [sg61]
  | 62=> [sg62]
  | 63=> [sg63]
  | 71=> [sg71]
  | 72=> [sg72]
  | 74=> [sg74]
  | 75=> [sg75]
  | 76=> [sg76]
  | 77=> [sg77]
  | 78=> [sg78]
  | 79=> [sg79]
  | 82=> [sg82]
  | 83=> [sg83]
  | 87=> [sg87]
  | 88=> [sg88]
  | 89=> [sg89]
  | 91=> [sg91]
  | 92=> [sg92]
  | 93=> [sg93]
  | 94=> [sg94]
  | 95=> [sg95]
  | 96=> [sg96]
  | 97=> [sg97]
  | 98=> [sg98]
  | 99=> [sg99]
  | 100=> [OS]
  | 102=> [OQ]
  | 107=> [OP]
  | 108=> [OO]
  | _=> []
end Go.Own
