/- What is told of the functions: shapes and kinds. No conditions. -/
import Derived.Test.YtloebajamceclaaProg
import Derived.KernelRfl
import Derived.WalkKit
import Derived.Lib.Walk
import Derived.Lib.SliceRun
import Derived.Deep.LoopGhost
import Derived.Deep.RegionLaw
import Derived.Shelf.RegionOpenPlain
import Derived.Lib.LazyBuf
import Derived.Deep.MidRow
import Derived.Deep.Upon
import Derived.Test.YtloebajamceclaaOwn4
set_option linter.unusedVariables false
set_option linter.unusedSimpArgs false
set_option linter.unnecessarySimpa false
namespace Go.Own
open Go Go.Proofs
def τ:TypeId→Option TI
  | 3=>some { size:=1,bytes:=8,zero:=[.int .i64 0],agg:=false,kind:= .int .i64 }
  | 4=>some { size:=1,bytes:=1,zero:=[.bool false],agg:=false,kind:= .bool }
  | 5=>some { size:=1,bytes:=1,zero:=[.int .u8 0],agg:=false,kind:= .int .u8 }
  | 9=>some { size:=1,bytes:=16,zero:=[.str []],agg:=false,kind:= .str }
  | 29=>some { size:=1,bytes:=24,zero:=[.sl []],agg:=false,kind:= .sl 31 }
  | 31=>some { size:=4,bytes:=56,zero:=[.int .i64 0, .int .i64 0, .str [], .sl []],agg:=true,kind:= .struct [(0,1,false),(1,1,false),(2,1,false),(3,1,false)] }
  | 34=>some { size:=1,bytes:=24,zero:=[.sl []],agg:=false,kind:= .sl 37 }
  | 35=>some { size:=1,bytes:=24,zero:=[.sl []],agg:=false,kind:= .sl 132 }
  | 37=>some { size:=5,bytes:=80,zero:=[.int .i64 0, .int .i64 0, .str [], .sl [], .sl []],agg:=true,kind:= .struct [(0,1,false),(1,1,false),(2,1,false),(3,1,false),(4,1,false)] }
  | 47=>some { size:=1,bytes:=24,zero:=[.sl []],agg:=false,kind:= .sl 5 }
  | 51=>some { size:=1,bytes:=24,zero:=[.sl []],agg:=false,kind:= .sl 107 }
  | 107=>some { size:=5,bytes:=72,zero:=[.str [], .int .i64 0, .int .i64 0, .str [], .sl []],agg:=true,kind:= .struct [(0,1,false),(1,4,true)] }
  | 115=>some { size:=1,bytes:=24,zero:=[.sl []],agg:=false,kind:= .sl 9 }
  | 132=>some { size:=10,bytes:=160,zero:=[.int .i64 0, .int .i64 0, .str [], .sl [], .sl [], .int .i64 0, .int .i64 0, .str [], .sl [], .sl []],agg:=true,kind:= .struct [(0,5,true),(5,5,true)] }
  | 136=>some { size:=3,bytes:=40,zero:=[.sl [], .int .i64 0, .int .i64 0],agg:=true,kind:= .struct [(0,1,false),(1,1,false),(2,1,false)] }
  | 144=>some { size:=1,bytes:=24,zero:=[.sl []],agg:=false,kind:= .sl 3 }
  | 147=>some { size:=2,bytes:=32,zero:=[.int .i64 0, .sl []],agg:=true,kind:= .struct [(0,1,false),(1,1,false)] }
  | _=>none
set_option maxRecDepth 100000 in
theorem OB:aX Try.prog τ:=by
  intro t i h; unfold τ at h; split at h<;>(try cases h)
  · exact⟨_,_,_,rfl,rfl,rfl,rfl,rfl,rfl,rfl,by decide,rfl,rfl,nofun⟩
  · exact⟨_,_,_,rfl,rfl,rfl,rfl,rfl,rfl,rfl,by decide,rfl,rfl,nofun⟩
  · exact⟨_,_,_,rfl,rfl,rfl,rfl,rfl,rfl,rfl,by decide,rfl,rfl,nofun⟩
  · exact⟨_,_,_,rfl,rfl,rfl,rfl,rfl,rfl,rfl,by decide,rfl,rfl,nofun⟩
  · exact⟨_,_,_,rfl,rfl,rfl,rfl,rfl,rfl,rfl,by decide,rfl,rfl,nofun⟩
  · refine⟨_,_,_,rfl,rfl,rfl,rfl,rfl,rfl,rfl,by decide,rfl,⟨_,rfl,rfl,fun j f hf=> ?_⟩,nofun⟩
    match j with
    | 0=>simp at hf; subst hf; exact⟨_,_,rfl,rfl,rfl,rfl,by decide,rfl,rfl⟩
    | 1=>simp at hf; subst hf; exact⟨_,_,rfl,rfl,rfl,rfl,by decide,rfl,rfl⟩
    | 2=>simp at hf; subst hf; exact⟨_,_,rfl,rfl,rfl,rfl,by decide,rfl,rfl⟩
    | 3=>simp at hf; subst hf; exact⟨_,_,rfl,rfl,rfl,rfl,by decide,rfl,rfl⟩
    | j+4=>simp at hf
  · exact⟨_,_,_,rfl,rfl,rfl,rfl,rfl,rfl,rfl,by decide,rfl,rfl,nofun⟩
  · exact⟨_,_,_,rfl,rfl,rfl,rfl,rfl,rfl,rfl,by decide,rfl,rfl,nofun⟩
  · refine⟨_,_,_,rfl,rfl,rfl,rfl,rfl,rfl,rfl,by decide,rfl,⟨_,rfl,rfl,fun j f hf=> ?_⟩,nofun⟩
    match j with
    | 0=>simp at hf; subst hf; exact⟨_,_,rfl,rfl,rfl,rfl,by decide,rfl,rfl⟩
    | 1=>simp at hf; subst hf; exact⟨_,_,rfl,rfl,rfl,rfl,by decide,rfl,rfl⟩
    | 2=>simp at hf; subst hf; exact⟨_,_,rfl,rfl,rfl,rfl,by decide,rfl,rfl⟩
    | 3=>simp at hf; subst hf; exact⟨_,_,rfl,rfl,rfl,rfl,by decide,rfl,rfl⟩
    | 4=>simp at hf; subst hf; exact⟨_,_,rfl,rfl,rfl,rfl,by decide,rfl,rfl⟩
    | j+5=>simp at hf
  · exact⟨_,_,_,rfl,rfl,rfl,rfl,rfl,rfl,rfl,by decide,rfl,rfl,nofun⟩
  · exact⟨_,_,_,rfl,rfl,rfl,rfl,rfl,rfl,rfl,by decide,rfl,rfl,nofun⟩
  · refine⟨_,_,_,rfl,rfl,rfl,rfl,rfl,rfl,rfl,by decide,rfl,⟨_,rfl,rfl,fun j f hf=> ?_⟩,nofun⟩
    match j with
    | 0=>simp at hf; subst hf; exact⟨_,_,rfl,rfl,rfl,rfl,by decide,rfl,rfl⟩
    | 1=>simp at hf; subst hf; exact⟨_,_,rfl,rfl,rfl,rfl,by decide,rfl,rfl⟩
    | j+2=>simp at hf
  · exact⟨_,_,_,rfl,rfl,rfl,rfl,rfl,rfl,rfl,by decide,rfl,rfl,nofun⟩
  · refine⟨_,_,_,rfl,rfl,rfl,rfl,rfl,rfl,rfl,by decide,rfl,⟨_,rfl,rfl,fun j f hf=> ?_⟩,nofun⟩
    match j with
    | 0=>simp at hf; subst hf; exact⟨_,_,rfl,rfl,rfl,rfl,by decide,rfl,rfl⟩
    | 1=>simp at hf; subst hf; exact⟨_,_,rfl,rfl,rfl,rfl,by decide,rfl,rfl⟩
    | j+2=>simp at hf
  · refine⟨_,_,_,rfl,rfl,rfl,rfl,rfl,rfl,rfl,by decide,rfl,⟨_,rfl,rfl,fun j f hf=> ?_⟩,nofun⟩
    match j with
    | 0=>simp at hf; subst hf; exact⟨_,_,rfl,rfl,rfl,rfl,by decide,rfl,rfl⟩
    | 1=>simp at hf; subst hf; exact⟨_,_,rfl,rfl,rfl,rfl,by decide,rfl,rfl⟩
    | 2=>simp at hf; subst hf; exact⟨_,_,rfl,rfl,rfl,rfl,by decide,rfl,rfl⟩
    | j+3=>simp at hf
  · exact⟨_,_,_,rfl,rfl,rfl,rfl,rfl,rfl,rfl,by decide,rfl,rfl,nofun⟩
  · refine⟨_,_,_,rfl,rfl,rfl,rfl,rfl,rfl,rfl,by decide,rfl,⟨_,rfl,rfl,fun j f hf=> ?_⟩,nofun⟩
    match j with
    | 0=>simp at hf; subst hf; exact⟨_,_,rfl,rfl,rfl,rfl,by decide,rfl,rfl⟩
    | 1=>simp at hf; subst hf; exact⟨_,_,rfl,rfl,rfl,rfl,by decide,rfl,rfl⟩
    | j+2=>simp at hf
end Go.Own
namespace Go.Own
open Go Go.RowKit
theorem run_clear_rows50{P:Program}(w:World)(t e ty:TypeId)(z:Value){n:Nat}(ht:P.underlying t=some (.slice e))(hv: ∀w,(zeroValue e).run P w= .ok z w)(h1: ∀u∈(Builtin.zeroCells z.cells n).toList,u.oneCell'=true)(b o c:Nat)(hn:0<n)
    (hc: ∀j,j<(Builtin.zeroCells z.cells n).size→(w.cell? ⟨b,o+j,none⟩).isSome=true)(hf: ∀j,j<(Builtin.zeroCells z.cells n).size→w.frozen? ⟨b,o+j,none⟩=false):
    (Builtin.clear_ #[t] ty #[.slice (some ⟨b,o,none⟩) n c]).run P w= .ok (.tuple #[]) (w.setCells b o (Builtin.zeroCells z.cells n).toList):=by
  have hst:=run_storeCells_cells (P:=P) b o (Builtin.zeroCells z.cells n).toList 0 w (by simpa using hc) (by simpa using hf) h1
  simp only[z69]at hst; obtain⟨m,rfl⟩: ∃m,n=m+1:=⟨n - 1,by omega⟩
  simp [Builtin.clear_,run_underlying ht,hv,hst]
theorem oJ(b:Nat): ∀(vs:List Value) (o:Nat) (w:World),(w.setCells b o vs).os=w.os∧(w.setCells b o vs).tape=w.tape∧(w.setCells b o vs).output=w.output∧(w.setCells b o vs).heap.size=w.heap.size∧ ∀k,k≠b→(w.setCells b o vs).heap[k]? =w.heap[k]?
  | [],_,_=>⟨rfl,rfl,rfl,rfl,fun _ _=>rfl⟩
  | v::r,o,w=>by
    obtain⟨h1,h2,h3,h4,h5⟩:=oJ b r (o+1) (w.setCell ⟨b,o,none⟩ v); have e1:(w.setCell ⟨b,o,none⟩ v).os=w.os:=by unfold World.setCell; split<;>rfl
    have e2:(w.setCell ⟨b,o,none⟩ v).tape=w.tape:=by unfold World.setCell; split<;>rfl
    have e3:(w.setCell ⟨b,o,none⟩ v).output=w.output:=by unfold World.setCell; split<;>rfl
    have e4:(w.setCell ⟨b,o,none⟩ v).heap.size=w.heap.size:=by simp [World.setCell]
    exact⟨h1.trans e1,h2.trans e2,h3.trans e3,h4.trans e4,fun k hk=>(h5 k hk).trans (by simp [World.setCell,z91,Ne.symm hk])⟩
theorem Sd{w:World}{blk n cap i size:Nat}{arr:Array Value}{ty:TypeId}{zs:List Value}(hh:w.heap[blk]? =some (.cells arr ty (0,0)))(ha:arr.size=cap*size)(hn:n≤cap)(hi:i<n):Deld w ((w.drew.setCells blk (i*size) ((arr.toList.drop ((i+1)*size)).take ((n - (i+1))*size))).setCells blk ((i+(n - (i+1)))*size) zs) blk i n size arr ty:=by
  obtain⟨a1,a2,a3,a4,a5⟩:=oJ blk ((arr.toList.drop ((i+1)*size)).take ((n - (i+1))*size)) (i*size) w.drew; obtain⟨b1,b2,b3,b4,b5⟩:=oJ blk zs ((i+(n - (i+1)))*size) (w.drew.setCells blk (i*size) ((arr.toList.drop ((i+1)*size)).take ((n - (i+1))*size))); have h0:w.drew.rowIs blk ty arr.size (fun k=>arr[k]?.getD default):=⟨arr,hh,rfl,fun k hk=>by simp only[z48 hk,z63]⟩
  obtain⟨arr',r1,r2,r3⟩:=rowIs_setCells zs ((i+(n - (i+1)))*size) _ _ (rowIs_setCells ((arr.toList.drop ((i+1)*size)).take ((n - (i+1))*size)) (i*size) _ _ h0); have q1:(i+1)*size+(n - (i+1))*size=n*size:=by rw[←z84]; congr 1; omega
  have q2:n*size≤cap*size:=z40 size hn; have q3:(i+1)*size=i*size+size:=z73 _ _; have q4:(i+(n - (i+1)))*size=i*size+(n - (i+1))*size:=z84 _ _ _; have q5:(n - 1)*size=i*size+(n - (i+1))*size:=by rw[←z84]; congr 1; omega
  have hl:((arr.toList.drop ((i+1)*size)).take ((n - (i+1))*size)).length=(n - (i+1))*size:=by
    rw[z37,z65,z42]; omega
  refine⟨b1.trans a1,b2.trans a2,b3.trans a3,b4.trans a4,fun k hk=>(b5 k hk).trans (a5 k hk),arr',r1,r2,fun k hk=> ?_,fun k hk1 hk2=> ?_⟩
  · have hk2:k<arr.size:=by omega
    have:=r3 k hk2; dsimp only at this
    rw[this,z12 (by omega),z12 (by omega),z48 hk2]; rfl
  · have hk3:k<arr.size:=by omega
    have hk4:k+size<arr.size:=by omega
    have:=r3 k hk3; dsimp only at this
    rw[this,z12 (by omega),z18 (by omega),z70,z18 (by omega),z50,z25,show(i+1)*size+(k - i*size)=k+size by omega,z48 hk4]; rfl
end Go.Own
namespace Go.Proofs
open Go.RowKit Go.Lib
set_option linter.unusedVariables false
set_option linter.unusedSimpArgs false
set_option maxHeartbeats 4000000 in
set_option maxRecDepth 1000000 in
theorem del50(i0:TypeInfo)(z:Value)(size:Nat)(hi0:Try.prog.info? 31=some i0)(hz0:i0.zero=some z)(hz1:i0.size=size)(hzs:z.cells.size=size)(h1z: ∀n, ∀u∈(Builtin.zeroCells z.cells n).toList,u.oneCell'=true)(hsz:0<size)(hu:Try.prog.underlying 29=some (.slice 31))
    (blk n cap i j:Nat)(hij:i<j)(hjn:j≤n)(arr:Array Value)(ty:TypeId)(w:World)(hh:w.heap[blk]? =some (.cells arr ty (0,0)))(ha:arr.size=cap*size)(hn:n≤cap)(hcap:cap≤maxLen)(hone: ∀k,k<n*size→ ∃u,arr[k]? =some u∧u.oneCell'=true):
    Calls Try.prog 50 #[.slice (some ⟨blk,0,none⟩) n cap, .int .i64 i, .int .i64 j] w fun e w'=>e= .returned (.slice (some ⟨blk,0,none⟩) (i+(n - j)) cap)∧ ∃zs:List Value,zs.length=(n - (i+(n - j)))*size∧w'=(w.drew.setCells blk (i*size) ((arr.toList.drop (j*size)).take ((n - j)*size))).setCells blk ((i+(n - j))*size) zs:=by
  have u22: ∀w,Sem.run Try.prog (underlying 29) w= .ok (TypeDesc.slice 31) w:=run_underlying hu; have z23: ∀w,(Go.sizeOf 31).run Try.prog w= .ok size w:=fun w=>by simp only[Go.sizeOf,typeInfo,Sem.run_bind,run_program,Result.andThen_ok,hi0,Sem.run_pure,hz1]
  have v23: ∀w,(zeroValue 31).run Try.prog w= .ok z w:=fun w=>by simp only[zeroValue,typeInfo,Sem.run_bind,run_program,Result.andThen_ok,hi0,Sem.run_pure,hz0]
  have hcap63:cap≤9223372036854775807:=by unfold maxLen at hcap; omega
  have RO:Try.prog.follows .mixedOrders=true:=by kernel_rfl
  obtain⟨news,hnews⟩: ∃news,news=(arr.toList.drop (j*size)).take ((n - j)*size):=⟨_,rfl⟩; have q1:j*size+(n - j)*size=n*size:=by rw[←Nat.add_mul]; congr 1; omega
  have q2:n*size≤cap*size:=Nat.mul_le_mul_right size hn; have q3:(i+1)*size≤j*size:=Nat.mul_le_mul_right size hij; have q4:(i+1)*size=i*size+size:=Nat.succ_mul _ _; have hlen:news.length=(n - j)*size:=by
    rw[hnews,List.length_take,List.length_drop,Array.length_toList]; omega
  have hget: ∀t u,news[t]? =some u→t<(n - j)*size∧arr[j*size+t]? =some u:=fun t u h=>by
    have h2:=(List.getElem?_eq_some_iff.1 h).1
    rw[hlen]at h2; rw[hnews,List.getElem?_take,if_pos h2,List.getElem?_drop,Array.getElem?_toList]at h
    exact⟨h2,h⟩
  have hcell: ∀k,w.cell? ⟨blk,k,none⟩=arr[k]? :=fun k=>by simp [World.cell?,hh]
  have hfr: ∀k,w.frozen? ⟨blk,k,none⟩=false:=fun k=>by simp [World.frozen?,hh]
  obtain⟨A,hA,hsrc⟩: ∃A:Addr,(if cap=j then some (⟨blk,0,none⟩:Addr)else some ⟨blk,j*size,none⟩)=some A∧Hid (∀t u,news[t]? =some u→w.drew.cell? (A.add t)=some u):=by
    by_cases h:cap=j
    · refine⟨⟨blk,0,none⟩,by simp [h],fun t u hu=> ?_⟩
      have:=(hget t u hu).1; rw[show n - j=0 by omega,Nat.zero_mul]at this
      omega
    · refine⟨⟨blk,j*size,none⟩,by simp [h],fun t u hu=> ?_⟩
      rw[Addr.add_lit]; exact(hcell _).trans (hget t u hu).2
  have s1:Hid (news.length=(n - j)*size):=hlen; have s2:Hid (∀u∈news,u.oneCell'=true):=by
    intro u hu; obtain⟨t,ht⟩:=List.getElem?_of_mem hu
    obtain⟨g1,g2⟩:=hget t u ht; obtain⟨v,v1,v2⟩:=hone (j*size+t) (by omega)
    rw[v1]at g2; cases g2; exact v2
  have s3:Hid (∀t,t<news.length→(w.drew.cell? ⟨blk,0+i*size+t,none⟩).isSome=true∧w.drew.frozen? ⟨blk,0+i*size+t,none⟩=false):=by
    intro t ht; rw[hlen]at ht; refine⟨?_,hfr _⟩
    show(w.cell? _).isSome=true; rw[hcell,Nat.zero_add]; obtain⟨v,v1,_⟩:=hone (i*size+t) (by omega)
    rw[v1]; rfl
  obtain⟨zs,hzl,hzs1⟩: ∃zs:List Value,zs.length=(n - (i+(n - j)))*size∧zs=(Builtin.zeroCells z.cells (n - (i+(n - j)))).toList:=⟨_,by rw[Array.length_toList,size_zeroCells,hzs],rfl⟩
  have hzz:(Builtin.zeroCells z.cells (n - (i+(n - j)))).size=(n - (i+(n - j)))*size:=by rw[size_zeroCells,hzs]
  obtain⟨W1,hW1⟩: ∃W1,W1=w.drew.setCells blk (i*size) news:=⟨_,rfl⟩; have hcl: ∀ty,(Builtin.clear_ #[29] ty #[.slice (some ⟨blk,(i+(n - j))*size,none⟩) (n - (i+(n - j))) (cap - (i+(n - j)))]).run Try.prog W1= .ok (.tuple #[]) (W1.setCells blk ((i+(n - j))*size) zs):=by
    rw[hzs1]; exact fun ty=>Go.Own.run_clear_rows50 W1 _ _ ty z hu v23 (h1z _) blk _ _ (by omega) (fun t ht=>by
      rw[hzz]at ht; rw[hW1]; refine World.isSome_setCells blk news _ _ _ ?_
      show(w.cell? _).isSome=true; have e1:(i+(n - j))*size+(n - (i+(n - j)))*size=n*size:=by rw[←Nat.add_mul]; congr 1; omega
      obtain⟨v,v1,_⟩:=hone ((i+(n - j))*size+t) (by omega)
      rw[hcell,v1]; rfl) (fun t ht=>by rw[hW1,World.frozen?_setCells]; exact hfr _)
  have hW:Hid (W1=w.drew.setCells blk (i*size) news):=hW1; have hic:i≤cap:=by omega
  have hjc:j≤cap:=by omega
  have hN:Hid (news=(arr.toList.drop (j*size)).take ((n - j)*size)):=hnews; have hZ:Hid (zs.length=(n - (i+(n - j)))*size):=hzl; clear hW1 hnews hlen hget hcell hfr hh hone hzl hzs1 hzz; go_enter Try.func50,Try.ntmps50
  go_wp2_with fail
  go_region_law_o (refine step_append_room rfl (.tmp 22) (.tmp 25) 29 rfl 31 i0 size hu hi0 hz1 blk 0 i cap (by simp [Act.eval,Act.put]) A (n - j) (cap - j) news (by simp [Act.eval,Act.put]) s1.out hsrc.out s2.out (by omega) s3.out ?_; rw[Nat.zero_add, ←hW.out])
  go_wp2
  go_ret
  exact⟨rfl,zs,hZ.out,by rw[hW.out,hN.out]⟩
end Go.Proofs
namespace Go.Own
open Go Go.Proofs
set_option maxRecDepth 100000 in
theorem Nn{τ:TypeId→Option TI}(hT:aX Try.prog τ){ei es:TI}(hS:τ 29=some es)(kS:es.kind= .sl 31)(hE:τ 31=some ei){s:Nat}(hs:ei.size=s)(hsp:0<s){κ:K}(hκ:κ= .A s∨κ= .U s){l:List (List T)}{i:Nat}(hi:i<l.length):
    TC Try.prog 50 (MT ([[[κ]],[[.S]],[[.S]]],[[κ]],true)) [.one (.c (.sl l)), .one (.c (.int .i64 (i:Int))), .one (.c (.int .i64 ((i:Int)+1)))] [] (.one (.c (.sl (l.eraseIdx i)))) none [] none:=by
  obtain⟨info,de,z0,q1,q2,q3,q4,q5,q6,q7,q8,q9⟩:=hT.get hE; obtain⟨dS,hdS,rfl⟩:=jH hT (show tk τ 29=some (.sl 31)by unfold tk; rw[hS]; exact congrArg some kS)
  obtain⟨ze,_⟩:=fO q6; have hzs:z0.cells.size=s:=by
    simp only[z42]at ze; omega
  refine Nl Try.func50 rfl (by decide) hsp hκ hi (fun b cap arr ty w g1 g2 g3 g4 g5=> ?_)
  refine(del50 info z0 s q1 q5 (by omega) hzs (fun n u hu=> ?_) hsp hdS b l.length cap i (i+1) (by omega) (by omega) arr ty w g1 g2 g3 g4 g5).mono ?_
  · simp only[Builtin.zeroCells,Array.toList_map,Array.toList_range,z47,z58]at hu
    obtain⟨k,hk,rfl⟩:=hu; have hk2:k % z0.cells.size<z0.cells.size:=Nat.mod_lt _ (by omega)
    obtain⟨v,v1,v2⟩:=(fO q6).2 (k % z0.cells.size) _ (z11 (by rw[←ze,z42]; exact hk2))
    rw[z25,z48 hk2]at v1
    rw[getElem!_pos z0.cells _ hk2,z46 v1]; cases v<;>first | rfl | (simp [sN]at v2)
  · rintro e w' ⟨rfl,zs,_,rfl⟩
    exact⟨by rw[show i+(l.length - (i+1))=l.length - 1 by omega],Sd g1 g2 g3 hi⟩
end Go.Own
namespace Go.Own
open Go Go.Proofs
abbrev vi:V:= .one (.c (.int .i64 0))
abbrev vy:V:= .one (.c (.int .u8 0))
abbrev vb:V:= .one (.c (.bool false))
abbrev vl:V:= .one (.c (.sl []))
abbrev vs:V:= .one (.c (.str []))
abbrev vj:V:= .one .junk
abbrev tl0:List T:=[.int .i64 0, .int .i64 0, .str [], .sl [], .sl []]
abbrev tl1:List T:=[.int .i64 0, .int .i64 0, .str [], .sl []]
abbrev tl2:List T:=[.int .i64 0, .int .i64 0, .str [], .sl [], .sl [], .int .i64 0, .int .i64 0, .str [], .sl [], .sl []]
abbrev tl3:List T:=[.sl [], .int .i64 0, .int .i64 0]
abbrev x0:B:=⟨[(0,[[.S]])],[]⟩
abbrev x1:B:=⟨[(0,[[.S]])],[(1000000,[.F, .S, .S])]⟩
abbrev x2:B:=⟨[(0,[[.S, .S, .S, .U 5, .U 10]])],[(1000000,[.F, .S, .S])]⟩
abbrev x3:B:=⟨[(0,[[.S, .S, .S, .U 4]])],[(1000000,[.F, .S, .S])]⟩
abbrev x4:B:=⟨[(0,[[.S, .S, .S, .F]])],[]⟩
abbrev x5:B:=⟨[(0,[[.S, .S, .S, .F, .F]])],[]⟩
abbrev x6:B:=⟨[(0,[[.F]])],[]⟩
abbrev x7:B:=⟨[(0,[[.S]]),(1,[[.S]])],[(1000000,[.F, .S, .S])]⟩
abbrev x8:B:=⟨[(0,[[.S]]),(1,[[.F]])],[(1000000,[.F, .S, .S])]⟩
abbrev x9:B:=⟨[(0,[[.S]]),(1,[[.S, .S, .S, .F, .F]])],[(1000000,[.F, .S, .S])]⟩
abbrev x10:B:=⟨[(0,[[.F]]),(1,[[.S]])],[]⟩
abbrev x11:B:=⟨[(0,[[.A 5],[.S]])],[]⟩
abbrev x12:B:=⟨[(0,[[.S, .S, .S, .F, .F]]),(1,[[.F]])],[]⟩
abbrev x13:B:=⟨[(0,[[.S]]),(1,[[.S]]),(2,[[.S]])],[]⟩
abbrev x14:B:=⟨[(0,[[.S]])],[(1000000,[.A 5])]⟩
abbrev x15:B:=⟨[(0,[[.S, .S, .S, .N, .N]])],[]⟩
abbrev y0:V:= .one (.ptr 1000000 0)
abbrev y1:V:= .one (.ag tl0)
abbrev y2:V:= .one (.ag tl1)
abbrev y3:V:= .tup [.c (.sl []), .c (.bool false)]
abbrev y4:V:= .one (.ptr 3 3)
abbrev y5:V:= .one (.ptr 4 0)
abbrev y6:V:= .one (.ptr 3 0)
abbrev y7:V:= .one (.ptr 2 0)
abbrev y8:V:= .one (.ptr 4 3)
abbrev y9:V:= .one (.ptr 1 3)
abbrev y10:V:= .one (.cp tl1)
abbrev y11:V:= .one (.ptr 1 0)
abbrev y12:V:= .one (.cp tl0)
abbrev y13:V:= .one (.ptr 1 2)
abbrev y14:V:= .tup [.ag tl1, .c (.sl []), .c (.bool false)]
abbrev y15:V:= .one (.ptr 1000001 0)
abbrev y16:V:= .one (.ptr 9 0)
abbrev y17:V:= .one (.ptr 3 2)
abbrev y18:V:= .one (.ptr 2 2)
abbrev y19:V:= .one (.ptr 1000000 1)
abbrev y20:V:= .one (.ptr 1 1)
abbrev y21:V:= .one (.ptr 5 0)
abbrev y22:V:= .one (.ptr 10 0)
abbrev y23:V:= .one (.ptr 3 4)
abbrev y24:V:= .one (.cp [.str []])
abbrev y25:V:= .one (.ptr 8 3)
abbrev y26:V:= .one (.ptr 8 0)
abbrev y27:V:= .one (.ptr 5 3)
abbrev y28:V:= .one (.ptr 4 2)
abbrev y29:V:= .one (.ptr 3 1)
abbrev y30:V:= .one (.ag [.str [], .int .i64 0, .int .i64 0, .str [], .sl []])
abbrev y31:V:= .one (.ptr 1000000 2)
abbrev y32:V:= .one (.ptr 7 0)
abbrev y33:V:= .one (.ptr 4 4)
abbrev y34:V:= .one (.cp tl2)
abbrev y35:V:= .one (.ptr 13 4)
abbrev y36:V:= .one (.ptr 6 0)
abbrev y37:V:= .one (.ag tl2)
abbrev y38:V:= .tup [.ag tl0, .c (.sl [])]
abbrev y39:V:= .one (.ptr 4 1)
abbrev y40:V:= .one (.ptr 2 3)
abbrev y41:V:= .one (.ptr 2 1)
abbrev y42:V:= .one (.ptr 1 4)
abbrev y43:V:= .one (.pp (.oc 3 4) [] 0 0)
def F4:FA:= { n:=113,sh:=[vl,vj,vb,y6,vl,y21,vl,vb,y26,vl,vb,vi,vi,vl,vb,vl,vb,y38,vl,y38,y1,vl,y14,y1,vl,y14,y2,vl,vb,y14,y1,vl,y14,y2,vl,vb,vb,vb,vb,vb,vb,vb,vb,vb,vb,vb,vb,vl,vl,vb,vb,vi,vl,vi,vb,vb,vl,vi,y10,y2,vl,vi,y10,y2,vb,vb,vi,vi,vi,vl,vi,vb,vi,vi,y3,y1,vl,vi,y10,y2,y3,vl,vb,vb,vl,vi,y10,y2,y2,vb,vb,vi,vi,vb,vb,vb,vl,vi,vl,vi,vi,vb,vb,vb,vl,vi,vl,vl,vi,vi,vl,vb,vb],obs:=[(3,tl0),(5,tl1),(8,tl1)],tk:=[17,18,22,29,39,43,44,46,47,48,55,66,72,74,83,88,90,92,95,103,104,107,108],fz:=[4],keep:=[(0,[0]),(1,[0,16]),(2,[2]),(3,[3,4]),(4,[3,4,5,6,7]),(5,[3,4,5,6,7,10]),(6,[3,4,5,6,7,10,42]),(7,[2]),(8,[3,4,5,6,11]),(9,[3,4,5,6,11,65]),(10,[3,4,5,6,11]),(11,[3,4,5,6,11,12]),(12,[3,4,5,6,11,12,71]),(13,[3,4,5,6,11,12]),(14,[3,4,5,6,11,12,14]),(15,[3,4,5,6,11,12,83]),(16,[2]),(17,[2])] }
def F9:FA:= { n:=52,sh:=[y1,vl,y7,vj,y5,vl,vb,vl,vi,y16,vl,vl,vi,vl,vi,vb,vb,y1,vb,vb,vi,vi,vl,vl,vi,y10,y2,vb,vb,y1,vl,vi,y10,y2,vb,vb,vl,vi,y10,y2,vl,vl,vi,vl,vl,vl,vi,vi,vl,vl,y2,vl],obs:=[(2,tl0),(4,tl1),(9,[.sl []])],tk:=[16,20,28,45,46,51],dp:=[22,40],fz:=[7,49,51],keep:=[(0,[1,2,4]),(1,[1,2,4,7]),(2,[1,2,4,7,8]),(3,[1,2,4,7,8,19]),(4,[1,2,4,7,8]),(5,[1,2,4,7,8,9]),(6,[1,2,4,7,8,35]),(7,[4,5,6]),(8,[4,5,6])] }
def F12:FA:= { n:=37,sh:=[y1,vl,y7,vj,y5,vl,vb,vl,vi,y16,vl,vb,vl,vl, .one (.al (.s 7 0 0) []),vi,vi,vb,vi, .one (.pp (.s 7 0 0) [] 0 0),y2,y3,y1,y2,y3,vl,vb,vb,y2,vl,vi,vi,vi,vl,vi,y2,vl],obs:=[(2,tl0),(4,tl1),(9,tl1)],al:=[14],tk:=[12,16,21,27,28,29,31,36],keep:=[(0,[1,2,4]),(1,[2,4,7]),(2,[2,4,7,14,15,16]),(3,[2,4,7,14,15,16,17]),(4,[2,4,7,8,9,14,15,16]),(5,[2,4,7,8,9,11,14,15,16]),(6,[2,4,7,8,9,14,15,16,27]),(7,[4,5,6]),(8,[2,4,7,14,15,16]),(9,[4,5,6])] }
def F21:FA:= { n:=6,sh:=[vl,vj,vb,vl,vi,vb],obs:=[],tk:=[3],keep:=[(0,[0]),(1,[2])] }
def F22:FA:= { n:=36,sh:=[vl,vj,y7,vl,y22,y21,y36,vl,vi,vl,y22, .tup [.ag tl0, .ag tl1],vl, .tup [.ag tl0, .ag tl1],y1,y2,vl,y22,vi,vi,vb,vi,vi,vl,y22,y2,vl,vl,y22,vb,vl,y2,vl,vl,y1,vl],obs:=[(2,tl0),(5,tl0),(6,tl1),(10,tl3)],tk:=[11,12,21,23,28,30,31,34,35],dp:=[16,26,27,32,33],nw:=[10],keep:=[(0,[0,2]),(1,[0,2,4]),(2,[2,4,5,6]),(3,[2,4,5,6,7]),(4,[2,4,5,6,7,8]),(5,[2,4,5,6,7,8,20]),(6,[2,4,5,6,7,8]),(7,[2,4,5,6,7,8]),(8,[2,5,6,7,29]),(9,[2,5,7]),(10,[2,3])] }
def F23:FA:= { n:=27,sh:=[vl,vl,vj,vj,vb,vi,vl,vi,vl,vi,vb,vi,vl,vi,vb,vi,vi,vl,vi,y10,y2,vl,vi,y10,y2,vb,vb],obs:=[],tk:=[15],keep:=[(0,[0,1]),(1,[0,1,10]),(2,[4]),(3,[0,1,5]),(4,[0,1,5,14]),(5,[0,1,5]),(6,[0,1,5,26]),(7,[4]),(8,[4])] }
def F24:FA:= { n:=31,sh:=[y2,y2,y7,y6,vb,y7,vi,y6,vi,vb,vb,y41,vi,y29,vi,vb,vb,vb,y18,vs,y17,vs,vb,vb,vb,y40,vl,y4,vl,vb,vb],obs:=[(2,tl1),(3,tl1)],tk:=[6,8,10,12,14,17,19,21,24,26,28],keep:=[(0,[2,3]),(1,[4])] }
def F25:FA:= { n:=25,sh:=[y1,y2,y7,y6,vl,vb,vl,vb,y1,vb,vb,vb,y2,vb,vb,vb,y3,y1,y2,y3,vl,vb,vb,vb,vl],obs:=[(2,tl0),(3,tl1)],tk:=[11,16,17,18,22,24],keep:=[(0,[2,3]),(1,[2,3,15]),(2,[4,5]),(3,[6,7]),(4,[6,23]),(5,[4,5]),(6,[4,5])] }
def F42:FA:= { n:=21,sh:=[vl,vj,vl,vl,vi,vl,vi,vl,vi,vb,vi,vi,vl,vl,vi,y10,y2,y2,vl,vl,vl],obs:=[],tk:=[10,12,20],dp:=[5,18,19],keep:=[(0,[0]),(1,[0,3]),(2,[0,3,4]),(3,[0,3,4,9]),(4,[0,3,4]),(5,[0,3,4]),(6,[2])] }
def F43:FA:= { n:=11,sh:=[y1,y11,vb,y1,vi,vb,vb,y1,vl,vb,vb],obs:=[(1,tl0)],tk:=[6,7],keep:=[(0,[1]),(1,[2])] }
def F44:FA:= { n:=6,sh:=[y2,y11,vb,y2,vi,vb],obs:=[(1,tl1)],tk:=[3],keep:=[(0,[1]),(1,[2])] }
def F45:FA:= { n:=132,sh:=[y1,y2,y0,y6,y5,vj,vb,vi,y6,vi,vb,vb,y5,vi,vb,vb,y39,vi,y29,vi,vb,vb,vb,vb,y5,vi,vb,vb,y28,vs,y17,vs,vb,vb,vb,vb,y17,vs,vb,y0,y0,y0,vl,y17,vs,y2,y2,y30,vl,vl,y0,vb,vb,y5,vi,vb,vb,y8,vl,vi,y4,vl,vi,vb,vb,vb,y4,vl,y8,vl,y0,vb,vb,vb,vb,y5,vi,vb,vb,y8,vl,vi,y4,vl,vi,vb,vb,vb,y4,vl,y8,vl,y0,vb,vb,y4,vl,vi,vi,y5,vi,vb,vb,y8,vl,vi,vi,vb,vb,vb,y4,vl,vi,vl,y8,vl,y0,vb,vb,vb,y4,vl,vi,y12,y1,y8,vl,vi,vl,y2,y0,vb],obs:=[(3,tl0),(4,tl1),(1000000,[.sl []])],tk:=[9,13,15,17,19,25,27,29,31,40,42,44,45,54,56,65,67,69,70,76,78,87,89,91,92,100,102,109,121,126,127,130],dp:=[48],keep:=[(0,[2,3,4]),(1,[2,3,4,9]),(2,[2,3,4,9,10]),(3,[6]),(4,[2,3,4,9,22]),(5,[6]),(6,[2,3,4,9,34]),(7,[2,3,4,38]),(8,[]),(9,[6]),(10,[2,3,4,9,51]),(11,[6]),(12,[2,3,4,73]),(13,[6]),(14,[2,3,4,7]),(15,[2,3,4,7,119]),(16,[6]),(17,[6])] }
def F49:FA:= { n:=19,sh:=[vl,vj,vl,vl,vj,y21,vl,vi,vi,vb,y10,y2,vl,y2,y2,vl,vl,vi,vl],obs:=[(5,tl1)],tk:=[6,8,12,13,18],keep:=[(0,[0]),(1,[0,3]),(2,[3,6,7,8]),(3,[3,6,7,8,9]),(4,[3,5,6,7,8]),(5,[3,6,7,8]),(6,[3,6,7,8]),(7,[2])] }
def F50:FA:= { n:=0,sh:=[],obs:=[],lb:=some ([[[.A 4]],[[.S]],[[.S]]],[[.A 4]],true) }
def F56:FA:= { n:=32,sh:=[vl,vj, .one (.ptr 31 0),vi,vi,vl,vi,vi,vi,vl,vi,vb,vb,vi,vb,vb,vi,vi,vi,vi,vl,vi, .one (.cp [.int .u8 0]),vy,vi,vi,vi,vi,vl,vi, .one (.ag tl3), .one (.ptr 31 0)],obs:=[(31,tl3)],tk:=[12,16,18,28,29],keep:=[(0,[0]),(1,[0,3]),(2,[0,3,4]),(3,[0,3,4,15]),(4,[0,3,4]),(5,[0,3,4]),(6,[2])],n0:=some 31 }
def F57:FA:= { n:=28,sh:=[vl,vj,y7,y6,y16,y21,y36,y32,vl,y16,vl,y16,y1,y16,y1,y2,y16,vi,vb,vb,y16,y2,vb,vb,y16,y1,y1,y2],obs:=[(2,tl0),(3,tl1),(5,[.sl []]),(6,tl0),(7,tl1),(9,tl3)],tk:=[8,20,24,26,27],dp:=[10],fz:=[12,25],nw:=[9],keep:=[(0,[0,2,3]),(1,[2,3,4]),(2,[2,3,4,5]),(3,[2,3,4,6]),(4,[2,3,4,6,7]),(5,[2,3,4,6,7,17]),(6,[2,3,4,6,7,17,18]),(7,[2,3,6,7]),(8,[2,3,4,6,7,22]),(9,[2,3,6,7]),(10,[2,3])] }
def F58:FA:= { n:=31,sh:=[y0,vi,vj,vj,vi,vi,vi,vi,vi,vb,vi,vb,y0,vi,vi,vi,y0,vi,y0,vi,y0,vi,vi,vi,vi,vi,vi,vi,vi,vi,vi],obs:=[(1000000,tl3)],tk:=[12,14,20,22,24,27,29],keep:=[(0,[0,1]),(1,[0,1,9]),(2,[4]),(3,[0,1,11]),(4,[4]),(5,[0,1,5]),(6,[0,1,5,6]),(7,[1,5,6,7]),(8,[4])] }
def F59:FA:= { n:=55,sh:=[y0,vi,vj,vj,y5,y21,vi,y0,vi,vb,vb,vb,vb,y0,y0,vi,vl,vi,y2,vb,vb,vb,y0,vl,vs,y2,vb,vb,y0,vi,y2,y0,vl,vi,y2,y0,vi,vi,vb,vb,vi,vb,vb,vi,vi,y27,vl,y0,vi,vi,y2,vl,vl,y27,y2],obs:=[(4,tl1),(5,tl1),(1000000,tl3)],tk:=[14,22,28,39,43,46,54],dp:=[16,23,32,51,52],fz:=[16,23,32],keep:=[(0,[0,1,4]),(1,[0,1,4,8]),(2,[0,1,4,8,9]),(3,[0,1,4,8,9]),(4,[0,1,4,8,9]),(5,[4]),(6,[0,1,4,8,19]),(7,[0,1,4,8,19]),(8,[4]),(9,[0,1,4,26]),(10,[4]),(11,[0,1,4,5]),(12,[0,1,4,5,6]),(13,[0,1,4,5,6,42]),(14,[0,1,4,5,6]),(15,[0,1,4,5,6]),(16,[4])] }
def F60:FA:= { n:=9,sh:=[y0,vi,vj,vj,vb,y0,vi,vi,vb],obs:=[(1000000,tl3)],tk:=[5,6],keep:=[(0,[0,1]),(1,[4])] }
def F61:FA:= { n:=32,sh:=[vl,vl, .one (.fn 24 []),vj,vj,vj,vb,vi,y26,y16,vl,vi,vl,vi,vb,vl,vi,vi,vb,vi,y10,y2,vl,vi,y10,y2, .one (.fn 24 []),y2,y2,vb,vb,vi],obs:=[(8,tl1),(9,tl1)],tk:=[15,17,23,27,28],keep:=[(0,[0,1,2]),(1,[0,1,2,14]),(2,[6]),(3,[1,2,15,16,17]),(4,[1,2,15,16,17,18]),(5,[1,2,7,8,15,16,17]),(6,[1,2,8,9,15,16,17]),(7,[1,2,15,16,17,30]),(8,[6]),(9,[1,2,15,16,17]),(10,[6])] }
def F62:FA:= { n:=6,sh:=[y1,y11,vb,y6,y1,vb],obs:=[(1,tl0),(3,[.int .i64 0, .sl []])],tk:=[4],keep:=[(0,[1]),(1,[1,3]),(2,[2])] }
def F63:FA:= { n:=6,sh:=[y2,y11,vb,y2,vi,vb],obs:=[(1,tl1)],tk:=[3],keep:=[(0,[1]),(1,[2])] }
def F64:FA:= { n:=143,sh:=[y1,y2,vl,y6,y5,vj,vl,vb,vi,vb,y6,vi,vb,vb,vl,y5,vi,vb,vb,y39,vi,y29,vi,vb,vb,vb,vb,vl,y5,vi,vb,vb,y28,vs,y17,vs,vb,vb,vb,vb,y17,vs,vb,vl,y17,vs,y2,y2,y30,vl,vl,vl,vb,vb,y5,vi,vb,vb,y8,vl,vi,y4,vl,vi,vb,vb,vl,y4,vl,y8,vl,vl,y3,vl,vb,vb,vb,y5,vi,vb,vb,y8,vl,vi,y4,vl,vi,vb,vb,vl,y4,vl,y8,vl,vl,y3,vl,vb,y4,vl,vi,vi,y5,vi,vb,vb,y8,vl,vi,vi,vb,vb,vl,y3,y4,vl,vi,vl,y8,vl,vi,vl,vl,y3,vl,vb,vb,vb,vl,y4,vl,vi,y12,y1,y8,vl,vi,vl,y2,vl,y3,vl,vb],obs:=[(3,tl0),(4,tl1)],tk:=[11,14,16,18,20,22,27,29,31,33,35,43,45,46,51,55,57,66,68,70,71,78,80,89,91,93,94,103,105,112,113,122,126,128,130,135,136,139],keep:=[(0,[2,3,4]),(1,[2,3,4,11]),(2,[2,3,4,11,12]),(3,[6,7]),(4,[2,3,4,11,25]),(5,[6,7]),(6,[2,3,4,11,38]),(7,[2,3,4,42]),(8,[2]),(9,[6,7]),(10,[2,3,4,11,52]),(11,[2,3,4,65]),(12,[6,7]),(13,[6,7]),(14,[2,3,4,75]),(15,[2,3,4,88]),(16,[6,7]),(17,[6,7]),(18,[2,3,4,8]),(19,[2,3,4,8,111]),(20,[6,7]),(21,[2,3,4,8,9]),(22,[2,3,4,8,127]),(23,[6,7]),(24,[6,7])] }
def F74:FA:= { n:=10,sh:=[vs,vj,vb,vs,vb,vb,vs,vb,vb,vb],obs:=[],tk:=[5,6],keep:=[(0,[0]),(1,[2])] }
def F79:FA:= { n:=17,sh:=[vs,vj,vb,vs,vb,vb,vs,vb,vb,vb,vs,vb,vb,vb,vs,vb,vb],obs:=[],tk:=[5,9,13,14],keep:=[(0,[0]),(1,[2])] }
def F86:FA:= { n:=27,sh:=[y2,y11,y7,y6,vi,y2,vl,y4,vi,y9,vl,vi,vb,vi,vi,y4,vl,y9,vl,vi,y10,y2,y2,vl,vl,y4,y2],obs:=[(1,tl1),(2,tl1),(3,tl1)],tk:=[13,16,26],dp:=[6,23,24],keep:=[(0,[1,2]),(1,[1,2,3]),(2,[1,2,3]),(3,[1,2,3,4]),(4,[1,2,3,4,12]),(5,[1,2,3,4]),(6,[1,2,3,4]),(7,[2])] }
def F87:FA:= { n:=89,sh:=[y1,vb,vi,vi,y5,vj,vj,vj,vi,vi,vi,vi,vb,vb,vi,vb,vb,vb,y1,vb,vb,vb,vb,vi,vi,vi,y8,vl,vi,vb,vb,vi,vb,vb,vi,vi,y8,vl,vi,y12,y1,vb,vi,vi,vi,vi,vi,y33,vl,vi,vb,vb,vi,vb,vb,vi,vi,y33,vl,vi,y34,y12,y1,vl,vb,vb,y33,vl,vi,y34,y12,y1,vi,vi,vi,vi,vi,vb,y33,vl,vi,y34,y12,y1,vi,vi,vi,vi,vi],obs:=[(4,tl0)],tk:=[13,17,23,30,34,44,51,55,74,86,88],keep:=[(0,[1,2,3,4]),(1,[1,2,3,4,22]),(2,[8]),(3,[1,2,3,4]),(4,[1,2,3,4,9]),(5,[1,2,3,4,9,33]),(6,[1,2,3,4,9]),(7,[1,2,3,4,9]),(8,[2,3,4,10]),(9,[2,3,4,10,54]),(10,[2,3,4,10]),(11,[2,3,4,10,65]),(12,[8]),(13,[2,3,4,10]),(14,[2,3,4,10,77]),(15,[2,3,4,10]),(16,[8])] }
def F88:FA:= { n:=18,sh:=[vl,vj,vb,vi,vi,vl,vi,vb,vi,vi,vl,vi,vl,vl,vi,y24,vs,vb],obs:=[],tk:=[8],keep:=[(0,[0]),(1,[0,3]),(2,[0,3,7]),(3,[0,3]),(4,[0,3,17]),(5,[2]),(6,[2])] }
def F89:FA:= { n:=34,sh:=[y1,y11,vl,vl,vi,vl,y11,vi,vb,y13,vs,vb,vl,y13,vs,vl,vl,vl,vi,y9,vl,vi,vb,vi,vi,vl,y9,vl,vi,y12,y1,vl,vl,vl],obs:=[(1,tl0)],tk:=[7,12,14,17,23,25,33],dp:=[5,15,16,32],keep:=[(0,[1]),(1,[1,3]),(2,[1,3,8]),(3,[1,3,11]),(4,[3]),(5,[2]),(6,[1,3,4]),(7,[1,3,4,22]),(8,[1,3,4]),(9,[1,3,4]),(10,[2])] }
def F90:FA:= { n:=42,sh:=[y2,vi,vi,y6,vj,vj,vi,vi,vi,vb,vb,vi,vb,vb,vb,y2,vb,vb,vb,vi,vi,vi,y4,vl,vi,vb,vb,vi,vb,vb,vi,vi,y4,vl,vi,y10,y2,vi,vi,vi,vi,vi],obs:=[(3,tl1)],tk:=[10,14,19,26,30,39,41],keep:=[(0,[1,2,3]),(1,[1,2,3,18]),(2,[6]),(3,[1,2,3]),(4,[1,2,3,7]),(5,[1,2,3,7,29]),(6,[1,2,3,7]),(7,[1,2,3,7]),(8,[6])] }
def F91:FA:= { n:=25,sh:=[vl,vl,y0,vj,vj,vj,vb,vi,vi,vl,vi,vb,vi,vi,vl,vi,y12,y1,vl,vi,y10,y2,y0,vb,vb],obs:=[(1000000,[.sl []])],tk:=[12],keep:=[(0,[0,1,2]),(1,[0,1,2,7]),(2,[0,1,2,7,11]),(3,[0,1,2,7]),(4,[0,1,2,7,24]),(5,[6]),(6,[6])] }
def F93:FA:= { n:=8,sh:=[y2,y11,y7,y9,vl,vl,y9,y2],obs:=[(1,tl1),(2,tl1)],tk:=[4,7],keep:=[(0,[1,2]),(1,[1,2]),(2,[2])] }
def F95:FA:= { n:=83,sh:=[y0,vi,y15,vj,vj,vj,y36,vs,y26,vi,vi,y0,vi,vb,vb,y0,vi,y1,vb,vb,y0,vl,vs,y1,vb,vb,y1,vb,vb,vb,vb,y0,vl,vs,y15,y15,vl,vs,vb,y1,y15,y15,y15,vl,vs,vl,vl,y15,vs,y1,y0,vl,vi,y1,y0,vi,y26,vi,vb,vi,vi,vb,vi,vi,vi,vb,y25,vl,y0,vi,vi,y15,y1,vl,vl,y25,y25,vl,y1,vl,vl,y25,y1],obs:=[(6,tl0),(8,tl0),(1000000,tl3),(1000001,[.sl []])],tk:=[15,20,31,41,43,48,62,67,77,82],dp:=[21,32,45,51,73,74,79,80],fz:=[21,32,51],keep:=[(0,[0,1,2,6]),(1,[0,1,2,6,12]),(2,[0,1,2,6,12,13]),(3,[6]),(4,[0,1,2,6,12,18]),(5,[6]),(6,[0,1,2,6,12,24]),(7,[6]),(8,[0,1,2,6,12,27]),(9,[0,1,2,6,12,27]),(10,[0,1,2,6,27]),(11,[2,6,7]),(12,[2,6,7,38]),(13,[6]),(14,[6,7]),(15,[6]),(16,[0,1,2,6,8]),(17,[0,1,2,6,8,9]),(18,[0,1,2,6,8,9,58]),(19,[0,1,2,6,8,9]),(20,[0,1,2,6,8,9,10]),(21,[0,1,2,6,8,9,10,61]),(22,[0,1,2,6,8,9,10]),(23,[0,1,2,6,8,9,10,65]),(24,[0,1,2,6,8,9,10]),(25,[0,1,2,6,8,9,10]),(26,[6])] }
def F96:FA:= { n:=74,sh:=[y0,y1,vj,y6,y5,y21,vi,y32,y6,vi,vb,vb,y29,vi,y2,vb,vb,y17,vs,y2,vb,vb,vb,vb,y2,y6,vi,vb,y21,vi,y4,vl,vi,vb,vi,vi,y0,y4,vl,vi,y12,y1,y2,y6,vi,vb,vb,vi,y4,vl,vi,vi,vb,vb,y32,vi,vb,y2,y27,vl, .one (.ptr 7 3),vl,vl,y27,y2,y27,vl,y2,vl,vl,y27,y2,y0,y2],obs:=[(3,tl0),(4,tl1),(5,tl1),(7,tl1),(1000000,tl3)],tk:=[13,18,34,46,55,59,61,64,66,67,71,72],dp:=[62,68,69],keep:=[(0,[0,3,4]),(1,[0,3,4,9]),(2,[0,3,4,9,10]),(3,[4]),(4,[0,3,4,9,15]),(5,[4]),(6,[0,3,4,9,20]),(7,[0,3,4,9,20]),(8,[0,3,4,20]),(9,[0,3,4,5]),(10,[0,3,4,5,27]),(11,[0,3,4,5]),(12,[0,3,4,5,6]),(13,[0,3,4,5,6,33]),(14,[0,3,4,5,6]),(15,[0,3,4,5,6,7]),(16,[0,3,4,5,6,7,53]),(17,[4,5,7,56]),(18,[4,5,7]),(19,[4,5]),(20,[4]),(21,[0,3,4,5,6]),(22,[4]),(23,[4])] }
def F97:FA:= { n:=12,sh:=[y0,vj,y7,y6,y0,y2,y0,vb,y0,y2,y2,y2],obs:=[(2,tl1),(3,tl1),(1000000,tl3)],tk:=[8,9,11],fz:=[9],keep:=[(0,[0,2]),(1,[0,2,3]),(2,[0,2,3,7]),(3,[2,3]),(4,[2])] }
def F98:FA:= { n:=27,sh:=[y0,vj,y7,y6,y5,vl,y0,y1,y0,vi,vb,vb,y0,y1,y1,vb,vb,y1,y1,y1,vl,y1,vb,vb,y0,y1,y1],obs:=[(2,tl0),(3,[.sl []]),(4,tl0),(1000000,tl3)],tk:=[12,13,18,24,26],dp:=[5],fz:=[7,13,14,21,25],keep:=[(0,[0,2]),(1,[0,2,3]),(2,[0,2,4]),(3,[0,2,4,9]),(4,[0,2,4,9,10]),(5,[2,4]),(6,[0,2,4,9,15]),(7,[2,4]),(8,[0,2,4,22]),(9,[2,4]),(10,[2])] }
def F99:FA:= { n:=58,sh:=[y0,vj,vi,vi,y0,y0,y0,y31,vi,vi,vi,y0,y31,y0,y0,y31,vi,vi,y0,y0,y31,vi,vi,vi,vi,y0,y0,y19,vi,y0,y0,y0,vl,vi,vb,vi,y0,y0,y0,vl,y0,y0,y19,vi, .one (.cp [.int .u8 0]),vy,vi,vi,vi,y0,y0,y0,y19,vi,vi,y0,y19,vi],obs:=[(1000000,tl3)],tk:=[8,35,50,53,57],keep:=[(0,[0]),(1,[0]),(2,[0,3]),(3,[0,3,34]),(4,[0,3]),(5,[3]),(6,[2])] }
def F100:FA:= { n:=12,sh:=[y0,vl,vj,vj,vi,vl,y0,vl,vi,vi, .one (.cp [.int .i64 0]),vi],obs:=[(1000000,tl3)],tk:=[6,7],keep:=[(0,[0,1]),(1,[4])] }
def F101:FA:= { n:=12,sh:=[y0,vl,vj,vj,vs,vl,y0,vl,vi,vi,y24,vs],obs:=[(1000000,tl3)],tk:=[6,7],keep:=[(0,[0,1]),(1,[4])] }
def F102:FA:= { n:=89,sh:=[y0,y1,vi,vj,y5,vj,vb,vj,y26,y0,y0,y0,vi,vi,y0,y0,vi,vb,vb,y0,y0,y0,vi,vb,vb,vb,y5,vi,vb,vb,vb,y33,vl,vi,vb,vb,vb,y5,vi,y39,vi,y28,vs,y8,vl,vi,vb,vb,vb,y5,vi,vb,vb,y28,vs,vb,vb,y0,y0,y19,vl,y28,vs,vb,y0,y0,y0,y19,vl,y28,vs,vl,vl,y0,y19,y8,vl,vi,vi,vb,y12,y1,y0,y1,vi,vi,vb,vb,vi],obs:=[(4,tl0),(8,tl0),(1000000,[.int .i64 0, .sl []])],tk:=[12,18,25,30,32,36,40,50,52,68,70,76,78,83],dp:=[71],keep:=[(0,[0,2,4]),(1,[0,2,4]),(2,[0,2,4,48]),(3,[6]),(4,[0,2,4,56]),(5,[0,2,4,63]),(6,[6]),(7,[0,2,4]),(8,[0,2,76,77,78]),(9,[0,2,76,77,78,79]),(10,[0,2,8,76,77,78]),(11,[0,2,76,77,78,87]),(12,[6]),(13,[0,2,76,77,78]),(14,[6])] }
def F103:FA:= { n:=32,sh:=[y2,vi,y7,vj,vi,vi,vj,y32,vi,vb,vb,y2,vb,vb,vb,y40,vl,vi,vi,vb,y10,y2,vi,y2,vi,vi,vi,vi,vi,vb,vi,vi],obs:=[(2,tl1),(7,tl1)],tk:=[10,16,18,22,23,31],keep:=[(0,[1,2]),(1,[1,2,14]),(2,[4]),(3,[1,2,5]),(4,[1,5,16,17,18]),(5,[1,5,16,17,18,19]),(6,[1,5,7,16,17,18]),(7,[1,5,16,17,18]),(8,[1,5,16,17,18,29]),(9,[4]),(10,[1,5,16,17,18]),(11,[4])] }
def F104:FA:= { n:=33,sh:=[vl,vl,vl,vj,vj,vj,vl,vb,vb,vi,y22,vl,vi,vi,vb,vi,y12,y1,y3,y1,vl,vi,y10,y2,vl,y3,vl,vb,vb,vb,vl,vi,vl],obs:=[(10,tl0)],tk:=[11,13,18,19,21,24,28,30,32],keep:=[(0,[0,1,2]),(1,[0,1,2]),(2,[1,2,11,12,13]),(3,[1,2,11,12,13,14]),(4,[1,2,9,10,11,12,13]),(5,[1,2,8,11,12,13]),(6,[1,2,11,12,13,29]),(7,[6,7]),(8,[1,2,11,12,13]),(9,[6,7])] }
def F109:FA:= { n:=57,sh:=[y1,y11,y7,y6,vi,vi,y1,vl,y4,vl,y23,vi,y9,vl,vi,vb,vi,vi,y4,vl,y9,vl,vi,y12,y1,y1,vl,vl,y4,vi,y42,vl,vi,vb,vi,vi,y23,vl,y42,vl,vi,y34,y12,y1,y1,y42,vl,vi,y34,y12,y1,y1,y37,vl,vl,y23,y1],obs:=[(1,tl0),(2,tl0),(3,tl0)],tk:=[16,19,34,37,56],dp:=[7,9,26,27,53,54],keep:=[(0,[1,2]),(1,[1,2,3]),(2,[1,2,3]),(3,[1,2,3]),(4,[1,2,3,4]),(5,[1,2,3,4,15]),(6,[1,2,3,4]),(7,[1,2,3,4]),(8,[1,2,3,5]),(9,[1,2,3,5,33]),(10,[1,2,3,5]),(11,[1,2,3,5]),(12,[2])] }
def F112:FA:= { n:=18,sh:=[vl,vs,vj,vj,vb,vi,vi,vl,vi,vb,vi,vi,vl,vi,y24,vs,vs,vb],obs:=[],tk:=[10],keep:=[(0,[0,1]),(1,[0,1,5]),(2,[0,1,5,9]),(3,[0,1,5]),(4,[0,1,5,17]),(5,[4]),(6,[4])] }
def F114:FA:= { n:=36,sh:=[vs,vj,vb,vi,vi,vb,vi,vs,vi,vb,vi,vi,vs,vi,vy,vi,vi,vb,vb,vb,vb,vi,vb,vb,vi,vb,vb,vb,vi,vb,vb,vb,vb,vs,vi,vb],obs:=[],tk:=[10,18,20,23,27,28,33],keep:=[(0,[0]),(1,[0,3]),(2,[0,3,9]),(3,[0,3]),(4,[0,3,4]),(5,[0,3,4,5]),(6,[0,3,32]),(7,[2]),(8,[2])] }
def F115:FA:= { n:=13,sh:=[vs,vj,vb,vs,vb,vb,vs,vb,vb,vb,vs,vb,vb],obs:=[],tk:=[5,9,10],keep:=[(0,[0]),(1,[2])] }
def F120:FA:= { n:=35,sh:=[vs,vj,vb,vi,vi,vs,vi,vb,vi,vi,vs,vi,vy,vb,vb,vb,vi,vb,vb,vs,vi,vy,vb,vb,vb,vs,vi,vy,vb,vb,vb,vb,vs,vi,vb],obs:=[],tk:=[8,15,18,24,32],keep:=[(0,[0]),(1,[0,3]),(2,[0,3,7]),(3,[0,3]),(4,[0,3,31]),(5,[2]),(6,[2])] }
def F128:FA:= { n:=134,sh:=[y1,vb,y7,vj,vb,vi,y40,vl,vi,y7,vi,vb,vb, .one (.ptr 2 4),vl,vi,vb,vb,vb,y7,vi,vb,vb,y41,vi,vb,vb,vb,y7,vi,vb,vb,y41,vi,vb,vb,y18,vs,vb,vb,vb,vi,vb,vb,vb,vb,y18,vs,vb,vb,vi,vb,vb,vb,vb,y18,vs,vb,vb,vi,vb,vb,vb,vb,vb,y18,vs,vb,vb,vb,vb,vb,vb,y18,vs,vb,vb,vi,vb,vb,vb,vb,y18,vs,vb,vb,vi,vb,vb,vb,vb,vb,vb,vb,y18,vs,vb,vb,vb,vi,vb,vb,vb,vb,vb,vb,vb,y18,vs,vb,vb,vb,vi,vb,vb,vb,vb,vb,vb,vb,y18,vs,vb,vb,vb,vi,vb,vb,vb, .one (.ptr 2 4),vl,vi,vb,vb],obs:=[(2,tl0)],tk:=[7,12,18,22,29,33,35,37,40,41,47,49,50,58,59,62,63,64,66,74,76,77,83,85,86,91,93,95,98,99,104,106,108,111,112,117,119,121,124,125,128,130],keep:=[(0,[1,2]),(1,[1,2,5]),(2,[1,2,5,27]),(3,[4]),(4,[1,2,5,29]),(5,[1,2,5,29,30]),(6,[4]),(7,[1,2,5,29,44]),(8,[4]),(9,[1,2,5,29,53]),(10,[4]),(11,[1,2,5,29,70]),(12,[1,2,5,29,70]),(13,[4]),(14,[1,2,5,29,80]),(15,[4]),(16,[1,2,5,29,89]),(17,[4]),(18,[1,2,5,29,102]),(19,[4]),(20,[1,2,5,115]),(21,[4]),(22,[4])] }
def F129:FA:= { n:=85,sh:=[y2,y11,vb,y11,vi,vb,vb,y20,vi,vb,vb,y13,vs,vb,vb,vb,y9,vl,vi,vb,vb,vb,vb,y13,vs,vb,vb,y20,vi,vb,vb,vb,y9,vl,vi,vb,vb,vb,vb,y20,vi,vb,vb,y13,vs,vb,vb,vb,y9,vl,vi,vb,vb,vb,vb,y20,vi,vb,vb,y13,vs,vb,vb,vb,y9,vl,vi,vb,vb,vb,vb,y20,vi,vb,vb,y13,vs,vb,vb,vb,y9,vl,vi,vb,vb],obs:=[(1,tl1)],tk:=[4,8,10,12,15,17,24,26,28,31,33,40,42,44,47,49,56,58,60,63,65,72,74,76,79,81],keep:=[(0,[1]),(1,[1,4]),(2,[1,4,5]),(3,[2]),(4,[1,4,21]),(5,[2]),(6,[1,4,37]),(7,[2]),(8,[1,4,53]),(9,[2]),(10,[1,69]),(11,[2]),(12,[2])] }
def F130:FA:= { n:=5,sh:=[vi,vj,y7,vi,y1],obs:=[(2,tl0)],tk:=[3],keep:=[(0,[0,2]),(1,[2])] }
def F131:FA:= { n:=5,sh:=[vs,vj,y7,vs,y1],obs:=[(2,tl0)],tk:=[3],keep:=[(0,[0,2]),(1,[2])] }
def F132:FA:= { n:=45,sh:=[y0,y2,vj,y6,y5,vi,y2,y2,y0,vi,vb,vb,y0,vi,y6,vb,vb,y0,vl,vi,y29,vb,vb,y0,vl,vs,y17,vb,vb,y4,vl,y2,vl,vl,y4,vb,vb,vi,vb,vi,vi,y2,vl,y2,y2],obs:=[(3,tl1),(4,tl1),(1000000,tl3)],tk:=[6,12,17,23,30,39,41,44],dp:=[18,24,32,33,42],fz:=[18,24],keep:=[(0,[0,3,4]),(1,[0,3,4]),(2,[0,3,4,9]),(3,[0,3,4,9,10]),(4,[3,4]),(5,[0,3,4,9,15]),(6,[3,4]),(7,[0,3,4,9,21]),(8,[3,4]),(9,[3,4,9,27]),(10,[3,4]),(11,[3,4,35]),(12,[3,4,5]),(13,[3,4,5,38]),(14,[3,4,5]),(15,[3,4,5]),(16,[4])] }
def F133:FA:= { n:=74,sh:=[y0,y1,vj,y6,y5,y21,vi,y32,y1,y1,y0,vi,vb,vb,y0,vi,y6,vb,vb,y0,vl,vi,y29,vb,vb,y0,vl,vs,y17,vb,vb,y4,vl,y1,vl,vl,y4,vb,vb,y1,y1,y23,vl,y1,y1,y37,vl,vl,y23,vb,vb,vi,vb,vi,vi,y1,y1,vl,y1,vb,vb,y23,vl,vi,vb,y23, .one (.al (.oc 3 4) []),y1,y1,vl,y1,y43,y43,y1],obs:=[(3,tl0),(4,tl0),(5,tl0),(7,tl0),(1000000,tl3)],al:=[66],tk:=[8,14,19,25,32,42,44,53,55,56,73],dp:=[20,26,34,35,46,47,57,69],fz:=[20,26],keep:=[(0,[0,3,4]),(1,[0,3,4]),(2,[0,3,4,11]),(3,[0,3,4,11,12]),(4,[3,4]),(5,[0,3,4,11,17]),(6,[3,4]),(7,[0,3,4,11,23]),(8,[3,4]),(9,[3,4,11,29]),(10,[3,4]),(11,[3,4,11,37]),(12,[3,4,5]),(13,[3,4]),(14,[3,4,11,49]),(15,[3,4,6]),(16,[3,4,6,52]),(17,[3,4,6]),(18,[3,4,6,7]),(19,[3,4,6]),(20,[3,4,59]),(21,[3,4,64]),(22,[3,4]),(23,[4])] }
def F134:FA:= { n:=13,sh:=[y0,vj,y7,y6,y0,vl,y1,y0,vb,y0,y1,y1,y1],obs:=[(2,tl0),(3,tl0),(1000000,tl3)],tk:=[9,10,12],dp:=[5],fz:=[5,10],keep:=[(0,[0,2]),(1,[0,2,3]),(2,[0,2,3,8]),(3,[2,3]),(4,[2])] }
def F135:FA:= { n:=107,sh:=[vi,vi,vs,vi,vj,vj,vj,vj,vb,vi,vb,vb,vi,vb,vb,vs,vb,vb,vb,vi,vb,vb,vb,vb,vi,vb,vb,vs,vb,vb,vb,vi,vb,vb,vb,vb,vi,vb,vb,vs,vb,vb,vb,vi,vb,vb,vb,vb,vb,vi,vb,vb,vs,vb,vb,vb,vi,vb,vb,vb,vb,vi,vb,vb,vs,vb,vb,vb,vi,vb,vb,vb,vb,vi,vb,vb,vs,vb,vb,vb,vi,vb,vb,vb,vb,vi,vb,vb,vs,vb,vb,vb,vi,vb,vb,vb,vb,vi,vb,vb,vs,vb,vb,vb,vi,vb,vb],obs:=[],tk:=[9,12,14,15,18,19,24,26,27,30,31,36,38,39,42,43,49,51,52,55,56,61,63,64,67,68,73,75,76,79,80,85,87,88,91,92,97,99,100,103,104],keep:=[(0,[0,1,2,3]),(1,[1,2,3,9]),(2,[1,2,3,9,10]),(3,[8]),(4,[1,2,3,9,22]),(5,[8]),(6,[1,2,3,9,34]),(7,[8]),(8,[1,2,3,9,46]),(9,[1,2,3,9,46]),(10,[8]),(11,[1,2,3,9,59]),(12,[8]),(13,[1,2,3,9,71]),(14,[8]),(15,[1,2,3,9,83]),(16,[8]),(17,[1,2,3,95]),(18,[8]),(19,[8])] }
def F136:FA:= { n:=9,sh:=[vl,vs,vj,vj,vb,vl,vs,vi,vb],obs:=[],tk:=[5,6],keep:=[(0,[0,1]),(1,[4])] }
def F137:FA:= { n:=85,sh:=[y2,y11,vb,y11,vi,vb,vb,y20,vi,vb,vb,y13,vs,vb,vb,vb,y9,vl,vi,vb,vb,vb,vb,y20,vi,vb,vb,y13,vs,vb,vb,vb,y9,vl,vi,vb,vb,vb,vb,y20,vi,vb,vb,y13,vs,vb,vb,vb,y9,vl,vi,vb,vb,vb,vb,y20,vi,vb,vb,y13,vs,vb,vb,vb,y9,vl,vi,vb,vb,vb,vb,y20,vi,vb,vb,y13,vs,vb,vb,vb,y9,vl,vi,vb,vb],obs:=[(1,tl1)],tk:=[4,8,10,12,15,17,24,26,28,31,33,40,42,44,47,49,56,58,60,63,65,72,74,76,79,81],keep:=[(0,[1]),(1,[1,4]),(2,[1,4,5]),(3,[2]),(4,[1,4,21]),(5,[2]),(6,[1,4,37]),(7,[2]),(8,[1,4,53]),(9,[2]),(10,[1,69]),(11,[2]),(12,[2])] }
def F142:FA:= { n:=15,sh:=[vi,vi,vi,vj,vj,vj,vb,vi,vi,vb,vb,vi,vi,vb,vb],obs:=[],tk:=[8,10,11,12],keep:=[(0,[0,1,2]),(1,[6])] }
def F144:FA:= { n:=9,sh:=[vy,vj,vb,vy,vb,vb,vy,vb,vb],obs:=[],tk:=[5,6],keep:=[(0,[0]),(1,[2])] }
def F145:FA:= { n:=9,sh:=[vy,vj,vb,vy,vb,vb,vy,vb,vb],obs:=[],tk:=[5,6],keep:=[(0,[0]),(1,[2])] }
def F146:FA:= { n:=15,sh:=[vi,vi,vi,vj,vj,vj,vb,vi,vi,vb,vb,vi,vi,vb,vb],obs:=[],tk:=[8,10,11,12],keep:=[(0,[0,1,2]),(1,[6])] }
def F148:FA:= { n:=19,sh:=[vl,vs,vj,vj,vi,vi,vl,vi,vi,vb,vi,vs,vl,vi,y24,vs,vb,vi,vi],obs:=[],tk:=[8,17],keep:=[(0,[0,1]),(1,[0,1,7,8]),(2,[0,1,7,8,9]),(3,[0,1,5,7,8]),(4,[0,1,5,7,8,16]),(5,[4]),(6,[0,1,7,8]),(7,[4])] }
def F153:FA:= { n:=36,sh:=[vs,vj,vb,vi,vi,vs,vi,vb,vi,vi,vs,vi,vy,vb,vb,vb,vi,vb,vb,vs,vi,vy,vb,vb,vb,vs,vi,vy,vb,vb,vb,vb,vb,vs,vi,vb],obs:=[],tk:=[8,15,18,24,33],keep:=[(0,[0]),(1,[0,3]),(2,[0,3,7]),(3,[0,3]),(4,[0,3,32]),(5,[2]),(6,[2])] }
def F154:FA:= { n:=21,sh:=[vs,vj,vb,vs,vb,vb,vs,vb,vb,vb,vs,vb,vb,vb,vs,vb,vb,vb,vs,vb,vb],obs:=[],tk:=[5,9,13,17,18],keep:=[(0,[0]),(1,[2])] }
def F155:FA:= { n:=14,sh:=[y0,vl,vj,vj,y5,y21,y0,vl,y1,y1,vb,vb,y1,y1],obs:=[(4,tl0),(5,tl0),(1000000,tl3)],tk:=[6,7,13],keep:=[(0,[0,1,4]),(1,[4,5]),(2,[4,5,11]),(3,[4]),(4,[4])] }
def F156:FA:= { n:=23,sh:=[vs,vj,vb,vi,vi,vs,vi,vb,vi,vi,vs,vi,vy,vb,vb,vs,vi,vb,vb,vs,vy,vb,vb],obs:=[],tk:=[8,18,19],keep:=[(0,[0]),(1,[0,3]),(2,[0,3,7]),(3,[0,3]),(4,[0,3,14]),(5,[2]),(6,[2])] }
def F157:FA:= { n:=10,sh:=[vs,vj,vb,vs,vb,vb,vb,vb,vb,vb],obs:=[],tk:=[3],keep:=[(0,[0]),(1,[3]),(2,[3,4]),(3,[3,4]),(4,[3,4]),(5,[3,4]),(6,[4]),(7,[2]),(8,[2])] }
def F159:FA:= { n:=6,sh:=[y1,y11,vb,y1,vi,vb],obs:=[(1,tl0)],tk:=[3],keep:=[(0,[1]),(1,[2])] }
def F163:FA:= { n:=10,sh:=[vy,vj,vb,vy,vi,vb,vb,vy,vb,vb],obs:=[],tk:=[6,7],keep:=[(0,[0]),(1,[2])] }
def F164:FA:= { n:=6,sh:=[vy,vj,vb,vy,vi,vb],obs:=[],tk:=[3],keep:=[(0,[0]),(1,[2])] }
def F165:FA:= { n:=6,sh:=[vy,vj,vb,vy,vi,vb],obs:=[],tk:=[3],keep:=[(0,[0]),(1,[2])] }
def F166:FA:= { n:=184,sh:=[y0,vi,vl,vj,vj,vj,y36,vi,y26,vi,y22,vi,vi, .one (.ptr 13 0),vi, .one (.ptr 15 0), .one (.ptr 16 0),y0,vi,vi,vb,y0,vi,vi,vb,vb,y0,vl,vi,y1,vb,vb,y0,vl,vs,y1,vb,vb,vb,vb,vl,vi,vb,vl,y0,vl,vi,vi,y24,vs,y1,y0,vi,y1,vb,vb,vb,y0,vl,vs,y0,vi,vi,vl,y1,y0,vi,vi,vl,y1,vl,y1,vb,vb,y0,vl,vi,y1,y0,vi,vi,vb,vi,vi,y25,vl,y0,vi,vi,vl,y1,vl,vl,y25,y1,vb,vb,y0,vi,vi,vl,y1,y0,vi,vi,vl,y1,vl,y1,vl,y1,vb,vb,y0,vl,vs,y1, .one (.ptr 10 2),vs,vb,vi,vi,vb,vi,vi, .one (.ptr 10 3),vl,y0,vi,vi,vl,y1,vl,vl, .one (.ptr 10 3),y1,y0,vi,vi,vl,y1,vl,y1,y0,vi,vi,vi,vb,vi,vi,vl,y0,y1,y35,vl,y1,y0,vi,vi,vl,vl,vl,vl,vl,y1,y37,vl,vl,y35,y0,vb,y35,vl,y1,y0,vi,vi,vl,y1,y37,vl,vl,y35,y1],obs:=[(6,tl0),(8,tl0),(10,tl0),(13,tl0),(15,[.sl []]),(16,tl0),(1000000,tl3)],tk:=[23,26,32,44,45,51,65,66,68,82,85,94,102,103,105,123,126,135,148,154,155,162,172,174,175,177,183],dp:=[27,33,58,70,75,91,92,107,109,114,132,133,141,150,159,161,163,166,167,180,181],fz:=[27,33,58,75,114,163],keep:=[(0,[0,1,2,6]),(1,[0,1,2,6,7]),(2,[0,1,2,6,7,20]),(3,[0,1,2,6,7]),(4,[0,1,2,6,23]),(5,[0,1,2,6,23,24]),(6,[6]),(7,[0,1,2,6,23,30]),(8,[6]),(9,[0,1,2,6,23,36]),(10,[0,1,2,6,23,36]),(11,[0,1,2,6,23,36]),(12,[0,2,6,42]),(13,[6]),(14,[6]),(15,[0,1,2,6,23,54]),(16,[0,1,2,6,23,54]),(17,[6]),(18,[0,1,2,6,23,72]),(19,[0,1,2,6,8]),(20,[0,1,2,6,8,9]),(21,[0,1,2,6,8,9,81]),(22,[0,1,2,6,8,9]),(23,[0,1,2,6,8,9]),(24,[6]),(25,[0,1,2,6,23,95]),(26,[6]),(27,[0,1,2,6,111]),(28,[0,1,2,6,10]),(29,[0,1,2,6,10,11]),(30,[0,1,2,6,10,11,119]),(31,[0,1,2,6,10,11]),(32,[0,1,2,6,10,11,12]),(33,[0,1,2,6,10,11,12,122]),(34,[0,1,2,6,10,11,12]),(35,[0,1,2,6,10,11,12]),(36,[6]),(37,[0,1,2,6,13]),(38,[0,1,2,6,13,14]),(39,[0,1,2,6,13,14,147]),(40,[0,1,2,6,13,14]),(41,[0,1,2,6,13,14,15]),(42,[0,1,2,6,13,14,15,16]),(43,[0,1,2,6,13,14]),(44,[0,1,2,6,13,170]),(45,[6,13]),(46,[6])] }
def F167:FA:= { n:=13,sh:=[vy,vj,vb,vy,vb,vb,vy,vb,vb,vb,vy,vb,vb],obs:=[],tk:=[5,9,10],keep:=[(0,[0]),(1,[2])] }
def F168:FA:= { n:=13,sh:=[vy,vj,vb,vy,vb,vb,vy,vb,vb,vb,vy,vb,vb],obs:=[],tk:=[5,9,10],keep:=[(0,[0]),(1,[2])] }
def An:FuncId→FA
  | 4=>F4
  | 9=>F9
  | 12=>F12
  | 21=>F21
  | 22=>F22
  | 23=>F23
  | 24=>F24
  | 25=>F25
  | 42=>F42
  | 43=>F43
  | 44=>F44
  | 45=>F45
  | 49=>F49
  | 50=>F50
  | 56=>F56
  | 57=>F57
  | 58=>F58
  | 59=>F59
  | 60=>F60
  | 61=>F61
  | 62=>F62
  | 63=>F63
  | 64=>F64
  | 74=>F74
  | 79=>F79
  | 86=>F86
  | 87=>F87
  | 88=>F88
  | 89=>F89
  | 90=>F90
  | 91=>F91
  | 93=>F93
  | 95=>F95
  | 96=>F96
  | 97=>F97
  | 98=>F98
  | 99=>F99
  | 100=>F100
  | 101=>F101
  | 102=>F102
  | 103=>F103
  | 104=>F104
  | 109=>F109
  | 112=>F112
  | 114=>F114
  | 115=>F115
  | 120=>F120
  | 128=>F128
  | 129=>F129
  | 130=>F130
  | 131=>F131
  | 132=>F132
  | 133=>F133
  | 134=>F134
  | 135=>F135
  | 136=>F136
  | 137=>F137
  | 142=>F142
  | 144=>F144
  | 145=>F145
  | 146=>F146
  | 148=>F148
  | 153=>F153
  | 154=>F154
  | 155=>F155
  | 156=>F156
  | 157=>F157
  | 159=>F159
  | 163=>F163
  | 164=>F164
  | 165=>F165
  | 166=>F166
  | 167=>F167
  | 168=>F168
  | _=> { n:=0,sh:=[],obs:=[] }
abbrev sg4:Sg:= { bi:=x6,bo:=x0,np:=1,ext:=false }
abbrev sg9:Sg:= { bi:=x12,bo:=⟨[(0,[[.S, .S, .S, .F],[.F],[.S]])],[]⟩,np:=2 }
abbrev sg12:Sg:= { bi:=x12,bo:=⟨[(0,[[.S, .S, .S, .F],[.A 4],[.S]])],[]⟩,np:=2 }
abbrev sg21:Sg:= { bi:=x6,bo:=x0,np:=1,ext:=false }
abbrev sg22:Sg:= { bi:=x6,bo:=⟨[(0,[[.S, .S, .S, .F, .F],[.U 4]])],[]⟩,np:=1 }
abbrev sg23:Sg:= { bi:=⟨[(0,[[.F]]),(1,[[.F]])],[]⟩,bo:=x0,np:=2,ext:=false }
abbrev sg24:Sg:= { bi:=⟨[(0,[[.S, .S, .S, .F]]),(1,[[.S, .S, .S, .F]])],[]⟩,bo:=x0,np:=2,ext:=false }
abbrev sg25:Sg:= { bi:=⟨[(0,[[.S, .S, .S, .F, .F]]),(1,[[.S, .S, .S, .F]])],[]⟩,bo:=x11,np:=2 }
abbrev sg42:Sg:= { bi:=x6,bo:=⟨[(0,[[.U 4]])],[]⟩,np:=1,ext:=false }
abbrev sg43:Sg:= { bi:=x5,bo:=x0,np:=1,ext:=false }
abbrev sg44:Sg:= { bi:=x4,bo:=x0,np:=1,ext:=false }
abbrev sg45:Sg:= { bi:=⟨[(0,[[.S, .S, .S, .F, .F]]),(1,[[.S, .S, .S, .F]]),(2,[[.S]])],[(1000000,[.A 5])]⟩,bo:=x14,np:=3,no:=1 }
abbrev sg49:Sg:= { bi:=x6,bo:=⟨[(0,[[.A 4]])],[]⟩,np:=1 }
abbrev sg50:Sg:= { bi:=⟨[(0,[[.A 4]]),(1,[[.S]]),(2,[[.S]])],[]⟩,bo:=⟨[(0,[[.A 4]])],[]⟩,np:=3 }
abbrev sg56:Sg:= { bi:=x6,bo:=⟨[(0,[[.S]])],[(0,[.F, .S, .S])]⟩,np:=1 }
abbrev sg57:Sg:= { bi:=x6,bo:=⟨[(0,[[.S, .S, .S, .F, .F],[.S, .S, .S, .U 4]])],[]⟩,np:=1 }
abbrev sg58:Sg:= { bi:=x7,bo:=x1,np:=2,no:=1 }
abbrev sg59:Sg:= { bi:=x7,bo:=x3,np:=2,no:=1 }
abbrev sg60:Sg:= { bi:=x7,bo:=x1,np:=2,no:=1 }
abbrev sg61:Sg:= { bi:=⟨[(0,[[.F]]),(1,[[.F]]),(2,[[.S]])],[]⟩,bo:=x0,np:=3,ext:=false }
abbrev sg62:Sg:= { bi:=x5,bo:=x0,np:=1,ext:=false }
abbrev sg63:Sg:= { bi:=x4,bo:=x0,np:=1,ext:=false }
abbrev sg64:Sg:= { bi:=⟨[(0,[[.S, .S, .S, .F, .F]]),(1,[[.S, .S, .S, .F]]),(2,[[.A 5]])],[]⟩,bo:=x11,np:=3 }
abbrev sg74:Sg:= { bi:=x0,bo:=x0,np:=1,ext:=false }
abbrev sg79:Sg:= { bi:=x0,bo:=x0,np:=1,ext:=false }
abbrev sg86:Sg:= { bi:=x4,bo:=⟨[(0,[[.S, .S, .S, .U 4]])],[]⟩,np:=1,ext:=false }
abbrev sg87:Sg:= { bi:=⟨[(0,[[.S, .S, .S, .F, .F]]),(1,[[.S]]),(2,[[.S]]),(3,[[.S]])],[]⟩,bo:=x0,np:=4,ext:=false }
abbrev sg88:Sg:= { bi:=x6,bo:=x0,np:=1,ext:=false }
abbrev sg89:Sg:= { bi:=x5,bo:=⟨[(0,[[.U 1]])],[]⟩,np:=1,ext:=false }
abbrev sg90:Sg:= { bi:=⟨[(0,[[.S, .S, .S, .F]]),(1,[[.S]]),(2,[[.S]])],[]⟩,bo:=x0,np:=3,ext:=false }
abbrev sg91:Sg:= { bi:=⟨[(0,[[.F]]),(1,[[.F]]),(2,[[.S]])],[(1000000,[.A 5])]⟩,bo:=x14,np:=3,no:=1 }
abbrev sg93:Sg:= { bi:=x4,bo:=⟨[(0,[[.S, .S, .S, .A 4]])],[]⟩,np:=1 }
abbrev sg95:Sg:= { bi:=⟨[(0,[[.S]]),(1,[[.S]]),(2,[[.S]])],[(1000000,[.F, .S, .S]),(1000001,[.A 1])]⟩,bo:=⟨[(0,[[.S, .S, .S, .U 5, .N]])],[(1000000,[.F, .S, .S]),(1000001,[.A 1])]⟩,np:=3,no:=2 }
abbrev sg96:Sg:= { bi:=x9,bo:=x3,np:=2,no:=1 }
abbrev sg97:Sg:= { bi:=x1,bo:=x3,np:=1,no:=1 }
abbrev sg98:Sg:= { bi:=x1,bo:=⟨[(0,[[.S, .S, .S, .F, .F]])],[(1000000,[.F, .S, .S])]⟩,np:=1,no:=1 }
abbrev sg99:Sg:= { bi:=x1,bo:=x1,np:=1,no:=1 }
abbrev RM:Sg:= { bi:=x8,bo:=x1,np:=2,no:=1 }
abbrev RL:Sg:= { bi:=x8,bo:=x1,np:=2,no:=1 }
abbrev RK:Sg:= { bi:=⟨[(0,[[.S]]),(1,[[.S, .S, .S, .F, .F]]),(2,[[.S]])],[(1000000,[.S, .A 1])]⟩,bo:=⟨[(0,[[.S]])],[(1000000,[.S, .A 1])]⟩,np:=3,no:=1 }
abbrev RJ:Sg:= { bi:=⟨[(0,[[.S, .S, .S, .F]]),(1,[[.S]])],[]⟩,bo:=x0,np:=2,ext:=false }
abbrev RI:Sg:= { bi:=⟨[(0,[[.F]]),(1,[[.F]]),(2,[[.A 5]])],[]⟩,bo:=x11,np:=3 }
abbrev RH:Sg:= { bi:=x5,bo:=⟨[(0,[[.S, .S, .S, .U 5, .U 10]])],[]⟩,np:=1,ext:=false }
abbrev RG:Sg:= { bi:=x10,bo:=x0,np:=2,ext:=false }
abbrev RF:Sg:= { bi:=x0,bo:=x0,np:=1,ext:=false }
abbrev RE:Sg:= { bi:=x0,bo:=x0,np:=1,ext:=false }
abbrev RD:Sg:= { bi:=x0,bo:=x0,np:=1,ext:=false }
abbrev RC:Sg:= { bi:=⟨[(0,[[.S, .S, .S, .F, .F]]),(1,[[.S]])],[]⟩,bo:=x0,np:=2,ext:=false }
abbrev RB:Sg:= { bi:=x4,bo:=x0,np:=1,ext:=false }
abbrev RA:Sg:= { bi:=x0,bo:=x15,np:=1,ext:=false }
abbrev Qz:Sg:= { bi:=x0,bo:=x15,np:=1,ext:=false }
abbrev Qy:Sg:= { bi:=⟨[(0,[[.S]]),(1,[[.S, .S, .S, .F]])],[(1000000,[.F, .S, .S])]⟩,bo:=x3,np:=2,no:=1 }
abbrev Qx:Sg:= { bi:=x9,bo:=x2,np:=2,no:=1 }
abbrev Qw:Sg:= { bi:=x1,bo:=x2,np:=1,no:=1 }
abbrev Qv:Sg:= { bi:=⟨[(0,[[.S]]),(1,[[.S]]),(2,[[.S]]),(3,[[.S]])],[]⟩,bo:=x0,np:=4,ext:=false }
abbrev Qu:Sg:= { bi:=x10,bo:=x0,np:=2,ext:=false }
abbrev Qt:Sg:= { bi:=x4,bo:=x0,np:=1,ext:=false }
abbrev Qs:Sg:= { bi:=x13,bo:=x0,np:=3,ext:=false }
abbrev Qr:Sg:= { bi:=x0,bo:=x0,np:=1,ext:=false }
abbrev Qq:Sg:= { bi:=x0,bo:=x0,np:=1,ext:=false }
abbrev Qp:Sg:= { bi:=x13,bo:=x0,np:=3,ext:=false }
abbrev Qo:Sg:= { bi:=x10,bo:=x0,np:=2,ext:=false }
abbrev Qn:Sg:= { bi:=x0,bo:=x0,np:=1,ext:=false }
abbrev Qm:Sg:= { bi:=x0,bo:=x0,np:=1,ext:=false }
abbrev Ql:Sg:= { bi:=x8,bo:=x2,np:=2,no:=1 }
abbrev Qk:Sg:= { bi:=x0,bo:=x0,np:=1,ext:=false }
abbrev Qj:Sg:= { bi:=x0,bo:=x0,np:=1,ext:=false }
abbrev Qi:Sg:= { bi:=x5,bo:=x0,np:=1,ext:=false }
abbrev Qh:Sg:= { bi:=x0,bo:=x0,np:=1,ext:=false }
abbrev Qg:Sg:= { bi:=x0,bo:=x0,np:=1,ext:=false }
abbrev Qf:Sg:= { bi:=x0,bo:=x0,np:=1,ext:=false }
abbrev Qe:Sg:= { bi:=⟨[(0,[[.S]]),(1,[[.S]]),(2,[[.F]])],[(1000000,[.F, .S, .S])]⟩,bo:=x2,np:=3,no:=1 }
abbrev Qd:Sg:= { bi:=x0,bo:=x0,np:=1,ext:=false }
abbrev Qc:Sg:= { bi:=x0,bo:=x0,np:=1,ext:=false }
def Sgs:FuncId→List Sg
  | 4=> [sg4]
  | 9=> [sg9]
  | 12=> [sg12]
  | 21=> [sg21]
  | 22=> [sg22]
  | 23=> [sg23]
  | 24=> [sg24]
  | 25=> [sg25]
  | 42=> [sg42]
  | 43=> [sg43]
  | 44=> [sg44]
  | 45=> [sg45]
  | 49=> [sg49]
  | 50=> [sg50]
  | 56=> [sg56]
  | 57=> [sg57]
  | 58=> [sg58]
  | 59=> [sg59]
  | 60=> [sg60]
  | 61=> [sg61]
  | 62=> [sg62]
  | 63=> [sg63]
  | 64=> [sg64]
  | 74=> [sg74]
  | 79=> [sg79]
  | 86=> [sg86]
  | 87=> [sg87]
  | 88=> [sg88]
  | 89=> [sg89]
  | 90=> [sg90]
  | 91=> [sg91]
  | 93=> [sg93]
  | 95=> [sg95]
  | 96=> [sg96]
  | 97=> [sg97]
  | 98=> [sg98]
  | 99=> [sg99]
  | 100=> [RM]
  | 101=> [RL]
  | 102=> [RK]
  | 103=> [RJ]
  | 104=> [RI]
  | 109=> [RH]
  | 112=> [RG]
  | 114=> [RF]
  | 115=> [RE]
  | 120=> [RD]
  | 128=> [RC]
  | 129=> [RB]
  | 130=> [RA]
  | 131=> [Qz]
  | 132=> [Qy]
  | 133=> [Qx]
  | 134=> [Qw]
  | 135=> [Qv]
  | 136=> [Qu]
  | 137=> [Qt]
  | 142=> [Qs]
  | 144=> [Qr]
  | 145=> [Qq]
  | 146=> [Qp]
  | 148=> [Qo]
  | 153=> [Qn]
  | 154=> [Qm]
  | 155=> [Ql]
  | 156=> [Qk]
  | 157=> [Qj]
  | 159=> [Qi]
  | 163=> [Qh]
  | 164=> [Qg]
  | 165=> [Qf]
  | 166=> [Qe]
  | 167=> [Qd]
  | 168=> [Qc]
  | _=> []
end Go.Own
