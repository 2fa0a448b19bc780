/- A calculus for runs on plain data (part 1): whoever runs code on data, with its owners checked, runs the program. No conditions. -/
import Derived.Below
import Derived.Laws.AppendOwn
import Derived.Laws.BytesString
import Derived.Laws.Cells
import Derived.Laws.Entries
import Derived.Laws.MakeOwn
import Derived.Laws.OwnMore
import Derived.Laws.Pointers
import Derived.Laws.Rows
import Derived.Laws.Slices
import Derived.Laws.Small
import Derived.Laws.Strings
import Derived.Laws.StructEq
import Derived.Lib.AppendStr
import Derived.Orders
set_option linter.unusedVariables false
set_option linter.unusedSimpArgs false
set_option linter.unnecessarySimpa false
namespace Go.Own
abbrev z7 := @Bool.and_eq_true
abbrev z8 := @Option.bind_some
abbrev z9 := @decide_eq_false
abbrev z10 := @Option.some.injEq
abbrev z11 := @cond_false
abbrev z12 := @List.getElem?_eq_getElem
abbrev z13 := @decide_eq_true
abbrev z14 := @if_neg
abbrev z15 := @cond_true
abbrev z16 := @Nat.eq_of_beq_eq_true
abbrev z17 := @List.length_append
abbrev z18 := @List.all_eq_true
abbrev z19 := @if_pos
abbrev z20 := @List.mem_of_getElem?
abbrev z21 := @List.length_singleton
abbrev z22 := @Option.bind_eq_some_iff
abbrev z23 := @decide_eq_true_eq
abbrev z24 := @List.getElem?_cons_zero
abbrev z25 := @List.getElem?_cons_succ
abbrev z26 := @Option.map_eq_some_iff
abbrev z27 := @Array.getElem?_toList
abbrev z28 := @Nat.zero_add
abbrev z29 := @List.mem_cons_of_mem
abbrev z30 := @List.getElem?_map
abbrev z31 := @Array.getElem?_eq_some_iff
abbrev z32 := @Bool.true_and
abbrev z33 := @Nat.le_of_ble_eq_true
abbrev z34 := @List.mem_cons_self
abbrev z35 := @Int.toNat_natCast
abbrev z36 := @Option.map_some
abbrev z37 := @Bool.not_true
abbrev z38 := @Bool.not_eq_true'
abbrev z39 := @Nat.le_refl
abbrev z40 := @Bool.false_or
abbrev z41 := @Prod.mk.injEq
abbrev z42 := @Nat.beq_refl
abbrev z43 := @Bool.or_eq_false_iff
abbrev z44 := @Array.mem_toList_iff
abbrev z45 := @List.getElem?_drop
abbrev z46 := @Option.some.inj
abbrev z47 := @Bool.or_eq_true
abbrev z48 := @decide_eq_false_iff_not
abbrev z49 := @List.map_congr_left
abbrev z50 := @List.mem_map
abbrev z51 := @List.length_cons
abbrev z52 := @List.map_cons
abbrev z53 := @List.length_nil
abbrev z54 := @Bool.false_eq_true
abbrev z55 := @Array.length_toList
abbrev z56 := @List.append_assoc
abbrev z57 := @Nat.mul_le_mul_right
abbrev z58 := @Array.getD_eq_getD_getElem?
abbrev z59 := @List.mem_range
abbrev z60 := @List.getElem?_of_mem
abbrev z61 := @List.countP_eq_length_filter
abbrev z62 := @List.getElem?_eq_none
abbrev z63 := @Nat.lt_of_lt_of_le
abbrev z64 := @List.length_take
abbrev z65 := @List.getElem?_set_self
abbrev z66 := @List.length_map
abbrev z67 := @List.mem_singleton
abbrev z68 := @Bool.and_false
abbrev z69 := @Option.getD_some
abbrev z70 := @List.getElem?_append_right
abbrev z71 := @List.length_set
abbrev z72 := @List.take_length
abbrev z73 := @Array.getElem?_eq_getElem
abbrev z74 := @List.getElem?_append_left
abbrev z75 := @Nat.add_zero
abbrev z76 := @List.nil_append
abbrev z77 := @List.length_drop
abbrev z78 := @List.length_eq_zero_iff
abbrev z79 := @List.getElem?_take
abbrev z80 := @List.mem_filter
abbrev z81 := @Nat.add_assoc
abbrev z82 := @Nat.add_sub_cancel_left
abbrev z83 := @Nat.le_trans
abbrev z84 := @List.cons_append
abbrev z85 := @Array.all_eq_true_iff_forall_mem
abbrev z86 := @Nat.zero_le
abbrev z87 := @Bool.and_self
abbrev z88 := @Option.isNone_iff_eq_none
abbrev z89 := @List.drop_eq_getElem_cons
abbrev z90 := @List.getElem?_toArray
abbrev z91 := @List.mem_append
abbrev z92 := @List.append_nil
abbrev z93 := @Bool.not_eq_true
abbrev z94 := @List.getElem?_set_ne
abbrev z95 := @List.all_cons
abbrev z96 := @Nat.succ_mul
abbrev z97 := @Nat.mod_eq_of_lt
abbrev z98 := @decide_eq_true_iff
abbrev z99 := @Nat.add_mul
abbrev Xr := @List.getElem?_eq_some_iff
abbrev RJ := @Bool.eq_iff_iff
abbrev z102 := @Array.getElem?_setIfInBounds_ne
abbrev RI := @List.cons.injEq
abbrev Tf := @List.size_toArray
abbrev Qg := @List.mem_cons
abbrev Vs := @Nat.testBit_two_pow
abbrev Qf := @Bool.and_true
abbrev z108 := @List.eq_nil_of_length_eq_zero
abbrev RH := @Bool.not_false
abbrev Xq := @List.filter_eq_nil_iff
abbrev Vr := @List.set_cons_succ
abbrev Qe := @Nat.lt_or_ge
abbrev z113 := @Array.getElem?_setIfInBounds_self_of_lt
abbrev Xp := @Array.getElem?_modify
abbrev Xo := @Nat.ble_eq_true_of_le
abbrev Xn := @List.take_append_drop
abbrev Vq := @List.flatMap_cons
abbrev z118 := @List.getD_eq_getElem?_getD
abbrev Xm := @List.range_eq_range'
abbrev Xl := @Nat.div_lt_of_lt_mul
abbrev Te := @Nat.testBit_or
abbrev Td := @List.drop_drop
abbrev Tc := @Bool.false_and
abbrev Vp := @List.not_mem_nil
abbrev Vn := @Option.bind_none
abbrev Xk := @List.getElem?_range
abbrev z127 := @Array.size_setIfInBounds
abbrev Nw := @Array.ext'
abbrev z129 := @Option.isSome_iff_exists
abbrev Vm := @Option.map_none
abbrev Xj := @Array.foldl_toList
abbrev Xi := @List.set_cons_zero
abbrev Xh := @List.filter_append
abbrev Xg := @List.any_eq_false
abbrev Xf := @Nat.add_sub_of_le
abbrev Tb := @List.map_nil
abbrev Ta := @Nat.mul_comm
abbrev z138 := @List.eq_nil_iff_forall_not_mem
abbrev z139 := @Array.mem_of_getElem?
abbrev Xe := @List.drop_length
abbrev Vl := @List.any_cons
abbrev Xd := @List.foldl_cons
abbrev z143 := @List.take_succ_cons
abbrev z144 := @Option.isSome_eq_false_iff
abbrev z145 := @Int.fdiv_eq_ediv_of_nonneg
abbrev z146 := @Int.tdiv_eq_ediv_of_nonneg
abbrev Vk := @Nat.sub_self
abbrev z148 := @UInt8.toNat_ofNat'
abbrev Vj := @List.map_map
abbrev Nv := @true_and
abbrev z151 := @Nat.eq_zero_or_pos
abbrev Vi := @Bool.or_true
abbrev z153 := @Int.tmod_lt_of_pos
abbrev Xc := @List.take_zero
abbrev z155 := @Array.mapM_eq_mapM_toList
abbrev z156 := @Classical.byContradiction
abbrev z157 := @List.mem_take_iff_getElem
abbrev z158 := @Classical.not_not
abbrev TZ := @Nat.mod_lt
abbrev z160 := @Array.getElem?_replicate
abbrev z161 := @List.mem_range'_1
abbrev z162 := @Bool.eq_false_or_eq_true
abbrev z163 := @List.nodup_append
abbrev Vh := @Int.le_refl
abbrev z165 := @List.getElem?_replicate
abbrev z166 := @List.filter_cons_of_pos
abbrev z167 := @List.getElem_mem
abbrev z168 := @List.any_eq_true
abbrev z169 := @List.zipIdx_cons
abbrev z170 := @List.range'_succ
abbrev z171 := @Array.getElem?_eq_none
abbrev z172 := @Array.getElem?_append
abbrev Xb := @List.map_set
abbrev z174 := @Bool.and_eq_false_iff
abbrev z175 := @List.length_replicate
abbrev z176 := @Int.tmod_nonneg
abbrev z177 := @List.nodup_nil
abbrev z178 := @Nat.mul_le_mul
abbrev z179 := @Bool.or_false
abbrev z180 := @Nat.sub_zero
abbrev z181 := @Nat.add_comm
abbrev z182 := @Nat.pow_succ
abbrev Vg := @and_true
end Go.Own
namespace Go.Own
open Go.RowKit

inductive T where
 | int (k:IntKind) (n:Int)
 | bool (b:Bool)
 | np
 | str (s:List UInt8)
 | sl (es:List (List T))
 | hole

inductive Loc where
 | none
 | ext
 | s (i k j:Nat)
 | obj (o:Nat)
 | oc (o j:Nat)
 deriving DecidableEq

inductive W where
 | junk
 | c (x:T)
 | ag (xs:List T)
 | ptr (o off:Nat)
 | cp (xs:List T)
 | pp (l:Loc) (p:List (Nat×Nat)) (i j:Nat)
 | al (l:Loc) (p:List (Nat×Nat))
 | nilp
 | ifc (isNil:Bool)
 | fn (f:FuncId) (caps:List (Nat×Nat))

inductive V where
 | one (w:W)
 | tup (ws:List W)

inductive K where
 | D | V | F | A (s:Nat) | U (s:Nat) | S | N
 deriving DecidableEq

def K.hold:K→Bool
 | .A _=>true
 | .U _=>true
 | _=>false

structure G where
 β:Nat→Nat
 own:Nat→Loc

abbrev Vz:=Nat→Option (List T)

def scal:T→Bool
 | .sl _=>false
 | .hole=>false
 | _=>true

inductive Rd (P:Nat→Prop) (w:World):Value→T→Prop
 | hole (v:Value) (h1: ∀cs,v≠ .agg cs) (h2: ∀vs,v≠ .tuple vs):Rd P w v .hole
 | int (k:IntKind) (n:Int):Rd P w (.int k n) (.int k n)
 | bool (b:Bool):Rd P w (.bool b) (.bool b)
 | np:Rd P w (.pointer none) .np
 | str (s:ByteArray):Rd P w (.string s) (.str s.data.toList)
 | nil (a:Option Addr) (cap:Nat):Rd P w (.slice a 0 cap) (.sl [])
 | sl (b off len cap s:Nat) (es:List (List T)) (cs:Nat→Nat→Value) (hl:es.length=len) (hc:len≤cap) (hs: ∀(i:Nat) (e:List T),es[i]? =some e→e.length=s) (hP:P b)
   (hm: ∀(i:Nat) (e:List T) (j:Nat) (x:T),es[i]? =some e→e[j]? =some x→w.cell? ⟨b,off+i*s+j,none⟩=some (cs i j))
   (hr: ∀(i:Nat) (e:List T) (j:Nat) (x:T),es[i]? =some e→e[j]? =some x→Rd P w (cs i j) x):Rd P w (.slice (some ⟨b,off,none⟩) len cap) (.sl es)

theorem cN{w w':World}{b k:Nat}(h:w'.heap[b]? =w.heap[b]?):w'.cell? ⟨b,k,none⟩=w.cell? ⟨b,k,none⟩:=by simp [World.cell?,h]

theorem Rd.mono{P P':Nat→Prop}{w w':World}(hP: ∀b,P b→P' b∧w'.heap[b]? =w.heap[b]?){v:Value}{x:T}(h:Rd P w v x):Rd P' w' v x:=by
 induction h with
 | hole v h1 h2=>exact .hole v h1 h2
 | int k n=>exact .int k n
 | bool b=>exact .bool b
 | np=>exact .np
 | str s=>exact .str s
 | nil a cap=>exact .nil a cap
 | sl b off len cap s es cs hl hc hs hPb hm hr ih=>
  exact .sl b off len cap s es cs hl hc hs (hP b hPb).1 (fun i e j x h1 h2=>(cN (hP b hPb).2).trans (hm i e j x h1 h2)) ih

theorem Rd.weaken{P P':Nat→Prop}{w:World}(hP: ∀b,P b→P' b){v:Value}{x:T}(h:Rd P w v x):Rd P' w v x:=h.mono fun b hb=>⟨hP b hb,rfl⟩

theorem Rd.scal{P P':Nat→Prop}{w w':World}{v:Value}{x:T}(h:Rd P w v x)(hx:scal x=true):Rd P' w' v x:=by
 cases h with
 | hole=>cases hx
 | int k n=>exact .int k n
 | bool b=>exact .bool b
 | np=>exact .np
 | str s=>exact .str s
 | nil a cap=>cases hx
 | sl=>cases hx

theorem Rd.not_agg{P:Nat→Prop}{w:World}{v:Value}{x:T}(h:Rd P w v x):(∀cs,v≠ .agg cs)∧ ∀vs,v≠ .tuple vs:=by
 cases h with
 | hole v h1 h2=>exact⟨h1,h2⟩
 | _=>exact⟨(by intro _ e; cases e),(by intro _ e; cases e)⟩

inductive Ow (Z:Nat→Prop) (deep:Bool) (w:World):Option Nat→(Nat→Prop)→Value→T→Prop
 | hole (t:Option Nat) (F:Nat→Prop) (v:Value) (h1: ∀cs,v≠ .agg cs) (h2: ∀vs,v≠ .tuple vs):Ow Z deep w t F v .hole
 | int (t:Option Nat) (F:Nat→Prop) (k:IntKind) (n:Int):Ow Z deep w t F (.int k n) (.int k n)
 | bool (t:Option Nat) (F:Nat→Prop) (b:Bool):Ow Z deep w t F (.bool b) (.bool b)
 | np (t:Option Nat) (F:Nat→Prop):Ow Z deep w t F (.pointer none) .np
 | str (t:Option Nat) (F:Nat→Prop) (s:ByteArray):Ow Z deep w t F (.string s) (.str s.data.toList)
 | nil (t:Option Nat) (F:Nat→Prop) (a:Option Addr):Ow Z deep w t F (.slice a 0 0) (.sl [])
 | frz (F:Nat→Prop) (v:Value) (x:T) (hd:deep=false) (h:Rd Z w v x):Ow Z deep w none F v x
 | sl (t:Option Nat) (F:Nat→Prop) (b len cap s:Nat) (arr:Array Value) (ty:TypeId) (es:List (List T)) (own:Nat→Nat×Nat) (cs:Nat→Nat→Value) (ht: ∀s0,t=some s0→s=s0) (hb:F b) (hh:w.heap[b]? =some (.cells arr ty (0,0))) (hl:es.length=len)
   (hc:len≤cap) (hcap:cap≤maxLen) (hs: ∀(i:Nat) (e:List T),es[i]? =some e→e.length=s) (ha:arr.size=cap*s)
   (hm: ∀(i:Nat) (e:List T) (j:Nat) (x:T),es[i]? =some e→e[j]? =some x→arr[i*s+j]? =some (cs i j))
   (hr: ∀(i:Nat) (e:List T) (j:Nat) (x:T),es[i]? =some e→e[j]? =some x→Ow Z deep w none (fun k=>F k∧k≠b∧own k=(i,j)) (cs i j) x):Ow Z deep w t F (.slice (some ⟨b,0,none⟩) len cap) (.sl es)

theorem Ow.mono{Z Z':Nat→Prop}{deep deep':Bool}{w w':World}{t:Option Nat}{F:Nat→Prop}{v:Value}{x:T}(h:Ow Z deep w t F v x)(hd:deep=false→deep'=false)(hZ:deep=false→ ∀b,Z b→Z' b∧w'.heap[b]? =w.heap[b]?):
  ∀ {F':Nat→Prop},(∀b,F b→F' b∧w'.heap[b]? =w.heap[b]?)→Ow Z' deep' w' t F' v x:=by
 induction h with
 | hole t F v h1 h2=>intro F' _; exact .hole t F' v h1 h2
 | int t F k n=>intro F' _; exact .int t F' k n
 | bool t F b=>intro F' _; exact .bool t F' b
 | np t F=>intro F' _; exact .np t F'
 | str t F s=>intro F' _; exact .str t F' s
 | nil t F a=>intro F' _; exact .nil t F' a
 | frz F v x h0 h=>intro F' _; exact .frz F' v x (hd h0) (h.mono (hZ h0))
 | sl t F b len cap s arr ty es own cs ht hb hh hl hc hcap hs ha hm hr ih=>
  intro F' hF; exact .sl t F' b len cap s arr ty es own cs ht (hF b hb).1 ((hF b hb).2.trans hh) hl hc hcap hs ha hm (fun i e j x h1 h2=>ih i e j x h1 h2 (fun k hk=>⟨⟨(hF k hk.1).1,hk.2⟩,(hF k hk.1).2⟩))

theorem cV(w:World)(b k:Nat)(arr:Array Value)(ty:TypeId)(fz:Nat×Nat)(h:w.heap[b]? =some (.cells arr ty fz)):w.cell? ⟨b,k,none⟩=arr[k]? :=by simp [World.cell?,h]

theorem Ow.rd{Z:Nat→Prop}{deep:Bool}{w:World}{t:Option Nat}{F:Nat→Prop}{v:Value}{x:T}(h:Ow Z deep w t F v x): ∀ {P:Nat→Prop},(∀b,F b→P b)→(∀b,Z b→P b)→Rd P w v x:=by
 induction h with
 | hole t F v h1 h2=>intro P _ _; exact .hole v h1 h2
 | int t F k n=>intro P _ _; exact .int k n
 | bool t F b=>intro P _ _; exact .bool b
 | np t F=>intro P _ _; exact .np
 | str t F s=>intro P _ _; exact .str s
 | nil t F a=>intro P _ _; exact .nil a 0
 | frz F v x h0 h=>intro P _ hZ; exact h.weaken hZ
 | sl t F b len cap s arr ty es own cs ht hb hh hl hc hcap hs ha hm hr ih=>
  intro P hF hZ; exact .sl b 0 len cap s es cs hl hc hs (hF b hb) (fun i e j x h1 h2=>by rw[z28,cV w b _ arr ty (0,0) hh]; exact hm i e j x h1 h2) (fun i e j x h1 h2=>ih i e j x h1 h2 (fun k hk=>hF k hk.1) hZ)

theorem Ow.sub{Z:Nat→Prop}{deep:Bool}{w:World}{n:Nat}{F:Nat→Prop}{v:Value}{x:T}(h:Ow Z deep w (some n) F v x):Ow Z deep w none F v x:=by
 cases h with
 | hole t F v h1 h2=>exact .hole none _ v h1 h2
 | int t F k n=>exact .int none _ k n
 | bool t F b=>exact .bool none _ b
 | np t F=>exact .np none _
 | str t F s=>exact .str none _ s
 | nil t F a=>exact .nil none _ a
 | sl t F b len cap s arr ty es own cs ht hb hh hl hc hcap hs ha hm hr=>exact .sl none _ b len cap s arr ty es own cs (by simp) hb hh hl hc hcap hs ha hm hr

theorem Ow.any{Z:Nat→Prop}{deep:Bool}{w:World}{t:Option Nat}{F:Nat→Prop}{v:Value}{x:T}(h:Ow Z deep w t F v x):Ow Z deep w none F v x:=by
 cases t with
 | none=>exact h
 | some n=>exact h.sub
theorem Rd.ow{P Z:Nat→Prop}{deep:Bool}{w w':World}{t:Option Nat}{F:Nat→Prop}{v:Value}{x:T}(h:Rd P w v x)(hx:Own.scal x=true):Ow Z deep w' t F v x:=by
 cases h with
 | hole=>cases hx
 | int k n=>exact .int t F k n
 | bool b=>exact .bool t F b
 | np=>exact .np t F
 | str s=>exact .str t F s
 | nil a cap=>cases hx
 | sl=>cases hx

def frz(g:G)(w:World)(b:Nat):Prop:=b<w.heap.size∧g.own b= .none
def all(g:G)(w:World)(b:Nat):Prop:=b<w.heap.size∧ ∀o,g.own b≠ .obj o

def Loc.place:Loc→Bool
 | .s _ _ _=>true
 | .oc _ _=>true
 | _=>false

theorem Loc.place_ne{l:Loc}(h:l.place=true):l≠ .none∧l≠ .ext∧ ∀o,l≠ .obj o:=by
 cases l<;>first | (simp [Loc.place]at h; done) | exact⟨by simp,by simp,by simp⟩

theorem frz.all{g:G}{w:World}{b:Nat}(h:frz g w b):all g w b:=⟨h.1,fun o e=>by rw[h.2]at e; cases e⟩

def iT:Nat→Option Nat
 | 0=>none
 | s+1=>some (s+1)
theorem rC{s:Nat}(h:0<s):iT s=some s:=by
 cases s with
 | zero=>omega
 | succ s=>rfl
def LF(g:G)(w:World)(κ:K)(l:Loc)(v:Value)(x:T):Prop:=
 match κ with
 | .D=>scal x=true→Rd (fun _=>False) w v x
 | .V=>Rd (all g w) w v x
 | .F=>Rd (frz g w) w v x
 | .A s=>Ow (frz g w) false w (some s) (fun b=>g.own b=l) v x
 | .U s=>Ow (frz g w) true w (iT s) (fun b=>g.own b=l) v x
 | .S=>scal x=true∧Rd (fun _=>False) w v x
 | .N=>x= .sl []∧ ∃a,v= .slice a 0 0

structure GOk (g:G) (w:World):Prop where
 own: ∀b,g.own b≠ .none→b<w.heap.size

theorem LF.scal{g g':G}{w w':World}{κ κ':K}{l l':Loc}{v:Value}{x:T}(h:LF g w κ l v x)(hx:Own.scal x=true)(hn:κ'≠ .N:=by simp):LF g' w' κ' l' v x:=by
 have h1:Rd (fun _=>False) w v x:=by
  cases κ with
  | D=>exact h hx
  | V=>exact Rd.scal h hx
  | F=>exact Rd.scal h hx
  | A n=>exact(Ow.rd h (P:=fun _=>True) (fun _ _=>trivial) (fun _ _=>trivial)).scal hx
  | U n=>exact(Ow.rd h (P:=fun _=>True) (fun _ _=>trivial) (fun _ _=>trivial)).scal hx
  | S=>exact h.2
  | N=>obtain⟨rfl,_⟩:=h; cases hx
 cases κ' with
 | D=>exact fun _=>h1.scal hx
 | V=>exact Rd.scal h1 hx
 | F=>exact Rd.scal h1 hx
 | A n=>exact h1.ow hx
 | U n=>exact h1.ow hx
 | S=>exact⟨hx,h1.scal hx⟩
 | N=>exact absurd rfl hn

theorem LF.rd{g:G}{w:World}{κ:K}{l:Loc}{v:Value}{x:T}(hok:GOk g w)(hl:l.place=true)(h:LF g w κ l v x)(hk:κ≠ .D):Rd (all g w) w v x:=by
 have hF: ∀b,g.own b=l→all g w b:=fun b hb=>⟨hok.own b (fun e=>(Loc.place_ne hl).1 (hb.symm.trans e)),fun o e=>(Loc.place_ne hl).2.2 o (hb.symm.trans e)⟩
 cases κ with
 | D=>exact absurd rfl hk
 | V=>exact h
 | F=>exact Rd.weaken (fun b hb=>hb.all) h
 | A n=>exact Ow.rd h hF (fun b hb=>hb.all)
 | U n=>exact Ow.rd h hF (fun b hb=>hb.all)
 | S=>exact h.2.scal h.1
 | N=>obtain⟨rfl,a,rfl⟩:=h; exact .nil _ _

def K.cp:K→K
 | .D=> .D
 | .V=> .V
 | .F=> .F
 | .A _=> .V
 | .U _=> .V
 | .S=> .S
 | .N=> .N

theorem LF.cp{g:G}{w:World}{κ:K}{l l':Loc}{v:Value}{x:T}(hok:GOk g w)(hl:l.place=true)(h:LF g w κ l v x):LF g w κ.cp l' v x:=by
 cases κ with
 | D=>exact h
 | V=>exact h
 | F=>exact h
 | A n=>exact h.rd hok hl (by simp)
 | U n=>exact h.rd hok hl (by simp)
 | S=>exact h
 | N=>exact h

structure Evo (g:G) (w:World) (g':G) (w':World) (X:Loc→Prop):Prop where
 size:w.heap.size≤w'.heap.size
 keep: ∀b,b<w.heap.size→ ¬ X (g.own b)→g'.own b=g.own b∧w'.heap[b]? =w.heap[b]?

theorem Evo.refl(g:G)(w:World)(X:Loc→Prop):Evo g w g w X:=⟨z39 _,fun _ _ _=>⟨rfl,rfl⟩⟩
theorem Evo.mono{g g':G}{w w':World}{X Y:Loc→Prop}(h:Evo g w g' w' X)(hX: ∀l,X l→Y l):Evo g w g' w' Y:=⟨h.size,fun b hb hy=>h.keep b hb (fun hx=>hy (hX _ hx))⟩
theorem Evo.trans{g0 g1 g2:G}{w0 w1 w2:World}{X:Loc→Prop}(h:Evo g0 w0 g1 w1 X)(k:Evo g1 w1 g2 w2 X):Evo g0 w0 g2 w2 X:=by
 refine⟨z83 h.size k.size,fun b hb hx=> ?_⟩
 obtain⟨h1,h2⟩:=h.keep b hb hx; obtain⟨k1,k2⟩:=k.keep b (z63 hb h.size) (by rw[h1]; exact hx)
 exact⟨k1.trans h1,k2.trans h2⟩

theorem LF.evo{g g':G}{w w':World}{X:Loc→Prop}{κ:K}{l:Loc}{v:Value}{x:T}(hE:Evo g w g' w' X)(hok:GOk g w)(hl:l≠ .none)(hn: ¬ X .none)(ho:κ.hold=true→ ¬ X l)(hV:κ= .V→ ∀b,all g w b→all g' w' b∧w'.heap[b]? =w.heap[b]?)
  (h:LF g w κ l v x):LF g' w' κ l v x:=by
 have hZ: ∀b,frz g w b→frz g' w' b∧w'.heap[b]? =w.heap[b]? :=fun b hb=>by
  obtain⟨h1,h2⟩:=hE.keep b hb.1 (by rw[hb.2]; exact hn)
  exact⟨⟨z63 hb.1 hE.size,h1.trans hb.2⟩,h2⟩
 have hF: ¬ X l→ ∀b,g.own b=l→g'.own b=l∧w'.heap[b]? =w.heap[b]? :=fun hx b hb=>by
  have hb2:b<w.heap.size:=hok.own b (fun e=>hl (hb.symm.trans e))
  obtain⟨h1,h2⟩:=hE.keep b hb2 (by rw[hb]; exact hx)
  exact⟨h1.trans hb,h2⟩
 cases κ with
 | D=>exact fun hx=>(h hx).scal hx
 | V=>exact Rd.mono (hV rfl) h
 | F=>exact Rd.mono hZ h
 | A n=>exact Ow.mono h id (fun _=>hZ) (hF (ho rfl))
 | U n=>exact Ow.mono h id (fun _=>hZ) (hF (ho rfl))
 | S=>exact⟨h.1,h.2.scal h.1⟩
 | N=>exact h

theorem LF.moved{g g':G}{w:World}{κ:K}{l l':Loc}{v:Value}{x:T}(hF: ∀b,g.own b=l→g'.own b=l')(hZ: ∀b,g.own b= .none→g'.own b= .none)(hA: ∀b,all g w b→all g' w b)(h:LF g w κ l v x):LF g' w κ l' v x:=by
 have hZ': ∀b,frz g w b→frz g' w b∧w.heap[b]? =w.heap[b]? :=fun b hb=>⟨⟨hb.1,hZ b hb.2⟩,rfl⟩
 cases κ with
 | D=>exact h
 | V=>exact Rd.weaken hA h
 | F=>exact Rd.mono hZ' h
 | A n=>exact Ow.mono h id (fun _=>hZ') (fun b hb=>⟨hF b hb,rfl⟩)
 | U n=>exact Ow.mono h id (fun _=>hZ') (fun b hb=>⟨hF b hb,rfl⟩)
 | S=>exact h
 | N=>exact h

theorem LF.freeze{g g':G}{w:World}{κ:K}{l l':Loc}{v:Value}{x:T}(hok:GOk g w)(hl:l≠ .none)(hk:κ≠ .D∧κ≠ .V)(hF: ∀b,g.own b=l→g'.own b= .none)(hZ: ∀b,g.own b= .none→g'.own b= .none)(h:LF g w κ l v x):LF g' w .F l' v x:=by
 have hF': ∀b,g.own b=l→frz g' w b:=fun b hb=>⟨hok.own b (fun e=>hl (hb.symm.trans e)),hF b hb⟩
 have hZ': ∀b,frz g w b→frz g' w b:=fun b hb=>⟨hb.1,hZ b hb.2⟩
 cases κ with
 | A n=>exact Ow.rd h hF' hZ'
 | U n=>exact Ow.rd h hF' hZ'
 | F=>exact Rd.weaken hZ' h
 | S=>exact Rd.scal h.2 h.1
 | N=>obtain⟨rfl,a,rfl⟩:=h; exact .nil _ _
 | D=>simp at hk
 | V=>simp at hk
end Go.Own

namespace Go.Own
open Go.RowKit

inductive TK where
  | other | int (k:IntKind) | bool | str | ptr | ifc | sl (e:TypeId) | arr (n:Nat) (e:TypeId)
  | struct (fs:List (Nat×Nat×Bool))
structure TI where
  agg:Bool
  size:Nat
  bytes:Nat
  zero:List T
  kind:TK
  cmp:Bool:=false

def yY:Value→Option T
  | .int k n=>some (.int k n)
  | .bool b=>some (.bool b)
  | .string s=>some (.str s.data.toList)
  | .slice none 0 0=>some (.sl [])
  | .pointer none=>some .np
  | _=>none

def xV:List Value→Option (List T)
  | []=>some []
  | v::r=>match yY v,xV r with
    | some x,some xs=>some (x::xs)
    | _,_=>none

def bQ:Value→V
  | .agg cs=>match xV cs.toList with | some xs=> .one (.ag xs) | none=> .one .junk
  | .pointer none=> .one .nilp
  | .nilIface=> .one (.ifc true)
  | v=>match yY v with | some x=> .one (.c x) | none=> .one .junk

def TS(P:Program):TK→TypeDesc→Prop
  | .other,_=>True
  | .int k,d=>d= .int k
  | .bool,d=>d= .bool
  | .str,d=>d= .string
  | .ptr,d=> ∃e,d= .pointer e
  | .ifc,d=> ∃ms,d= .interface ms
  | .sl e,d=>d= .slice e
  | .arr n e,d=>d= .array n e
  | .struct fs,d=> ∃gs,d= .struct gs∧gs.size=fs.length∧ ∀(j:Nat) f,fs[j]? =some f→ ∃g i,gs[j]? =some g∧g.offset=f.1∧P.info? g.type=some i∧i.size=f.2.1∧f.2.1≠0∧
      f.2.2=(match P.underlying g.type with | some (.struct _)=>true | some (.array _ _)=>true | _=>false)∧(P.underlying g.type).isSome

def CmpOk(P:Program)(t:TypeId)(zs:List T):Prop:=P.eqGuardType P.depth t=false∧P.stoodInHeld t=false∧ ∃gs,P.underlying t=some (.struct gs)∧gs.size=zs.length∧ ∀(j:Nat) g,gs[j]? =some g→g.name≠ "_" ∧g.offset=j∧
  (match zs[j]? with | some (.int k _)=>P.underlying g.type=some (.int k) | some (.bool _)=>P.underlying g.type=some .bool | some (.str _)=>P.underlying g.type=some .string | _=>False)
def bE(P:Program)(τ:TypeId→Option TI):Prop:= ∀t i,τ t=some i→ ∃info d z,P.info? t=some info∧P.underlying t=some d∧info.size=i.size∧info.bytes=i.bytes∧info.zero=some z∧
  xV z.cells.toList=some i.zero∧i.zero.length=i.size∧0<i.size∧i.agg=(match d with | .struct _=>true | .array _ _=>true | _=>false)∧TS P i.kind d∧(i.cmp=true→CmpOk P t i.zero)

def tk(τ:TypeId→Option TI)(t:TypeId):Option TK:=(τ t).map (fun i=>i.kind)

def ev(sl:Nat→V):Operand→V
  | .tmp t=>sl t
  | .const v=>bQ v
  | .func f=> .one (.fn f [])
  | .global _=> .one .junk

theorem rJ{v:Value}{x:T}(h:yY v=some x):(∀P w,Rd P w v x)∧(∀Z d w t F,Ow Z d w t F v x):=by
  unfold yY at h; split at h<;>simp only[z10,reduceCtorEq]at h<;>subst h
  · exact⟨fun _ _=> .int _ _,fun _ _ _ _ _=> .int _ _ _ _⟩
  · exact⟨fun _ _=> .bool _,fun _ _ _ _ _=> .bool _ _ _⟩
  · exact⟨fun _ _=> .str _,fun _ _ _ _ _=> .str _ _ _⟩
  · exact⟨fun _ _=> .nil _ _,fun _ _ _ _ _=> .nil _ _ _⟩
  · exact⟨fun _ _=> .np,fun _ _ _ _ _=> .np _ _⟩

theorem kP: ∀ {l:List Value} {xs:List T},xV l=some xs→l.length=xs.length∧ ∀(j:Nat) x,xs[j]? =some x→ ∃v,l[j]? =some v∧yY v=some x
  | [],xs,h=>by simp only[xV,z10]at h; subst h; simp
  | v::r,xs,h=>by
    simp only[xV]at h; split at h
    · rename_i x xs' h1 h2
      simp only[z10]at h; subst h; obtain⟨e,g⟩:=kP h2; refine⟨by simp [e],fun j y hy=> ?_⟩
      cases j with
      | zero=>simp only[z24,z10]at hy; subst hy; exact⟨v,by simp,h1⟩
      | succ j=>simp only[z25]at hy ⊢; exact g j y hy
    · cases h

def Qz(op:BinOp)(k:IntKind)(a b:Int):Option T:=
  match op with
  | .add=>some (.int k (k.wrap (a+b)))
  | .sub=>some (.int k (k.wrap (a - b)))
  | .mul=>some (.int k (k.wrap (a*b)))
  | .quo=>if b=0 then none else some (.int k (k.wrap (a.tdiv b)))
  | .rem=>if b=0 then none else some (.int k (a.tmod b))
  | .and=>some (.int k (bits .and k a b))
  | .or=>some (.int k (bits .or k a b))
  | .xor=>some (.int k (bits .xor k a b))
  | .eql=>some (.bool (decide (a=b)))
  | .neq=>some (.bool !decide (a=b))
  | .lss=>some (.bool (decide (a<b)))
  | .leq=>some (.bool (decide (a≤b)))
  | .gtr=>some (.bool (decide (b<a)))
  | .geq=>some (.bool (decide (b≤a)))
  | _=>none

def Nh(x y:List UInt8):Bool:=Op.bytesLess x y

def WF(op:BinOp)(x y:List UInt8):Option T:=
  match op with
  | .add=>if x.length+y.length≤9223372036854775807 then some (.str (x++y))else none
  | .eql=>some (.bool (decide (x=y)))
  | .neq=>some (.bool !decide (x=y))
  | .lss=>some (.bool (Nh x y))
  | .leq=>some (.bool (Nh x y||decide (x=y)))
  | .gtr=>some (.bool !(Nh x y||decide (x=y)))
  | .geq=>some (.bool !(Nh x y))
  | _=>none

def KV(op:BinOp)(b:Bool):Option T:=
  match op with
  | .eql=>some (.bool b)
  | .neq=>some (.bool !b)
  | _=>none

def eqT:T→T→Option Bool
  | .int k a, .int k' b=>if k=k' then some (decide (a=b))else none
  | .bool a, .bool b=>some (a == b)
  | .str a, .str b=>some (decide (a=b))
  | _,_=>none
def Lx:List T→List T→Option Bool
  | [],[]=>some true
  | x::r,y::q=>match eqT x y,Lx r q with
    | some a,some b=>some (a&&b)
    | _,_=>none
  | _,_=>none

def cmpZ(τ:TypeId→Option TI)(t:TypeId):Option (List T):=match τ t with
  | some i=>bif i.cmp then some i.zero else none
  | none=>none
def OG(τ:TypeId→Option TI)(op:BinOp)(t:TypeId)(x y:V):Option T:=
  match x,y with
  | .one (.c (.int k a)), .one (.c (.int k' b))=>
    match op with
    | .shl=>if 0≤b then some (.int k (k.wrap (a*2 ^ min b.toNat k.bits)))else none
    | .shr=>if 0≤b then some (.int k (a.fdiv (2 ^ min b.toNat k.bits)))else none
    | _=>if k=k' then Qz op k a b else none
  | .one (.c (.str a)), .one (.c (.str b))=>WF op a b
  | .one (.c (.bool a)), .one (.c (.bool b))=>match tk τ t with | some .bool=>KV op (a == b) | _=>none
  | .one .nilp, .one .nilp=>match tk τ t with | some .ptr=>KV op true | _=>none
  | .one (.cp _), .one .nilp=>match tk τ t with | some .ptr=>KV op false | _=>none
  | .one (.ptr _ _), .one .nilp=>match tk τ t with | some .ptr=>KV op false | _=>none
  | .one (.ifc b), .one (.ifc true)=>match tk τ t with | some .ifc=>KV op b | _=>none
  | .one (.ag xs), .one (.ag ys)=>match cmpZ τ t with
    | some zs=>(match Lx xs zs,Lx xs ys with | some _,some b=>KV op b | _,_=>none)
    | none=>none
  | _,_=>none

def RP(P:Nat→Prop)(β:Nat→Nat)(w:World)(v:Value):V→Prop
  | .one (.c x)=>Rd P w v x
  | .one (.ptr o off)=>v= .pointer (some ⟨β o,off,none⟩)
  | .one (.cp xs)=> ∃b off,v= .pointer (some ⟨b,off,none⟩)∧P b∧ ∀(j:Nat) x,xs[j]? =some x→ ∃c,w.cell? ⟨b,off+j,none⟩=some c∧Rd P w c x
  | .one .nilp=>v= .pointer none
  | .one (.ag xs)=> ∃cs:Array Value,v= .agg cs∧ ∀(j:Nat) x,xs[j]? =some x→scal x=true→ ∃c,cs[j]? =some c∧Rd P w c x
  | .one (.ifc b)=>if b then v= .nilIface else ∃d u,v= .iface d u
  | _=>True

theorem wI{P:Nat→Prop}{β:Nat→Nat}{w:World}{v:Value}{k:IntKind}{n:Int}(h:RP P β w v (.one (.c (.int k n)))):v= .int k n:=by have h:Rd P w v _:=h; cases h; rfl
theorem Kc{P:Nat→Prop}{β:Nat→Nat}{w:World}{v:Value}{b:Bool}(h:RP P β w v (.one (.c (.bool b)))):v= .bool b:=by have h:Rd P w v _:=h; cases h; rfl
theorem Fg{P:Nat→Prop}{β:Nat→Nat}{w:World}{v:Value}{s:List UInt8}(h:RP P β w v (.one (.c (.str s)))): ∃a:ByteArray,v= .string a∧a.data.toList=s:=by have h:Rd P w v _:=h; cases h; exact⟨_,rfl,rfl⟩

theorem lX{P:Program}{τ:TypeId→Option TI}(hT:bE P τ){t:TypeId}{k:TK}(h:tk τ t=some k): ∃d,P.underlying t=some d∧TS P k d:=by
  obtain⟨i,hi,rfl⟩:=z26.1 h; obtain⟨_,d,_,_,h2,_,_,_,_,_,_,_,h9,_⟩:=hT t i hi; exact⟨d,h2,h9⟩

theorem kJ{P:Program}{w:World}{op:BinOp}{t:TypeId}{xo yo:Operand}{x y:Value}(h:(∀cs,x≠ .agg cs)∧x≠ .nilIface):(eqGuard op t xo yo x y).run P w= .ok () w:=by
  have e:eqGuard op t xo yo x y=pure ():=by
    cases x<;>first | exact absurd rfl (h.1 _) | exact absurd rfl h.2 | (unfold eqGuard; cases op<;>rfl)
  rw[e]; rfl

theorem Pf(a b:List UInt8):(a == b)=decide (a=b):=by
  rw[RJ]; simp

theorem Lf{P:Program}{w:World}{t:TypeId}{ms:Array (String×TypeId)}{x:Value}{b:Bool}(n:Nat)(hd:P.underlying t=some (.interface ms))(hx:(x= .nilIface∧b=true)∨(∃d u,x= .iface d u)∧b=false):(Op.equalIn (n+1) t x .nilIface).run P w= .ok b w:=by
  rcases hx with⟨rfl,rfl⟩ | ⟨⟨d,u,rfl⟩,rfl⟩<;>simp only[Op.equalIn,Sem.run_bind,run_underlying hd,Result.andThen_ok,Sem.run_pure]

theorem Nb{α:Type}{b:Bool}{a c:α}(h:(bif b then some a else none)=some c):b=true∧a=c:=by
  cases b with
  | true=>exact⟨rfl,z46 h⟩
  | false=>cases h
theorem VO{P:Program}{Q:Nat→Prop}{w:World}{d:Nat}{ty:TypeId}{c c':Value}{x y z:T}{r q:Bool}(hx:Rd Q w c x)(hy:Rd Q w c' y)(hz:eqT x z=some q)(h:eqT x y=some r)
    (hu:match(some z:Option T)with | some (.int k _)=>P.underlying ty=some (.int k) | some (.bool _)=>P.underlying ty=some .bool | some (.str _)=>P.underlying ty=some .string | _=>False):(Op.equalIn (d+1) ty c c').run P w= .ok r w∧(∀b,(isAgg ty).run P w= .ok b w→b=false)∧(isAgg ty).run P w= .ok false w:=by
  have ha: ∀dd,P.underlying ty=some dd→(∀fs,dd≠ .struct fs)→(∀n e,dd≠ .array n e)→(isAgg ty).run P w= .ok false w:=fun dd h1 h2 h3=>by
    simp only[isAgg,Sem.run_bind,run_underlying h1,Result.andThen_ok]; cases dd<;>first | rfl | exact absurd rfl (h2 _) | exact absurd rfl (h3 _ _)
  have fin:(isAgg ty).run P w= .ok false w→(∀b,(isAgg ty).run P w= .ok b w→b=false)∧(isAgg ty).run P w= .ok false w:=fun h=>⟨fun b hb=>by rw[h]at hb; cases hb; rfl,h⟩
  cases x<;>cases z<;>simp only[eqT,reduceCtorEq]at hz<;>cases y<;>simp only[eqT,reduceCtorEq]at h
  · rename_i k a k1 a1 k2 a2
    split at hz<;>cases hz
    split at h<;>cases h
    rename_i e1 e2; subst e1 e2; cases hx; cases hy; exact⟨by rw[run_equalIn_int w d ty k k a a2 hu]; rfl,fin (ha _ hu (by simp) (by simp))⟩
  · cases h
    cases hx; cases hy; exact⟨run_equalIn_bool' w d ty _ _ hu,fin (ha _ hu (by simp) (by simp))⟩
  · cases h
    cases hx; cases hy; refine⟨?_,fin (ha _ hu (by simp) (by simp))⟩
    rw[run_equalIn_string w d ty _ _ hu,ByteArray.toList_eq,ByteArray.toList_eq,Pf]
theorem Pa{P:Program}{Q:Nat→Prop}{w:World}{d:Nat}{cs ds:Array Value}{gs:Array Field}{zs:List T}(hg: ∀(j:Nat) g,gs[j]? =some g→g.name≠ "_" ∧g.offset=j∧
    (match zs[j]? with | some (.int k _)=>P.underlying g.type=some (.int k) | some (.bool _)=>P.underlying g.type=some .bool | some (.str _)=>P.underlying g.type=some .string | _=>False)):
    ∀(l:List Field) (xs ys us:List T) (j:Nat) (r q:Bool),(∀k,l[k]? =gs[j+k]?)→us=zs.drop j→l.length=us.length→Lx xs us=some q→Lx xs ys=some r→(∀(k:Nat) x,xs[k]? =some x→scal x=true→ ∃c,cs[j+k]? =some c∧Rd Q w c x)→(∀(k:Nat) x,ys[k]? =some x→scal x=true→ ∃c,ds[j+k]? =some c∧Rd Q w c x)→
      (Op.eqFields (d+1) cs ds l).run P w= .ok r w
  | [],xs,ys,us,j,r,q,_,_,hl,h1,h2,_,_=>by
    have:us=[]:=z78.1 (by simpa using hl.symm)
    subst this; cases xs with
    | cons x xs=>simp [Lx]at h1
    | nil=>
      cases ys with
      | cons y ys=>simp [Lx]at h2
      | nil=>simp only[Lx,z10]at h2; subst h2; rfl
  | f::l,xs,ys,us,j,r,q,hf,hu,hl,h1,h2,hx,hy=>by
    cases us with
    | nil=>simp at hl
    | cons u us=>
    cases xs with
    | nil=>simp [Lx]at h1
    | cons x xs=>
    cases ys with
    | nil=>simp [Lx]at h2
    | cons y ys=>
    simp only[Lx]at h1 h2; split at h1<;>try cases h1
    rename_i q1 q2 e1 e2; split at h2<;>try cases h2
    rename_i r1 r2 e3 e4; have hz:zs[j]? =some u:=by
      have:=congrArg (·[0]?) hu
      simpa using this.symm
    obtain⟨g1,g2,g3⟩:=hg j f (by have:=hf 0; simpa using this.symm)
    rw[hz]at g3; have sx:scal x=true:=by cases x<;>cases u<;>simp [eqT]at e1<;>rfl
    have sy:scal y=true:=by cases x<;>cases y<;>simp [eqT]at e3<;>rfl
    obtain⟨c,c1,c2⟩:=hx 0 x rfl sx; obtain⟨c',c3,c4⟩:=hy 0 y rfl sy; obtain⟨k1,_,k3⟩:=VO (P:=P) (d:=d) c2 c4 e1 e3 g3; have hp1:(part f.type cs f.offset).run P w= .ok c w:=by
      rw[g2]; simp only[part,Sem.run_bind,k3,Result.andThen_ok]; rw[show cs[j]? =some c from c1]; rfl
    have hp2:(part f.type ds f.offset).run P w= .ok c' w:=by
      rw[g2]; simp only[part,Sem.run_bind,k3,Result.andThen_ok]; rw[show ds[j]? =some c' from c3]; rfl
    have ih:=Pa (d:=d) hg l xs ys us (j+1) r2 q2 (fun k=>by have:=hf (k+1); rw[show j+1+k=j+(k+1)by omega]; simpa using this) (by
      have:=congrArg List.tail hu; rw[List.tail_drop]at this; simpa using this) (by simpa using hl) e2 e4 (fun k x hk sx=>by rw[show j+1+k=j+(k+1)by omega]; exact hx (k+1) x hk sx) (fun k x hk sx=>by rw[show j+1+k=j+(k+1)by omega]; exact hy (k+1) x hk sx)
    simp only[Op.eqFields]; rw[z19 g1]; simp only[Sem.run_bind,hp1,hp2,k1,Result.andThen_ok]; cases r1 with
    | false=>rfl
    | true=>exact ih

theorem VY{P:Program}{τ:TypeId→Option TI}(hT:bE P τ){Q:Nat→Prop}{β:Nat→Nat}{w:World}{op:BinOp}{t:TypeId}{x y:Value}{X Y:V}{r:T}(h:OG τ op t X Y=some r)
    (hx:RP Q β w x X)(hy:RP Q β w y Y)(xo yo:Operand)(hyo:Y= .one (.ifc true)→ ∃c,yo= .const c): ∃v,(do eqGuard op t xo yo x y; binOp op t x y:Sem Value).run P w= .ok v w∧scal r=true∧Rd (fun _=>False) w v r:=by
  unfold OG at h; split at h
  · rename_i k a k' b
    have e1:=wI hx; have e2:=wI hy; subst e1 e2; have hg:=kJ (P:=P) (w:=w) (op:=op) (t:=t) (xo:=xo) (yo:=yo) (x:= .int k a) (y:= .int k' b) (by simp)
    simp only[Sem.run_bind,hg,Result.andThen_ok]; split at h
    · split at h<;>simp only[z10,reduceCtorEq]at h
      rename_i hb; subst h; exact⟨_,by simp [binOp,Op.shift,Int.not_lt.2 hb],rfl, .int _ _⟩
    · split at h<;>simp only[z10,reduceCtorEq]at h
      rename_i hb; subst h; exact⟨_,by simp [binOp,Op.shift,Int.not_lt.2 hb],rfl, .int _ _⟩
    · rename_i n1 n2
      split at h
      · rename_i hk
        subst hk; cases op<;>simp only[Qz,z10,reduceCtorEq]at h
        all_goals first
          | exact absurd rfl (by first | exact n1 | exact n2)
          | skip
        all_goals first
          | (subst h
             first
               | exact⟨_,by simp only[binOp,ne_eq,not_true_eq_false,if_false,Op.intArith]; rfl,rfl, .int _ _⟩
               | (refine⟨_, ?_,rfl, .bool _⟩; simp only[binOp,ne_eq,not_true_eq_false,if_false,Op.intCmp]; first | rfl | (simp only[Sem.run_pure]; congr 2; first | rfl | (rw[RJ]; simp) | (simp [bne]; rfl))))
          | (split at h
             · cases h
             · rename_i hb
               simp only[z10]at h; subst h; exact⟨_,by simp only[binOp,ne_eq,not_true_eq_false,if_false,Op.intDiv,z14 hb]; rfl,rfl, .int _ _⟩)
      · cases h
  · rename_i a b
    obtain⟨a,rfl,rfl⟩:=Fg hx; obtain⟨b,rfl,rfl⟩:=Fg hy; have hg:=kJ (P:=P) (w:=w) (op:=op) (t:=t) (xo:=xo) (yo:=yo) (x:= .string a) (y:= .string b) (by simp)
    simp only[Sem.run_bind,hg,Result.andThen_ok]; cases op<;>simp only[WF,z10,reduceCtorEq]at h
    case add=>
      split at h
      · rename_i hle
        simp only[z10]at h; subst h; have h2: ¬ (((a.size+b.size:Nat):Int) > IntKind.i64.max):=by
          have:IntKind.i64.max=9223372036854775807:=by decide
          have e1:a.data.toList.length=a.size:=z55; have e2:b.data.toList.length=b.size:=z55; rw[this]; omega
        refine⟨.string (a++b),by simp only[binOp,Op.stringOp,z14 h2,Sem.run_pure],rfl, ?_⟩
        have e:(a++b).data.toList=a.data.toList++b.data.toList:=by simp
        rw[←e]; exact .str _
      · cases h
    all_goals
      subst h; refine⟨_, ?_,rfl, .bool _⟩
      simp only[binOp,Op.stringOp,Sem.run_pure,ByteArray.toList_eq,Pf,Nh]
  · rename_i a b
    have e1:=Kc hx; have e2:=Kc hy; subst e1 e2; have hg:=kJ (P:=P) (w:=w) (op:=op) (t:=t) (xo:=xo) (yo:=yo) (x:= .bool a) (y:= .bool b) (by simp)
    simp only[Sem.run_bind,hg,Result.andThen_ok]; split at h
    · rename_i hk
      obtain⟨d,hd,rfl⟩:=lX hT hk; cases op<;>simp only[KV,z10,reduceCtorEq]at h
      · subst h; exact⟨_,run_eql_bool w t a b hd,rfl, .bool _⟩
      · subst h; exact⟨_,run_neq_bool w t a b hd,rfl, .bool _⟩
    · cases h
  · have e1:x= .pointer none:=hx
    have e2:y= .pointer none:=hy; subst e1 e2; have hg:=kJ (P:=P) (w:=w) (op:=op) (t:=t) (xo:=xo) (yo:=yo) (x:= .pointer none) (y:= .pointer none) (by simp)
    simp only[Sem.run_bind,hg,Result.andThen_ok]; split at h
    · rename_i hk
      obtain⟨d,hd,e,rfl⟩:=lX hT hk; have hp:P.underlying t=some (.pointer (P.pointee t)):=by unfold Program.pointee; rw[hd]
      cases op<;>simp only[KV,z10,reduceCtorEq]at h
      · subst h; exact⟨_,run_eql_pointer_nil w t _ hp,rfl, .bool _⟩
      · subst h; exact⟨_,run_neq_pointer_nil w t _ hp,rfl, .bool _⟩
    · cases h
  · obtain⟨bb,off,e1,_⟩:=hx
    have e2:y= .pointer none:=hy; subst e1 e2; have hg:=kJ (P:=P) (w:=w) (op:=op) (t:=t) (xo:=xo) (yo:=yo) (x:= .pointer (some ⟨bb,off,none⟩)) (y:= .pointer none) (by simp)
    simp only[Sem.run_bind,hg,Result.andThen_ok]; split at h
    · rename_i hk
      obtain⟨d,hd,e,rfl⟩:=lX hT hk; have hp:P.underlying t=some (.pointer (P.pointee t)):=by unfold Program.pointee; rw[hd]
      cases op<;>simp only[KV,z10,reduceCtorEq]at h
      · subst h; exact⟨_,run_eql_pointer_nil w t _ hp,rfl, .bool _⟩
      · subst h; exact⟨_,run_neq_pointer_nil w t _ hp,rfl, .bool _⟩
    · cases h
  · have e1:x= .pointer (some _):=hx
    have e2:y= .pointer none:=hy; subst e1 e2; rename_i o off; have hg:=kJ (P:=P) (w:=w) (op:=op) (t:=t) (xo:=xo) (yo:=yo) (x:= .pointer (some ⟨β o,off,none⟩)) (y:= .pointer none) (by simp)
    simp only[Sem.run_bind,hg,Result.andThen_ok]; split at h
    · rename_i hk
      obtain⟨d,hd,e,rfl⟩:=lX hT hk; have hp:P.underlying t=some (.pointer (P.pointee t)):=by unfold Program.pointee; rw[hd]
      cases op<;>simp only[KV,z10,reduceCtorEq]at h
      · subst h; exact⟨_,run_eql_pointer_nil w t _ hp,rfl, .bool _⟩
      · subst h; exact⟨_,run_neq_pointer_nil w t _ hp,rfl, .bool _⟩
    · cases h
  · rename_i b
    have e2:y= .nilIface:=hy; subst e2; obtain⟨c,rfl⟩:=hyo rfl; split at h
    · rename_i hk
      obtain⟨d,hd,ms,rfl⟩:=lX hT hk; have hg:(eqGuard op t xo (.const c) x .nilIface).run P w= .ok () w:=by
        cases b with
        | true=>
          have e1:x= .nilIface:=by simpa [RP]using hx
          subst e1; rw[eqGuard_nil_constR]; rfl
        | false=>
          obtain⟨d,u,e1⟩: ∃d u,x= .iface d u:=by simpa [RP]using hx
          subst e1; rw[eqGuard_at_iface]; rfl
      simp only[Sem.run_bind,hg,Result.andThen_ok]; have hq:(Op.equal t x .nilIface).run P w= .ok b w:=by
        refine Lf 9999 hd (?_)
        cases b with
        | true=>exact .inl ⟨by simpa [RP]using hx,rfl⟩
        | false=>exact .inr ⟨by simpa [RP]using hx,rfl⟩
      have hb: ∀(op:BinOp),(binOp .eql t x .nilIface).run P w= .ok (.bool b) w∧(binOp .neq t x .nilIface).run P w= .ok (.bool !b) w:=by
        intro _; have e1:x= .nilIface∨ ∃d u,x= .iface d u:=by
          cases b with
          | true=>exact .inl (by simpa [RP]using hx)
          | false=>exact .inr (by simpa [RP]using hx)
        rcases e1 with rfl | ⟨d,u,rfl⟩<;>(constructor<;>simp only[binOp,Sem.run_bind,hq,Result.andThen_ok,Sem.run_pure])
      cases op<;>simp only[KV,z10,reduceCtorEq]at h
      · subst h; exact⟨_,(hb .add).1,rfl, .bool _⟩
      · subst h; exact⟨_,(hb .add).2,rfl, .bool _⟩
    · cases h
  · rename_i xs ys
    obtain⟨cs,rfl,hc⟩:=hx; obtain⟨ds,rfl,hd⟩:=hy; unfold cmpZ at h; split at h
    · rename_i zs hz
      split at hz<;>try cases hz
      rename_i i hi; obtain⟨hb,hz⟩:=Nb hz; subst hz; split at h<;>try cases h
      rename_i q b e1 e2; obtain⟨_,_,_,_,_,_,_,_,_,_,_,_,_,hcmp⟩:=hT t i hi; obtain⟨m1,m2,gs,m3,m4,m5⟩:=hcmp hb; have hfo:P.fieldsOf t=gs:=by unfold Program.fieldsOf; rw[m3]
      have he:(Op.equalIn 10000 t (.agg cs) (.agg ds)).run P w= .ok b w:=by
        rw[run_equalIn_agg w 9999 t cs ds (by rw[hfo]; exact m3) m2,hfo]
        exact Pa (d:=9998) m5 gs.toList xs ys i.zero 0 b q (fun k=>by rw[z28,z27]) rfl (by simpa using m4) e1 e2 (fun k x hk sx=>by rw[z28]; exact hc k x hk sx) (fun k x hk sx=>by rw[z28]; exact hd k x hk sx)
      cases op<;>simp only[KV,z10,reduceCtorEq]at h
      · subst h
        refine⟨.bool b, ?_,rfl, .bool _⟩
        simp only[Sem.run_bind,run_eqGuard_agg w .eql t xo yo cs ds m1,Result.andThen_ok,run_eql_struct,he]
      · subst h
        refine⟨.bool (!b), ?_,rfl, .bool _⟩
        simp only[Sem.run_bind,run_eqGuard_agg w .neq t xo yo cs ds m1,Result.andThen_ok,run_neq_struct,he]
    · cases h
  · cases h
end Go.Own

namespace Go.Own
open Go.RowKit

def zA:List V→Option (List (Nat×Nat))
 | []=>some []
 | .one (.ptr o off)::r=>(zA r).map ((o,off):: ·)
 | _::_=>none

def wL:V→Option Int
 | .one (.c (.int _ n))=>some n
 | _=>none

def oM(ρ:Operand→V)(len:Nat)(lo hi max:Option Operand):Option (Nat×Nat):=
 match max with
 | none=>
  (match hi with | none=>some (len:Int) | some h=>wL (ρ h)).bind fun h=>
  (match lo with | none=>some (0:Int) | some l=>wL (ρ l)).bind fun l=>
  if 0≤l∧l≤h∧h≤(len:Int)then some (l.toNat,h.toNat)else none
 | some m=>match hi with
  | none=>none
  | some h=>
   (wL (ρ m)).bind fun m=>(wL (ρ h)).bind fun h=>
   (match lo with | none=>some (0:Int) | some l=>wL (ρ l)).bind fun l=>
   if 0≤l∧l≤h∧h≤m∧m≤(len:Int)then some (l.toNat,h.toNat)else none

def yC:List (List T)→Option (List UInt8)
 | []=>some []
 | [.int .u8 n]::r=>if 0≤n∧n<256 then(yC r).map (UInt8.ofNat n.toNat:: ·)else none
 | _=>none

def iF(τ:TypeId→Option TI)(ρ:Operand→V)(o:Op):Option T:=
 match o with
 | .binOp op t x y _=>OG τ op t (ρ x) (ρ y)
 | .unOp op _ x=>match op,ρ x with
  | .not, .one (.c (.bool b))=>some (.bool !b)
  | .neg, .one (.c (.int k n))=>some (.int k (k.wrap (0 - n)))
  | _,_=>none
 | .convert s d x=>match tk τ s,tk τ d,ρ x with
  | some _,some (.int k), .one (.c (.int _ n))=>some (.int k (k.wrap n))
  | some (.sl e),some .str, .one (.c (.sl es))=>match tk τ e with
   | some (.int .u8)=>(yC es).map .str
   | _=>none
  | some .str,some .str, .one (.c (.str s))=>some (.str s)
  | _,_,_=>none
 | .index t x i=>match tk τ t,ρ x,ρ i with
  | some .str, .one (.c (.str s)), .one (.c (.int _ n))=>if 0≤n then(s[n.toNat]?).map fun b=> .int .u8 (b.toNat:Int)else none
  | _,_,_=>none
 | .slice t x lo hi max=>match tk τ t,ρ x with
  | some .str, .one (.c (.str s))=>if max.isSome then none else(oM ρ s.length lo hi none).map fun r=> .str ((s.drop r.1).take (r.2 - r.1))
  | some (.sl e), .one (.c (.sl es))=>(τ e).bind fun ei=>if es.all (fun x=>x.length == ei.size)then(oM ρ es.length lo hi max).map fun r=> .sl ((es.drop r.1).take (r.2 - r.1))else none
  | _,_=>none
 | .call c=>match c.callee,c.args.toList,c.argTypes.toList with
  | .builtin .len,[x],[t]=>match tk τ t,ρ x with
   | some .str, .one (.c (.str s))=>some (.int .i64 s.length)
   | some (.sl _), .one (.c (.sl es))=>some (.int .i64 es.length)
   | _,_=>none
  | .builtin .max,[x,y],_=>match ρ x,ρ y with
   | .one (.c (.int k a)), .one (.c (.int _ b))=>some (.int k (if b > a then b else a))
   | _,_=>none
  | .builtin .min,[x,y],_=>match ρ x,ρ y with
   | .one (.c (.int k a)), .one (.c (.int _ b))=>some (.int k (if b<a then b else a))
   | _,_=>none
  | _,_,_=>none
 | _=>none

theorem kR(b off n:Nat):(⟨b,off,none⟩:Addr).add n=⟨b,off+n,none⟩:=by
 unfold Addr.add; split
 ·rename_i h; subst h; rfl
 ·rfl

theorem Bj{P:Program}{Q:Nat→Prop}{β:Nat→Nat}{w:World}{ρ:Operand→Value}{ρV:Operand→V}{isSlice:Bool}{len cap:Nat}{lo hi max:Option Operand}{l h:Nat}
  (hρ: ∀x,lo=some x∨hi=some x∨max=some x→RP Q β w (ρ x) (ρV x))(e:oM ρV len lo hi max=some (l,h))(hcap:len≤cap):
  l≤h∧h≤len∧ ∃m,h≤m∧m≤cap∧(max=none→m=cap)∧(Instr.sliceBounds isSlice len cap (lo.map ρ) (hi.map ρ) (max.map ρ)).run P w= .ok (l,h,m) w:=by
 have hint: ∀x (n:Int),(lo=some x∨hi=some x∨max=some x)→wL (ρV x)=some n→ ∃k,ρ x= .int k n:=by
  intro x n hm hx; have:=hρ x hm; unfold wL at hx; split at hx
  ·rename_i k m heq
   simp only[z10]at hx; subst hx; rw[heq]at this; exact⟨k,wI this⟩
  ·cases hx
 unfold oM at e; split at e
 ·simp only[z22]at e
  obtain⟨hv,h1,lv,h2,e⟩:=e; split at e
  ·rename_i hc
   simp only[z10,z41]at e; obtain⟨rfl,rfl⟩:=e; refine⟨by omega,by omega,cap,by omega,z39 _,fun _=>rfl, ?_⟩
   have hh:hv≤(cap:Int):=by omega
   have h0:0≤hv:=by omega
   have hl:lv≤((hv.toNat:Nat):Int):=by omega
   cases lo with
   | none=>
    simp only[z10]at h2; subst h2; cases hi with
    | none=>simp only[z10]at h1; subst h1; simp [Instr.sliceBounds]
    | some hx=>
     obtain⟨k,hk⟩:=hint hx hv (by simp) h1
     simp [Instr.sliceBounds,Instr.sliceBound,hk,asIntOf,h0,hh]
   | some lx=>
    obtain⟨k2,hk2⟩:=hint lx lv (by simp) h2
    cases hi with
    | none=>
     simp only[z10]at h1; subst h1; have hl':lv≤(len:Int):=by omega
     simp [Instr.sliceBounds,Instr.sliceBound,hk2,asIntOf,hc.1,hl']
    | some hx=>
     obtain⟨k,hk⟩:=hint hx hv (by simp) h1
     simp only[Instr.sliceBounds,Instr.sliceBound,z36,Vm,hk,hk2,asIntOf,h0,hh,hc.1,and_self,if_true,Sem.run_bind,Sem.run_pure,Result.andThen_ok,hl]
  ·cases e
 ·rename_i mx
  split at e
  ·cases e
  ·rename_i hx
   simp only[z22]at e; obtain⟨mv,h0,hv,h1,lv,h2,e⟩:=e; split at e
   ·rename_i hc
    simp only[z10,z41]at e; obtain⟨rfl,rfl⟩:=e; refine⟨by omega,by omega,mv.toNat,by omega,by omega,fun h=>by(cases h), ?_⟩
    obtain⟨k0,hk0⟩:=hint mx mv (by simp) h0
    obtain⟨k1,hk1⟩:=hint hx hv (by simp) h1
    have c1:0≤mv:=by omega
    have c2:mv≤(cap:Int):=by omega
    have c3:0≤hv:=by omega
    have c4:hv≤((mv.toNat:Nat):Int):=by omega
    have c5:lv≤((hv.toNat:Nat):Int):=by omega
    cases lo with
    | none=>
     simp only[z10]at h2; subst h2; cases isSlice<;>simp only[Instr.sliceBounds,Instr.sliceBound,z36,Vm,hk0,hk1,asIntOf,c1,c2,c3,c4,and_self,if_true,Sem.run_bind,Sem.run_pure,Result.andThen_ok,Int.toNat_zero]
    | some lx=>
     obtain⟨k2,hk2⟩:=hint lx lv (by simp) h2
     cases isSlice<;>simp only[Instr.sliceBounds,Instr.sliceBound,z36,hk0,hk1,hk2,asIntOf,c1,c2,c3,c4,c5,hc.1,and_self,if_true,Sem.run_bind,Sem.run_pure,Result.andThen_ok]
   ·cases e

theorem nC{P:Program}{τ:TypeId→Option TI}(hT:bE P τ){t:TypeId}{i:TI}(h:τ t=some i): ∃info,P.info? t=some info∧info.size=i.size∧0<i.size:=by
 obtain⟨info,d,z,h1,_,h3,_,_,_,_,h4,_⟩:=hT t i h; exact⟨info,h1,h3,h4⟩

theorem HD{P:Nat→Prop}{β:Nat→Nat}{w:World}{v:Value}{es:List (List T)}(h:Rd P w v (.sl es)){n:Nat}{e:List T}(hn:es[n]? =some e){size:Nat}(hs:e.length=size)(h0:0<size):
  ∃b off len cap,v= .slice (some ⟨b,off,none⟩) len cap∧len=es.length∧RP P β w (.pointer (some ⟨b,off+n*size,none⟩)) (.one (.cp e)):=by
 cases h with
 | nil a cap=>simp at hn
 | sl b off len cap s _ cs hl hc hs2 hP hm hr=>
  have hs3:=hs2 n _ hn; have:s=size:=by omega
  subst this; exact⟨b,off,len,cap,rfl,hl.symm,b,off+n*s,rfl,hP,fun j x hx=>⟨cs n j,hm n _ j x hn hx,hr n _ j x hn hx⟩⟩

theorem MH{P:Nat→Prop}{w:World}{a:Option Addr}{len cap:Nat}{es:List (List T)}(h:Rd P w (.slice a len cap) (.sl es)){l k m size:Nat}(hl:l≤k)(hk:k≤es.length)(hkm:k≤m)(hm':m≤cap)
  (hs: ∀x∈es,x.length=size):len=es.length∧len≤cap∧Rd P w (.slice (if m=l then a else a.map (·.add (l*size))) (k - l) (m - l)) (.sl ((es.drop l).take (k - l))):=by
 cases h with
 | nil a cap=>
  simp only[z53]at hk; have h1:l=0:=by omega
  have h2:k=0:=by omega
  subst h1 h2; refine⟨rfl,z86 _, ?_⟩
  simp only[List.drop_nil,List.take_nil,Vk]; exact .nil _ _
 | sl b off _ _ s _ cs hl2 hc hs2 hP hm hr=>
  refine⟨hl2.symm,hc, ?_⟩
  by_cases e:k - l=0
  ·rw[e,Xc]; exact .nil _ _
  ·have hne:m≠l:=by omega
   rw[z14 hne]; simp only[z36,kR]; have hs3:s=size:=by
    have h0:0<es.length:=by omega
    have h1:=hs2 0 es[0] (z12 h0)
    have h2:=hs es[0] (z167 h0); omega
   subst hs3; have hget: ∀(i:Nat) (e:List T),((es.drop l).take (k - l))[i]? =some e→es[l+i]? =some e:=by
    intro i e he; rw[z79]at he
    split at he
    ·rwa[z45]at he
    ·cases he
   refine .sl b (off+l*s) (k - l) (m - l) s _ (fun i j=>cs (l+i) j) ?_ (by omega) (fun i e he=>hs2 _ e (hget i e he)) hP (fun i e j x he hx=> ?_) (fun i e j x he hx=>hr _ e j x (hget i e he) hx)
   ·simp only[z64,z77]; omega
   ·have:=hm _ e j x (hget i e he) hx
    have ea:off+l*s+i*s+j=off+(l+i)*s+j:=by rw[z99]; omega
    rw[ea]; exact this

theorem Kx{P:Nat→Prop}{w:World}{v:Value}{es:List (List T)}(h:Rd P w v (.sl es)): ∃a cap,v= .slice a es.length cap∧es.length≤cap:=by
 cases h with
 | nil a cap=>exact⟨_,_,rfl,z86 _⟩
 | sl b off _ _ s _ cs hl2 hc=>subst hl2; exact⟨_,_,rfl,hc⟩

theorem En: ∀ {es:List (List T)} {s:List UInt8},yC es=some s→es=s.map (fun b=> [.int .u8 (b.toNat:Int)])
 | [],s,h=>by simp only[yC,z10]at h; subst h; rfl
 | e::r,s,h=>by
  unfold yC at h; split at h
  ·rename_i heq; cases heq
  ·rename_i n r' heq
   cases heq; split at h
   ·rename_i hn
    obtain⟨q,hq,rfl⟩:=z26.1 h; rw[En hq]; have:((UInt8.ofNat n.toNat).toNat:Int)=n:=by
     rw[z148]; omega
    rw[z52,this]
   ·cases h
  ·cases h

def Jo:Op→Bool
 | .slice _ _ _ _ _=>true
 | _=>false

theorem Rs{P:Program}{τ:TypeId→Option TI}(hT:bE P τ){Q:Nat→Prop}{β:Nat→Nat}{w:World}{ρ:Operand→Value}{ρV:Operand→V}(o:Oper)(hρ: ∀x∈o.op.operands,RP Q β w (ρ x) (ρV x))
  (hc2: ∀op t x y u,o.op= .binOp op t x y u→ρV y= .one (.ifc true)→ ∃c,y= .const c){r:T}(h:iF τ ρV o.op=some r):
  ∃v,(execOp ρ o).run P w= .ok (.value v) w∧Rd Q w v r∧(Jo o.op=true∨scal r=true):=by
 obtain⟨dst,op,type,pos,after,guard⟩:=o; simp only at h hρ hc2; unfold iF at h; split at h
 ·-- binOp
  rename_i bop t x y yt; obtain⟨v,hv,hs,hr⟩:=VY hT h (hρ x (by simp [Op.operands])) (hρ y (by simp [Op.operands])) x y (fun e=>hc2 _ _ _ _ _ rfl e)
  exact⟨v,by simp only[execOp,Sem.run_bind,hv,Result.andThen_ok,Sem.run_pure],hr.scal hs, .inr hs⟩
 ·-- unOp
  rename_i uop t x; have h1:=hρ x (by simp [Op.operands])
  split at h
  ·rename_i b heq
   simp only[z10]at h; subst h; rw[heq]at h1; have e:=Kc h1; exact⟨.bool !b,by simp only[execOp,e]; rfl, .bool _, .inr rfl⟩
  ·rename_i k n heq
   simp only[z10]at h; subst h; rw[heq]at h1; have e:=wI h1; exact⟨.int k (k.wrap (0 - n)),by simp only[execOp,e]; rfl, .int _ _, .inr rfl⟩
  ·cases h
 ·-- convert
  rename_i s d x; have h1:=hρ x (by simp [Op.operands])
  split at h
  ·rename_i ks k _ n hs hd heq
   simp only[z10]at h; subst h; obtain⟨ds,hds,_⟩:=lX hT hs; obtain⟨dd,hdd,rfl⟩:=lX hT hd; rw[heq]at h1; have e:=wI h1; refine⟨.int k (k.wrap n), ?_, .int _ _, .inr rfl⟩
   simp only[execOp,e,convert,Sem.run_bind,run_underlying hds,run_underlying hdd,Result.andThen_ok,Conv.intToInt,Sem.run_pure]
  ·rename_i e es hs hd heq
   split at h
   ·rename_i hke
    obtain⟨q,hq,rfl⟩:=z26.1 h; obtain⟨ds,hds,rfl⟩:=lX hT hs; obtain⟨dd,hdd,rfl⟩:=lX hT hd; obtain⟨de,hde,rfl⟩:=lX hT hke; rw[heq]at h1; have hrd:Rd Q w (ρ x) (.sl es):=h1; have hes:=En hq; obtain⟨a,cap,e1,_⟩:=Kx hrd; have hlen:es.length=q.length:=by rw[hes]; simp
    suffices hsuf:(Conv.bytesToString (.slice a es.length cap)).run P w= .ok (.string ⟨q.toArray⟩) w by
     refine⟨.string ⟨q.toArray⟩, ?_,by simpa using Rd.str (P:=Q) (w:=w) ⟨q.toArray⟩, .inr rfl⟩
     simp only[execOp,e1,Sem.run_bind,run_convert_bytes_string w s d e a es.length cap hds hde hdd,hsuf,Result.andThen_ok,Sem.run_pure]
    cases a with
    | none=>
     rw[e1]at hrd; generalize hn:es.length=n at hrd; cases hrd with
     | nil=>
      have:q=[]:=by cases q with | nil=>rfl | cons a r=>rw[hes]at hn; simp at hn
      subst this; rfl
    | some ad=>
     have hload:(loadCells ad es.length).run P w= .ok ((q.map fun b=>(b.toNat:Int)).map (Value.int .u8)).toArray w:=by
      rw[e1]at hrd; generalize hn:es.length=n at hrd; cases hrd with
      | nil=>
       have:q=[]:=by cases q with | nil=>rfl | cons a r=>rw[hes]at hn; simp at hn
       subst this; simp [loadCells,loadCellsFrom]
      | sl b off _ _ s1 _ cs hl hc' hs2 hP hm hr=>
       have hrun:=run_loadCells_list (P:=P) w ⟨b,off,none⟩ ((q.map fun b=>(b.toNat:Int)).map (Value.int .u8)) (fun j v hv=>by
        rw[Vj,z30]at hv
        obtain⟨c,hc1,rfl⟩:=z26.1 hv; have he:es[j]? =some [.int .u8 (c.toNat:Int)]:=by rw[hes,z30,hc1]; rfl
        have e2:s1=1:=(hs2 j _ he).symm; subst e2; have h3:=hm j _ 0 _ he rfl; have h4:=hr j _ 0 _ he rfl; rw[kR]; rw[Nat.mul_one,z75]at h3; rw[h3]; generalize cs j 0=z at h4; cases h4; rfl)
       simpa [←hlen,hn]using hrun
     rw[run_bytesToString w ad es.length cap _ hload]; congr 2
     have hfold: ∀(l:List UInt8) (acc:ByteArray),((l.map fun b=>(b.toNat:Int)).foldl (fun r n=>r.push (UInt8.ofNat n.toNat)) acc)=⟨acc.data++l.toArray⟩:=by
      intro l; induction l with
      | nil=>intro acc; simp
      | cons a r ih=>
       intro acc; rw[z52,Xd,ih]; simp [ByteArray.push]
     rw[hfold]; have:ByteArray.empty.data= #[]:=rfl; rw[this,Array.empty_append]
   ·cases h
  ·rename_i s' hs hd heq
   simp only[z10]at h; subst h; obtain⟨ds,hds,rfl⟩:=lX hT hs; obtain⟨dd,hdd,rfl⟩:=lX hT hd; rw[heq]at h1; obtain⟨a,e,rfl⟩:=Fg h1; refine⟨.string a, ?_, .str _, .inr rfl⟩
   simp only[execOp,e,convert,Sem.run_bind,run_underlying hds,run_underlying hdd,Result.andThen_ok,Sem.run_pure]
  ·cases h
 ·-- index
  rename_i t x i; have h1:=hρ x (by simp [Op.operands])
  have h2:=hρ i (by simp [Op.operands])
  split at h
  ·rename_i s k n hs heq heqi
   split at h
   ·rename_i h0
    obtain⟨b,hb,rfl⟩:=z26.1 h; obtain⟨d,hd,rfl⟩:=lX hT hs; rw[heq]at h1; rw[heqi]at h2; obtain⟨a,e1,rfl⟩:=Fg h1; have e2:=wI h2; refine⟨.int .u8 (b.toNat:Int), ?_, .int _ _, .inr rfl⟩
    have hlt:n.toNat<a.size:=by
     rcases Qe n.toNat a.data.toList.length with h3 | h3
     ·simpa using h3
     ·rw[z62 h3]at hb; cases hb
    have hg:a[n.toNat]? =some b:=by
     rw[getElem?_pos a n.toNat hlt]
     rw[z27]at hb
     have hlt':n.toNat<a.data.size:=hlt; rw[z73 hlt']at hb
     exact hb
    simp only[execOp,Instr.index,e1,e2,asIntOf,Sem.run_bind,Sem.run_pure,Result.andThen_ok,run_underlying hd,h0,if_true,hg]
   ·cases h
  ·cases h
 ·-- slice
  rename_i t x lo hi mx; have h1:=hρ x (by simp [Op.operands])
  split at h
  ·rename_i s hs heq
   split at h
   ·cases h
   ·rename_i hmx
    have hmx':mx=none:=by cases mx with | none=>rfl | some m=>simp at hmx
    subst hmx'; obtain⟨⟨l,u⟩,hb,rfl⟩:=z26.1 h; obtain⟨d,hd,rfl⟩:=lX hT hs; rw[heq]at h1; obtain⟨a,e1,rfl⟩:=Fg h1; have hlen:a.data.toList.length=a.size:=z55; rw[hlen]at hb; obtain⟨b1,b2,m,b3,b4,_,hrun⟩:=Bj (P:=P) (isSlice:=false) (fun y hy=>hρ y (by rcases hy with rfl | rfl | hy<;>simp_all [Op.operands])) hb (z39 _)
    refine⟨.string (a.extract l u), ?_, ?_, .inl rfl⟩
    ·simp only[Vm]at hrun
     simp only[execOp,Instr.sliceAt,Instr.slice,e1,Sem.run_bind,Sem.run_pure,Result.andThen_ok,run_underlying hd,Vm,Option.isSome_none,z54,if_false,hrun]
    ·have e:(a.extract l u).data.toList=(a.data.toList.drop l).take (u - l):=by simp [ByteArray.data_extract]
     rw[←e]; exact .str _
  ·rename_i e es hs heq
   obtain⟨ei,he,h⟩:=z22.1 h; split at h
   ·rename_i hall
    obtain⟨⟨l,u⟩,hb,rfl⟩:=z26.1 h; obtain⟨d,hd,rfl⟩:=lX hT hs; obtain⟨info,hinfo,hsz,_⟩:=nC hT he; rw[heq]at h1; have hrd:Rd Q w (ρ x) (.sl es):=h1; obtain⟨a,cap,e1,hcap⟩:=Kx hrd; rw[e1]at hrd; obtain⟨b1,b2,m,b3,b4,_,hrun⟩:=Bj (P:=P) (isSlice:=true) (fun y hy=>hρ y (by rcases hy with rfl | rfl | rfl<;>simp [Op.operands])) hb hcap
    obtain⟨_,_,hr⟩:=MH hrd (l:=l) (k:=u) (m:=m) b1 b2 b3 b4 (size:=ei.size) (fun y hy=>by simpa using z18.1 hall y hy)
    refine⟨.slice (if m=l then a else a.map (·.add (l*ei.size))) (u - l) (m - l), ?_,hr, .inl rfl⟩
    simp only[execOp,Instr.sliceAt,Instr.slice,e1,Sem.run_bind,Sem.run_pure,Result.andThen_ok,run_underlying hd,hrun,sizeOf,typeInfo,run_program,hinfo,hsz]
   ·cases h
  ·cases h
 ·-- call
  rename_i cl; obtain⟨callee,args,ats⟩:=cl; simp only at h; split at h
  ·-- len
   rename_i x t ha ht; have ha':args= #[x]:=by cases args; simp_all
   have ht':ats= #[t]:=by cases ats; simp_all
   subst ha' ht'; have h1:=hρ x (by simp [Op.operands,Call.operands])
   split at h
   ·rename_i s hs heq
    simp only[z10]at h; subst h; obtain⟨d,hd,rfl⟩:=lX hT hs; rw[heq]at h1; obtain⟨a,e1,rfl⟩:=Fg h1; have hlen:a.data.toList.length=a.size:=z55; rw[hlen]; refine⟨.int .i64 a.size, ?_, .int _ _, .inr rfl⟩
    simp [execOp,resolve,invoke,builtin,Builtin.len_,e1,run_underlying hd,goInt]
   ·rename_i e es hs heq
    simp only[z10]at h; subst h; obtain⟨d,hd,rfl⟩:=lX hT hs; rw[heq]at h1; obtain⟨a,cap,e1,_⟩:=Kx h1; refine⟨.int .i64 es.length, ?_, .int _ _, .inr rfl⟩
    simp [execOp,resolve,invoke,builtin,Builtin.len_,e1,run_underlying hd,goInt]
   ·cases h
  ·-- max
   rename_i ts x y ha; have ha':args= #[x,y]:=by cases args; simp_all
   subst ha'; have h1:=hρ x (by simp [Op.operands,Call.operands])
   have h2:=hρ y (by simp [Op.operands,Call.operands])
   split at h
   ·rename_i k a _ b heq heq2
    simp only[z10]at h; subst h; rw[heq]at h1; rw[heq2]at h2; have e1:=wI h1; have e2:=wI h2; refine⟨_, ?_, .int _ _, .inr rfl⟩
    simp [execOp,resolve,invoke,builtin,e1,e2,run_max_int2]
   ·cases h
  ·-- min
   rename_i ts x y ha; have ha':args= #[x,y]:=by cases args; simp_all
   subst ha'; have h1:=hρ x (by simp [Op.operands,Call.operands])
   have h2:=hρ y (by simp [Op.operands,Call.operands])
   split at h
   ·rename_i k a _ b heq heq2
    simp only[z10]at h; subst h; rw[heq]at h1; rw[heq2]at h2; have e1:=wI h1; have e2:=wI h2; refine⟨_, ?_, .int _ _, .inr rfl⟩
    simp [execOp,resolve,invoke,builtin,e1,e2,run_min_int2]
   ·cases h
  ·cases h
 ·cases h
end Go.Own

namespace Go.Own
open Go.RowKit

structure St where
  n:Nat
  sl:Nat→V
  ob:Vz
  fl:Loc→K

def W.leaf:W→Nat→Option T
  | .c x,0=>some x
  | .ag xs,j=>xs[j]?
  | _,_=>none
def V.leaf:V→Nat→Nat→Option T
  | .one w,0,j=>w.leaf j
  | .tup ws,k,j=>(ws[k]?).bind (·.leaf j)
  | _,_,_=>none
def atL(sl:Nat→V)(ob:Vz):Loc→Option T
  | .s i k j=>(sl i).leaf k j
  | .oc o j=>(ob o).bind (·[j]?)
  | _=>none
def St.at(st:St)(l:Loc):Option T:=atL st.sl st.ob l

def Hm:Value→Nat→Option Value
  | .agg cs,j=>cs[j]?
  | v,0=>some v
  | _,_=>none
def sH:Value→Nat→Nat→Option Value
  | .tuple vs,k,j=>(vs[k]?).bind (Hm · j)
  | v,0,j=>Hm v j
  | _,_,_=>none
def vAt(tmps:Array Value)(β:Nat→Nat)(w:World):Loc→Option Value
  | .s i k j=>sH (tmps.getD i undef) k j
  | .oc o j=>w.cell? ⟨β o,j,none⟩
  | _=>none

def oQ(v:Value):Prop:=(∀cs,v≠ .agg cs)∧ ∀vs,v≠ .tuple vs

def CpR(g:G)(w:World)(κ:K)(b off:Nat)(xs:List T):Prop:=
  match κ with
  | .D=>True
  | .F=>frz g w b∧ ∀(j:Nat) x,xs[j]? =some x→ ∃c,w.cell? ⟨b,off+j,none⟩=some c∧Rd (frz g w) w c x
  | .V=>all g w b∧ ∀(j:Nat) x,xs[j]? =some x→ ∃c,w.cell? ⟨b,off+j,none⟩=some c∧Rd (all g w) w c x
  | _=>False

def RW(g:G)(w:World)(κ:Nat→K)(l:Nat→Loc)(v:Value):W→Prop
  | .c x=>oQ v∧LF g w (κ 0) (l 0) v x
  | .ag xs=> ∃cs:Array Value,v= .agg cs∧cs.size=xs.length∧ ∀(j:Nat) x,xs[j]? =some x→ ∃c,cs[j]? =some c∧oQ c∧LF g w (κ j) (l j) c x
  | .ptr o off=>v= .pointer (some ⟨g.β o,off,none⟩)
  | .cp xs=> ∃b off,v= .pointer (some ⟨b,off,none⟩)∧CpR g w (κ 0) b off xs
  | .nilp=>v= .pointer none
  | .ifc b=>if b then v= .nilIface else ∃d u,v= .iface d u
  | .fn f caps=>v= .func (.func f) #[] (caps.map fun c=>Value.pointer (some ⟨g.β c.1,c.2,none⟩)).toArray
  | _=>True

def RV(g:G)(w:World)(κ:Nat→Nat→K)(l:Nat→Nat→Loc)(v:Value):V→Prop
  | .one x=>RW g w (κ 0) (l 0) v x
  | .tup ws=> ∃vs:Array Value,v= .tuple vs∧vs.size=ws.length∧ ∀(k:Nat) x,ws[k]? =some x→ ∃u,vs[k]? =some u∧RW g w (κ k) (l k) u x

inductive Pl (w:World):Value→T→List (Nat×Nat)→Value→T→Prop
  | nil (v:Value) (x:T):Pl w v x [] v x
  | cons (b off len cap:Nat) (es:List (List T)) (e:List T) (c:Value) (y:T) (i j:Nat) (p:List (Nat×Nat)) (v':Value) (x':T) (he:es[i]? =some e) (hy:e[j]? =some y)
      (hc:w.cell? ⟨b,off+i*e.length+j,none⟩=some c) (h:Pl w c y p v' x'):Pl w (.slice (some ⟨b,off,none⟩) len cap) (.sl es) ((i,j)::p) v' x'

def aI:V→Loc
  | .one (.al l _)=>l
  | .one (.pp l _ _ _)=>l
  | _=> .none

def Ga(st:St)(tmps:Array Value)(β:Nat→Nat)(w:World)(v:Value):V→Prop
  | .one (.al l p)=> ∃v0 x0 x',vAt tmps β w l=some v0∧st.at l=some x0∧Pl w v0 x0 p v x'
  | .one (.pp l p i j)=> ∃v0 x0 b off len cap es e,vAt tmps β w l=some v0∧st.at l=some x0∧Pl w v0 x0 p (.slice (some ⟨b,off,none⟩) len cap) (.sl es)∧es[i]? =some e∧v= .pointer (some ⟨b,off+i*e.length+j,none⟩)
  | _=>True

def par:Nat:=1000000

def qN(l:Loc):Prop:=l= .none∨l= .ext

structure tQ (g0:G) (w0:World) (g:G) (w:World):Prop where
  os:w.os=w0.os
  tape:w.tape=w0.tape
  output:w.output=w0.output
  evo:Evo g0 w0 g w (fun l=> ¬ qN l)

structure cC (g0:G) (w0:World) (st:St) (a:Act) (g:G) (w:World):Prop where
  framed:tQ g0 w0 g w
  ok:GOk g w
  size:a.tmps.size=st.n
  defers:a.defers=[]
  slots: ∀i,RV g w (fun k j=>st.fl (.s i k j)) (fun k j=> .s i k j) (a.tmps.getD i undef) (st.sl i)
  obs: ∀o cells,st.ob o=some cells→ ∃arr ty,w.heap[g.β o]? =some (.cells arr ty (0,0))∧arr.size=cells.length∧g.own (g.β o)= .obj o∧
    ∀(j:Nat) x,cells[j]? =some x→ ∃c,arr[j]? =some c∧oQ c∧LF g w (st.fl (.oc o j)) (.oc o j) c x
  pls: ∀i,aI (st.sl i)≠ .none→st.fl (.s i 0 0)≠ .D→(st.fl (aI (st.sl i))).hold=true∧Ga st a.tmps g.β w (a.tmps.getD i undef) (st.sl i)
  bp: ∀o,par≤o→g.β o=g0.β o
  nle:st.n≤par

def Sim(g0:G)(w0:World)(st:St)(a:Act)(w:World):Prop:= ∃g,cC g0 w0 st a g w

theorem tQ.refl(g:G)(w:World):tQ g w g w:=⟨rfl,rfl,rfl,Evo.refl _ _ _⟩
theorem tQ.trans{g0 g1 g2:G}{w0 w1 w2:World}(h:tQ g0 w0 g1 w1)(k:tQ g1 w1 g2 w2):tQ g0 w0 g2 w2:=⟨k.os.trans h.os,k.tape.trans h.tape,k.output.trans h.output,h.evo.trans k.evo⟩

theorem St.at_s(st:St)(i k j:Nat):st.at (.s i k j)=(st.sl i).leaf k j:=rfl
theorem St.at_oc(st:St)(o j:Nat):st.at (.oc o j)=(st.ob o).bind (·[j]?):=rfl

theorem iQ{v:Value}(h:oQ v):Hm v 0=some v∧sH v 0 0=some v:=by
  cases v<;>first | exact⟨rfl,rfl⟩ | exact absurd rfl (h.1 _) | exact absurd rfl (h.2 _)

theorem RW.leaf{g:G}{w:World}{κ:Nat→K}{l:Nat→Loc}{v:Value}{x:W}{j:Nat}{t:T}(h:RW g w κ l v x)(hl:x.leaf j=some t): ∃u,Hm v j=some u∧sH v 0 j=some u∧oQ u∧LF g w (κ j) (l j) u t:=by
  cases x with
  | c y=>
    cases j with
    | zero=>
      simp only[W.leaf,z10]at hl; subst hl; exact⟨v,(iQ h.1).1,(iQ h.1).2,h.1,h.2⟩
    | succ j=>simp [W.leaf]at hl
  | ag xs=>
    obtain⟨cs,rfl,h2,h3⟩:=h; obtain⟨c,hc,hn,hr⟩:=h3 j t hl; exact⟨c,hc,hc,hn,hr⟩
  | _=>simp [W.leaf]at hl

theorem RV.leaf{g:G}{w:World}{κ:Nat→Nat→K}{l:Nat→Nat→Loc}{v:Value}{x:V}{k j:Nat}{t:T}(h:RV g w κ l v x)(hl:x.leaf k j=some t): ∃u,sH v k j=some u∧oQ u∧LF g w (κ k j) (l k j) u t:=by
  cases x with
  | one x=>
    cases k with
    | zero=>
      obtain⟨u,_,hu,hn,hr⟩:=RW.leaf h hl; exact⟨u,hu,hn,hr⟩
    | succ k=>simp [V.leaf]at hl
  | tup ws=>
    obtain⟨vs,rfl,h2,h3⟩:=h; simp only[V.leaf,z22]at hl; obtain⟨y,hy,hl⟩:=hl; obtain⟨u,hu,hR⟩:=h3 k y hy; obtain⟨u2,hu2,_,hn,hr⟩:=RW.leaf hR hl; exact⟨u2,by simp [sH,hu,hu2],hn,hr⟩

theorem cC.get{g0:G}{w0:World}{st:St}{a:Act}{g:G}{w:World}(h:cC g0 w0 st a g w){l:Loc}{x:T}(hx:st.at l=some x): ∃v,vAt a.tmps g.β w l=some v∧oQ v∧LF g w (st.fl l) l v x:=by
  cases l with
  | none=>simp [St.at,atL]at hx
  | ext=>simp [St.at,atL]at hx
  | obj o=>simp [St.at,atL]at hx
  | s i k j=>exact(h.slots i).leaf hx
  | oc o j=>
    simp only[St.at,atL,z22]at hx; obtain⟨cells,hc,hx⟩:=hx; obtain⟨arr,ty,h1,h2,h3,h4⟩:=h.obs o cells hc; obtain⟨c,c1,c2,c3⟩:=h4 j x hx; exact⟨c,by simp only[vAt]; rw[cV w _ j arr ty _ h1]; exact c1,c2,c3⟩

theorem Hj{st:St}{l:Loc}{x:T}(hx:st.at l=some x):l≠ .none∧l≠ .ext∧ ∀o,l≠ .obj o:=by
  cases l<;>first | (simp [St.at,atL]at hx; done) | exact⟨by simp,by simp,by simp⟩

theorem at_isPlace{st:St}{l:Loc}{x:T}(hx:st.at l=some x):l.place=true:=by
  cases l<;>first | (simp [St.at,atL]at hx; done) | rfl

theorem CpR.evo{g g':G}{w w':World}{X:Loc→Prop}{κ:K}{b off:Nat}{xs:List T}(hE:Evo g w g' w' X)(hn: ¬ X .none)(hV:κ= .D∨κ= .F∨ ∀b,all g w b→all g' w' b∧w'.heap[b]? =w.heap[b]?)(h:CpR g w κ b off xs):CpR g' w' κ b off xs:=by
  have hZ: ∀b,frz g w b→frz g' w' b∧w'.heap[b]? =w.heap[b]? :=fun b hb=>by
    obtain⟨h1,h2⟩:=hE.keep b hb.1 (by rw[hb.2]; exact hn)
    exact⟨⟨z63 hb.1 hE.size,h1.trans hb.2⟩,h2⟩
  have key:(∀b,all g w b→all g' w' b∧w'.heap[b]? =w.heap[b]?)→(all g w b∧ ∀(j:Nat) x,xs[j]? =some x→ ∃c,w.cell? ⟨b,off+j,none⟩=some c∧Rd (all g w) w c x)→
      (all g' w' b∧ ∀(j:Nat) x,xs[j]? =some x→ ∃c,w'.cell? ⟨b,off+j,none⟩=some c∧Rd (all g' w') w' c x):=by
    rintro hq ⟨h1,h2⟩
    refine⟨(hq b h1).1,fun j x hx=> ?_⟩
    obtain⟨c,hc,hr⟩:=h2 j x hx; exact⟨c,(cN (hq b h1).2).trans hc,hr.mono hq⟩
  cases κ with
  | D=>trivial
  | F=>
    obtain⟨h1,h2⟩:=h; refine⟨(hZ b h1).1,fun j x hx=> ?_⟩
    obtain⟨c,hc,hr⟩:=h2 j x hx; exact⟨c,(cN (hZ b h1).2).trans hc,hr.mono hZ⟩
  | V=>exact key (by simpa using hV) h
  | A n=>exact h.elim
  | U n=>exact h.elim
  | S=>exact h.elim
  | N=>exact h.elim

structure AM (g:G) (w:World) (g':G) (w':World) (X:Loc→Prop) (st:St):Prop where
  evo:Evo g w g' w' X
  X: ∀l,X l→ ¬ qN l∧ ∀o,l≠ .obj o
  V:(∀b,all g w b→all g' w' b∧w'.heap[b]? =w.heap[b]?)∨ ∀l,st.fl l≠ .V
  os:w'.os=w.os
  tape:w'.tape=w.tape
  output:w'.output=w.output
  ok:GOk g' w'

theorem AM.none{g g':G}{w w':World}{X:Loc→Prop}{st:St}(h:AM g w g' w' X st): ¬ X .none:=fun hx=>(h.X _ hx).1 (.inl rfl)
theorem AM.framed{g g':G}{w w':World}{X:Loc→Prop}{st:St}(h:AM g w g' w' X st):tQ g w g' w':=⟨h.os,h.tape,h.output,h.evo.mono fun l hl=>(h.X l hl).1⟩

theorem AM.lf{g g':G}{w w':World}{X:Loc→Prop}{st:St}(h:AM g w g' w' X st)(hok:GOk g w){l:Loc}{v:Value}{x:T}(hl:l≠ .none)(hx:(st.fl l).hold=true→ ¬ X l)(hf:LF g w (st.fl l) l v x):LF g' w' (st.fl l) l v x:=by
  refine LF.evo h.evo hok hl h.none hx (fun hV=> ?_) hf
  rcases h.V with h1 | h1
  · exact h1
  · exact absurd hV (h1 l)

theorem RW.calm{g g':G}{w w':World}{X:Loc→Prop}{st:St}(h:AM g w g' w' X st)(hok:GOk g w)(hβ: ∀o,g'.β o=g.β o){i k:Nat}(hX: ∀j,(st.fl (.s i k j)).hold=true→ ¬ X (.s i k j)){v:Value}{x:W}(hr:RW g w (fun j=>st.fl (.s i k j)) (fun j=> .s i k j) v x):
    RW g' w' (fun j=>st.fl (.s i k j)) (fun j=> .s i k j) v x:=by
  cases x with
  | c y=>exact⟨hr.1,h.lf hok (by simp) (hX 0) hr.2⟩
  | ag xs=>
    obtain⟨cs,h1,h2,h3⟩:=hr; refine⟨cs,h1,h2,fun j y hy=> ?_⟩
    obtain⟨c,c1,c2,c3⟩:=h3 j y hy; exact⟨c,c1,c2,h.lf hok (by simp) (hX j) c3⟩
  | ptr o off=>simp only[RW]at hr ⊢; rw[hβ]; exact hr
  | cp xs=>
    obtain⟨b,off,h1,h2⟩:=hr; refine⟨b,off,h1, ?_⟩
    have hc: ∀κ,κ=st.fl (.s i k 0)→CpR g w κ b off xs→CpR g' w' κ b off xs:=by
      intro κ hκ h2; rcases h.V with hV | hV
      · exact h2.evo h.evo h.none (.inr (.inr hV))
      · cases κ with
        | D=>trivial
        | F=>exact h2.evo h.evo h.none (.inr (.inl rfl))
        | V=>exact absurd hκ.symm (hV (.s i k 0))
        | A n=>exact h2.elim
        | U n=>exact h2.elim
        | S=>exact h2.elim
        | N=>exact h2.elim
    exact hc _ rfl h2
  | nilp=>exact hr
  | ifc b=>exact hr
  | fn f caps=>simp only[RW]at hr ⊢; simp only[hβ]; exact hr
  | _=>trivial

theorem RV.calm{g g':G}{w w':World}{X:Loc→Prop}{st:St}(h:AM g w g' w' X st)(hok:GOk g w)(hβ: ∀o,g'.β o=g.β o){i:Nat}(hX: ∀k j,(st.fl (.s i k j)).hold=true→ ¬ X (.s i k j)){v:Value}{x:V}(hr:RV g w (fun k j=>st.fl (.s i k j)) (fun k j=> .s i k j) v x):
    RV g' w' (fun k j=>st.fl (.s i k j)) (fun k j=> .s i k j) v x:=by
  cases x with
  | one x=>exact RW.calm h hok hβ (hX 0) hr
  | tup ws=>
    obtain⟨vs,h1,h2,h3⟩:=hr; refine⟨vs,h1,h2,fun k x hx=> ?_⟩
    obtain⟨u,hu,hR⟩:=h3 k x hx; exact⟨u,hu,RW.calm h hok hβ (hX k) hR⟩

theorem Rd.pl{P:Nat→Prop}{w w':World}{v:Value}{x:T}(h:Rd P w v x)(hs: ∀b,P b→w'.heap[b]? =w.heap[b]?): ∀ {p:List (Nat×Nat)} {v':Value} {x':T},Pl w v x p v' x'→Pl w' v x p v' x':=by
  induction h with
  | sl b off len cap s es cs hl hc hss hP hm hr ih=>
    intro p v' x' hp; cases hp with
    | nil=>exact .nil _ _
    | cons b off len cap es e c y i j p v' x' he hy hc h=>
      have e1:=hss i e he; have h1:=hm i e j y he hy; rw[e1]at hc; rw[h1]at hc; cases hc; exact .cons b off len cap es e _ y i j p v' x' he hy (by rw[e1,cN (hs b hP)]; exact h1) (ih i e j y he hy h)
  | nil a cap=>
    intro p v' x' hp; cases hp with
    | nil=>exact .nil _ _
    | cons b off len cap es e c y i j p v' x' he hy hc h=>simp at he
  | _=>
    intro p v' x' hp; cases hp with
    | nil=>exact .nil _ _

theorem Ow.pl{Z:Nat→Prop}{deep:Bool}{w w':World}{t:Option Nat}{F:Nat→Prop}{v:Value}{x:T}(h:Ow Z deep w t F v x)(hZ: ∀b,Z b→w'.heap[b]? =w.heap[b]?):(∀b,F b→w'.heap[b]? =w.heap[b]?)→ ∀ {p:List (Nat×Nat)} {v':Value} {x':T},Pl w v x p v' x'→Pl w' v x p v' x':=by
  induction h with
  | frz F v x hd h=>intro _ p v' x' hp; exact h.pl hZ hp
  | sl t F b len cap s arr ty es own cs ht hb hh hl hc hcap hs ha hm hr ih=>
    intro hF p v' x' hp; cases hp with
    | nil=>exact .nil _ _
    | cons _ off len cap es e c y i j p v' x' he hy hc h=>
      have e1:=hs i e he; have h1:=hm i e j y he hy; rw[z28,e1,cV w b _ arr ty _ hh,h1]at hc; cases hc; exact .cons b 0 len cap es e _ y i j p v' x' he hy (by rw[z28,e1,cN (hF b hb),cV w b _ arr ty _ hh]; exact h1) (ih i e j y he hy (fun k hk=>hF k hk.1) h)
  | nil t F a=>
    intro _ p v' x' hp; cases hp with
    | nil=>exact .nil _ _
    | cons b off len cap es e c y i j p v' x' he hy hc h=>simp at he
  | _=>
    intro _ p v' x' hp; cases hp with
    | nil=>exact .nil _ _

theorem Act.put_getD(a:Act)(d:Nat)(u:Value)(i:Nat)(hd:d<a.tmps.size):(a.put (some d) u).tmps.getD i undef=if i=d then u else a.tmps.getD i undef:=by
  simp only[Act.put,z58]; by_cases h:i=d
  · subst h
    rw[z19 rfl,z113 hd]; rfl
  · rw[z14 h,z102 (Ne.symm h)]

def aX(d:Nat):Loc→Bool
  | .s i _ _=>i == d
  | _=>false

def St.put(st:St)(d:Nat)(r:V)(κ:Nat→Nat→K):St:=
  { n:=st.n
    sl:=fun i=>if i=d then r else st.sl i
    ob:=st.ob
    fl:=fun l=>match l with
      | .s i k j=>if i=d then κ k j else if k=0∧j=0∧aX d (aI (st.sl i))=true then .D else st.fl (.s i k j)
      | l=>st.fl l }

theorem Vf{g:G}{w:World}{κ κ':Nat→Nat→K}{l l':Nat→Nat→Loc}{v:Value}{x:V}(hx:aI x≠ .none):RV g w κ l v x=RV g w κ' l' v x:=by
  cases x with
  | one x=>cases x<;>first | rfl | exact absurd rfl hx
  | tup ws=>exact absurd rfl hx

theorem Lc(d:Nat):aX d .none=false:=rfl

theorem Ar{a:Act}{d:Nat}{u:Value}(hd:d<a.tmps.size){β:Nat→Nat}{w:World}{l:Loc}(hl:aX d l=false):vAt (a.put (some d) u).tmps β w l=vAt a.tmps β w l:=by
  cases l with
  | s i k j=>
    have:i≠d:=by intro e; subst e; simp [aX]at hl
    simp only[vAt]; rw[Act.put_getD a d u i hd,z14 this]
  | _=>rfl

theorem at_put{st:St}{d:Nat}{r:V}{κ:Nat→Nat→K}{l:Loc}(hl:aX d l=false):(st.put d r κ).at l=st.at l:=by
  cases l with
  | s i k j=>
    have:i≠d:=by intro e; subst e; simp [aX]at hl
    simp only[St.at,atL,St.put,z14 this]
  | _=>rfl

theorem Ga.congr{st st':St}{tmps tmps':Array Value}{β β':Nat→Nat}{w w':World}{v:Value}{x:V}(h:Ga st tmps β w v x)(h1:vAt tmps' β' w' (aI x)=vAt tmps β w (aI x))(h2:st'.at (aI x)=st.at (aI x))
    (h3: ∀v0 x0 p v' x',vAt tmps β w (aI x)=some v0→st.at (aI x)=some x0→Pl w v0 x0 p v' x'→Pl w' v0 x0 p v' x'):Ga st' tmps' β' w' v x:=by
  cases x with
  | tup ws=>trivial
  | one x=>
    cases x with
    | al l p=>
      obtain⟨v0,x0,x',e1,e2,e3⟩:=h; exact⟨v0,x0,x',h1.trans e1,h2.trans e2,h3 _ _ _ _ _ e1 e2 e3⟩
    | pp l p i j=>
      obtain⟨v0,x0,b,off,len,cap,es,e,e1,e2,e3,e4⟩:=h; exact⟨v0,x0,b,off,len,cap,es,e,h1.trans e1,h2.trans e2,h3 _ _ _ _ _ e1 e2 e3,e4⟩
    | _=>trivial

theorem cC.pl_evo{g0:G}{w0:World}{st:St}{a:Act}{g:G}{w:World}(h:cC g0 w0 st a g w){g':G}{w':World}{X:Loc→Prop}(hE:Evo g w g' w' X)(hn: ¬ X .none){l:Loc}(hk:(st.fl l).hold=true)(hX: ¬ X l){v0:Value}{x0:T}(hv:vAt a.tmps g.β w l=some v0)(hx:st.at l=some x0)
    {p:List (Nat×Nat)}{v':Value}{x':T}(hp:Pl w v0 x0 p v' x'):Pl w' v0 x0 p v' x':=by
  obtain⟨v,e1,_,e2⟩:=h.get hx; rw[hv]at e1; cases e1; have hl:=(Hj hx).1; have hZ: ∀b,frz g w b→w'.heap[b]? =w.heap[b]? :=fun b hb=>(hE.keep b hb.1 (by rw[hb.2]; exact hn)).2
  have hF: ∀b,g.own b=l→w'.heap[b]? =w.heap[b]? :=fun b hb=>(hE.keep b (h.ok.own b (by rw[hb]; exact hl)) (by rw[hb]; exact hX)).2
  generalize st.fl l=κ at hk e2; cases κ with
  | A n=>exact Ow.pl e2 hZ hF hp
  | U n=>exact Ow.pl e2 hZ hF hp
  | _=>simp [K.hold]at hk

theorem cC.put{g0:G}{w0:World}{st:St}{a:Act}{g:G}{w:World}(h:cC g0 w0 st a g w){g':G}{w':World}{X:Loc→Prop}(hC:AM g w g' w' X st)(hβ: ∀o,g'.β o=g.β o){d:Nat}(hd:d<st.n)
    (hX: ∀l,(st.fl l).hold=true→(∃x,st.at l=some x)→aX d l=false→ ¬ X l){u:Value}{r:V}{κ:Nat→Nat→K}(hr:RV g' w' κ (fun k j=> .s d k j) u r)
    (hpl:aI r≠ .none→κ 0 0≠ .D→(st.fl (aI r)).hold=true∧aX d (aI r)=false∧Ga st a.tmps g'.β w' u r):
    cC g0 w0 (st.put d r κ) (a.put (some d) u) g' w':=by
  have hd':d<a.tmps.size:=by rw[h.size]; exact hd
  have hXl: ∀l x,st.at l=some x→aX d l=false→(st.fl l).hold=true→ ¬ X l:=fun l x hx hl hk=>hX l hk ⟨x,hx⟩ hl
  refine⟨h.framed.trans hC.framed,hC.ok, ?_,h.defers,fun i=> ?_,fun o cells hc=> ?_,fun i hi hf=> ?_,fun o ho=>(hβ o).trans (h.bp o ho),h.nle⟩
  · simp only[Act.put,z127]; exact h.size
  · rw[Act.put_getD a d u i hd']
    by_cases hi:i=d
    · subst hi
      simp only[St.put,if_true]; exact hr
    · simp only[St.put,z14 hi]
      by_cases hroot:aI (st.sl i)= .none
      · have e:(fun k j=>if k=0∧j=0∧aX d (aI (st.sl i))=true then K.D else st.fl (.s i k j))=fun k j=>st.fl (.s i k j):=by
          funext k j
          rw[hroot,Lc,z14 (by simp)]
        rw[e]; have hsl:=h.slots i; generalize hs:st.sl i=x at hsl; have hat: ∀k j t,x.leaf k j=some t→st.at (.s i k j)=some t:=fun k j t ht=>by rw[St.at_s,hs]; exact ht
        have hns: ∀k j,aX d (.s i k j)=false:=fun k j=>by simp [aX,hi]
        have hW: ∀k (y:W),(∀j t,y.leaf j=some t→st.at (.s i k j)=some t)→ ∀v,RW g w (fun j=>st.fl (.s i k j)) (fun j=> .s i k j) v y→RW g' w' (fun j=>st.fl (.s i k j)) (fun j=> .s i k j) v y:=by
          intro k y hy v hR; cases y with
          | c z=>exact⟨hR.1,hC.lf h.ok (by simp) (hXl _ z (hy 0 z rfl) (hns k 0)) hR.2⟩
          | ag xs=>
            obtain⟨cs,h1,h2,h3⟩:=hR; refine⟨cs,h1,h2,fun j z hz=> ?_⟩
            obtain⟨c,c1,c2,c3⟩:=h3 j z hz; exact⟨c,c1,c2,hC.lf h.ok (by simp) (hXl _ z (hy j z hz) (hns k j)) c3⟩
          | ptr o off=>simp only[RW]at hR ⊢; rw[hβ]; exact hR
          | cp xs=>
            obtain⟨b,off,h1,h2⟩:=hR; refine⟨b,off,h1, ?_⟩
            have hc: ∀κ,κ=st.fl (.s i k 0)→CpR g w κ b off xs→CpR g' w' κ b off xs:=by
              intro κ hκ h2; rcases hC.V with hV | hV
              · exact h2.evo hC.evo hC.none (.inr (.inr hV))
              · cases κ with
                | D=>trivial
                | F=>exact h2.evo hC.evo hC.none (.inr (.inl rfl))
                | V=>exact absurd hκ.symm (hV (.s i k 0))
                | A n=>exact h2.elim
                | U n=>exact h2.elim
                | S=>exact h2.elim
                | N=>exact h2.elim
            exact hc _ rfl h2
          | nilp=>exact hR
          | ifc b=>exact hR
          | fn f caps=>simp only[RW]at hR ⊢; simp only[hβ]; exact hR
          | _=>trivial
        cases x with
        | one y=>exact hW 0 y (fun j t ht=>hat 0 j t ht) _ hsl
        | tup ws=>
          obtain⟨vs,h1,h2,h3⟩:=hsl; refine⟨vs,h1,h2,fun k y hy=> ?_⟩
          obtain⟨v,hv,hR⟩:=h3 k y hy; exact⟨v,hv,hW k y (fun j t ht=>hat k j t (by simp [V.leaf,hy,ht])) v hR⟩
      · have hsl:=h.slots i
        have: ∀(x:V),aI x≠ .none→ ∀κ l v,RV g' w' κ l v x:=by
          intro x hx κ l v; cases x with
          | one x=>cases x<;>first | trivial | exact absurd rfl hx
          | tup ws=>exact absurd rfl hx
        exact this _ hroot _ _ _
  · obtain⟨arr,ty,h1,h2,h3,h4⟩:=h.obs o cells hc
    have hb:g.β o<w.heap.size:=h.ok.own _ (by rw[h3]; simp)
    obtain⟨k1,k2⟩:=hC.evo.keep (g.β o) hb (by rw[h3]; exact fun hx=>(hC.X _ hx).2 o rfl)
    rw[hβ]; refine⟨arr,ty,k2.trans h1,h2,k1.trans h3,fun j x hx=> ?_⟩
    obtain⟨c,c1,c2,c3⟩:=h4 j x hx; exact⟨c,c1,c2,hC.lf h.ok (by simp) (hXl _ x (by rw[St.at_oc]; have:st.ob o=some cells:=hc; rw[this]; exact hx) rfl) c3⟩
  · by_cases hid:i=d
    · subst hid
      have e1:(st.put i r κ).sl i=r:=by simp [St.put]
      have e2:(st.put i r κ).fl (.s i 0 0)=κ 0 0:=by simp [St.put]
      rw[e1]at hi ⊢; rw[e2]at hf; obtain⟨h1,h2,h3⟩:=hpl hi hf
      · refine⟨?_, ?_⟩
        · have:(st.put i r κ).fl (aI r)=st.fl (aI r):=by
            generalize hrr:aI r=l at*; cases l with
            | s i' k j=>
              have hne:i'≠i:=by intro e; subst e; simp [aX]at h2
              have hns:aX i (aI (st.sl i'))=false∨ ¬ (k=0∧j=0):=by
                by_cases hkj:k=0∧j=0
                · left
                  obtain⟨rfl,rfl⟩:=hkj; have hx: ∃x,st.at (.s i' 0 0)=some x:=by
                    generalize hrv:r=rv at h3 hrr; cases rv with
                    | tup ws=>simp [aI]at hrr
                    | one y=>
                      cases y with
                      | al l p=>simp only[aI]at hrr; subst hrr; obtain⟨_,x0,_,_,e,_⟩:=h3; exact⟨x0,e⟩
                      | pp l p a b=>simp only[aI]at hrr; subst hrr; obtain⟨_,x0,_,_,_,_,_,_,_,e,_⟩:=h3; exact⟨x0,e⟩
                      | _=>simp [aI]at hrr
                  obtain⟨x,hx⟩:=hx; rw[St.at_s]at hx; cases hsl:st.sl i' with
                  | tup ws=>rfl
                  | one y=>cases y<;>first | rfl | (rw[hsl]at hx; simp [V.leaf,W.leaf]at hx)
                · exact .inr hkj
              simp only[St.put,z14 hne]; rw[z14]; rintro ⟨a1,a2,a3⟩
              rcases hns with h | h
              · rw[h]at a3; cases a3
              · exact h ⟨a1,a2⟩
            | _=>rfl
          rw[this]; exact h1
        · have h4:(a.put (some i) u).tmps.getD i undef=u:=by rw[Act.put_getD a i u i hd',z19 rfl]
          rw[h4]; exact h3.congr (Ar hd' h2) (at_put h2) (fun _ _ _ _ _ _ _ h=>h)
    · have e1:(st.put d r κ).sl i=st.sl i:=by simp [St.put,hid]
      rw[e1]at hi ⊢; have hf':aX d (aI (st.sl i))=false∧st.fl (.s i 0 0)≠ .D:=by
        simp only[St.put,z14 hid,Nv]at hf; by_cases hs:aX d (aI (st.sl i))=true
        · rw[z19 hs]at hf; exact absurd rfl hf
        · rw[z14 hs]at hf; exact⟨by simpa using hs,hf⟩
      obtain⟨h1,h2⟩:=h.pls i hi hf'.2; have hroot: ∃x,st.at (aI (st.sl i))=some x:=by
        generalize hrv:st.sl i=rv at h2 hi; cases rv with
        | tup ws=>simp [aI]at hi
        | one y=>
          cases y with
          | al l p=>obtain⟨_,x0,_,_,e,_⟩:=h2; exact⟨x0,e⟩
          | pp l p a b=>obtain⟨_,x0,_,_,_,_,_,_,_,e,_⟩:=h2; exact⟨x0,e⟩
          | _=>simp [aI]at hi
      obtain⟨x0,hx0⟩:=hroot; have hnX:=hXl _ _ hx0 hf'.1 h1; refine⟨?_, ?_⟩
      · have:(st.put d r κ).fl (aI (st.sl i))=st.fl (aI (st.sl i)):=by
          generalize hrr:aI (st.sl i)=l at*; cases l with
          | s i' k j=>
            have hne:i'≠d:=by intro e; subst e; simp [aX]at hf'
            simp only[St.put,z14 hne]; rw[z14]; rintro ⟨rfl,rfl,a3⟩
            rw[St.at_s]at hx0; cases hsl:st.sl i' with
            | tup ws=>rw[hsl]at a3; simp [aI,aX]at a3
            | one y=>cases y<;>first | (rw[hsl]at a3; simp [aI,aX]at a3; done) | (rw[hsl]at hx0; simp [V.leaf,W.leaf]at hx0)
          | _=>rfl
        rw[this]; exact h1
      · rw[Act.put_getD a d u i hd',z14 hid]
        refine h2.congr ?_ (at_put hf'.1) (fun v0 x0 p v' x' e1 e2 hp=>h.pl_evo hC.evo hC.none h1 hnX e1 e2 hp)
        rw[Ar hd' hf'.1]; generalize aI (st.sl i)=l at*; cases l with
        | oc o j=>
          simp only[vAt]; rw[hβ]; simp only[St.at,atL,z22]at hx0; obtain⟨cells,hc,_⟩:=hx0; obtain⟨arr,ty,k1,k2,k3,k4⟩:=h.obs o cells hc; exact cN (hC.evo.keep (g.β o) (h.ok.own _ (by rw[k3]; simp)) (by rw[k3]; exact fun hx=>(hC.X _ hx).2 o rfl)).2
        | _=>rfl
end Go.Own

namespace Go.Own
open Go.RowKit

def V.comp:V→Nat→Option W
 | .one w,0=>some w
 | .tup ws,k=>ws[k]?
 | _,_=>none

theorem RW.map{g g':G}{w w':World}{κ κ':Nat→K}{l l':Nat→Loc}{v:Value}{x:W}(hβ: ∀o,g'.β o=g.β o)(hleaf: ∀j t u,x.leaf j=some t→Hm v j=some u→oQ u→LF g w (κ j) (l j) u t→LF g' w' (κ' j) (l' j) u t)
  (hcp: ∀xs,x= .cp xs→ ∀b off,CpR g w (κ 0) b off xs→CpR g' w' (κ' 0) b off xs)(h:RW g w κ l v x):RW g' w' κ' l' v x:=by
 cases x with
 | c y=>exact⟨h.1,hleaf 0 y v rfl (iQ h.1).1 h.1 h.2⟩
 | ag xs=>
  obtain⟨cs,rfl,h2,h3⟩:=h; refine⟨cs,rfl,h2,fun j y hy=> ?_⟩
  obtain⟨c,c1,c2,c3⟩:=h3 j y hy; exact⟨c,c1,c2,hleaf j y c hy c1 c2 c3⟩
 | ptr o off=>simp only[RW]at h ⊢; rw[hβ]; exact h
 | cp xs=>
  obtain⟨b,off,h1,h2⟩:=h; exact⟨b,off,h1,hcp xs rfl b off h2⟩
 | nilp=>exact h
 | ifc b=>exact h
 | fn f caps=>simp only[RW]at h ⊢; simp only[hβ]; exact h
 | _=>trivial

theorem RV.map{g g':G}{w w':World}{κ κ':Nat→Nat→K}{l l':Nat→Nat→Loc}{v:Value}{x:V}(hβ: ∀o,g'.β o=g.β o)(hleaf: ∀k j t u,x.leaf k j=some t→sH v k j=some u→oQ u→LF g w (κ k j) (l k j) u t→LF g' w' (κ' k j) (l' k j) u t)
  (hcp: ∀k xs,x.comp k=some (.cp xs)→ ∀b off,CpR g w (κ k 0) b off xs→CpR g' w' (κ' k 0) b off xs)(h:RV g w κ l v x):RV g' w' κ' l' v x:=by
 cases x with
 | one x=>
  refine RW.map hβ (fun j t u hj hu hn hf=>hleaf 0 j t u hj ?_ hn hf) (fun xs hx=>hcp 0 xs (by rw[hx]; rfl)) h
  have hx:RW g w (κ 0) (l 0) v x:=h; obtain⟨u',h1,h2,_⟩:=RW.leaf hx hj; rw[h1]at hu; cases hu; exact h2
 | tup ws=>
  obtain⟨vs,rfl,h2,h3⟩:=h; refine⟨vs,rfl,h2,fun k x hx=> ?_⟩
  obtain⟨u,hu,hR⟩:=h3 k x hx; refine⟨u,hu,RW.map hβ (fun j t u' hj hu' hn hf=>hleaf k j t u' (by simp [V.leaf,hx,hj]) (by simp [sH,hu,hu']) hn hf) (fun xs hx'=>hcp k xs (by simp only[V.comp]; rw[hx,hx'])) hR⟩

theorem CpR.own{g g':G}{w:World}{κ:K}{b off:Nat}{xs:List T}(hZ: ∀b,g.own b= .none→g'.own b= .none)(hA: ∀b,all g w b→all g' w b)(h:CpR g w κ b off xs):CpR g' w κ b off xs:=by
 have hZ': ∀b,frz g w b→frz g' w b:=fun b hb=>⟨hb.1,hZ b hb.2⟩
 cases κ with
 | F=>
  obtain⟨h1,h2⟩:=h; refine⟨hZ' _ h1,fun j x hx=> ?_⟩
  obtain⟨c,hc,hr⟩:=h2 j x hx; exact⟨c,hc,hr.weaken hZ'⟩
 | V=>
  obtain⟨h1,h2⟩:=h; refine⟨hA _ h1,fun j x hx=> ?_⟩
  obtain⟨c,hc,hr⟩:=h2 j x hx; exact⟨c,hc,hr.weaken hA⟩
 | _=>exact h

def St.setf(st:St)(R:Loc→Bool)(f:Loc→K):St:=
 { st with fl:=fun m=>match m with
  | .s i k j=>if k=0∧j=0∧R (aI (st.sl i))=true then .D else f (.s i k j)
  | m=>f m }

theorem vN{st:St}{i:Nat}{x:T}(h:st.at (.s i 0 0)=some x):aI (st.sl i)= .none:=by
 rw[St.at_s]at h; cases hsl:st.sl i with
 | tup ws=>rfl
 | one y=>cases y<;>first | rfl | (rw[hsl]at h; simp [V.leaf,W.leaf]at h)

theorem xX{st:St}{R:Loc→Bool}{f:Loc→K}(hR:R .none=false){l:Loc}{x:T}(hx:st.at l=some x):(st.setf R f).fl l=f l:=by
 cases l with
 | s i k j=>
  simp only[St.setf]; rw[z14]; rintro ⟨rfl,rfl,h⟩
  rw[vN hx,hR]at h; cases h
 | _=>rfl

theorem Ga.root{st:St}{tmps:Array Value}{β:Nat→Nat}{w:World}{v:Value}{x:V}(h:Ga st tmps β w v x)(hx:aI x≠ .none): ∃t,st.at (aI x)=some t:=by
 cases x with
 | tup ws=>exact absurd rfl hx
 | one y=>
  cases y with
  | al l p=>obtain⟨_,x0,_,_,e,_⟩:=h; exact⟨x0,e⟩
  | pp l p a b=>obtain⟨_,x0,_,_,_,_,_,_,_,e,_⟩:=h; exact⟨x0,e⟩
  | _=>exact absurd rfl hx

theorem cC.setf{g0:G}{w0:World}{st:St}{a:Act}{g:G}{w:World}(h:cC g0 w0 st a g w){g':G}{R:Loc→Bool}{f:Loc→K}(hR:R .none=false)(hβ: ∀o,g'.β o=g.β o)(hok:GOk g' w)
  (hfor: ∀b,qN (g.own b)→g'.own b=g.own b)(hobj: ∀b o,g.own b= .obj o→g'.own b= .obj o)(hA: ∀b,all g w b→all g' w b)
  (hL: ∀l x v,st.at l=some x→vAt a.tmps g.β w l=some v→LF g w (st.fl l) l v x→LF g' w (f l) l v x)
  (hcp: ∀i k xs b off,(st.sl i).comp k=some (.cp xs)→CpR g w (st.fl (.s i k 0)) b off xs→CpR g w (f (.s i k 0)) b off xs)
  (hroot: ∀i,aI (st.sl i)≠ .none→R (aI (st.sl i))=false→f (.s i 0 0)≠ .D→st.fl (.s i 0 0)≠ .D∧((st.fl (aI (st.sl i))).hold=true→(f (aI (st.sl i))).hold=true)):
  cC g0 w0 (st.setf R f) a g' w:=by
 have hZ: ∀b,g.own b= .none→g'.own b= .none:=fun b hb=>(hfor b (.inl hb)).trans hb
 refine⟨⟨h.framed.os,h.framed.tape,h.framed.output,h.framed.evo.size,fun b hb hX=> ?_⟩,hok,h.size,h.defers,fun i=> ?_,fun o cells hc=> ?_,fun i hi hf=> ?_,fun o ho=>(hβ o).trans (h.bp o ho),h.nle⟩
 ·obtain⟨e1,e2⟩:=h.framed.evo.keep b hb hX
  have hX':qN (g0.own b):=z158.1 hX; exact⟨(hfor b (by rw[e1]; exact hX')).trans e1,e2⟩
 ·have hs:=h.slots i
  show RV g' w (fun k j=>(st.setf R f).fl (.s i k j)) (fun k j=> .s i k j) (a.tmps.getD i undef) (st.sl i)
  refine hs.map hβ (fun k j t u hj hu _ hf=> ?_) (fun k xs hx b off hc=> ?_)
  ·have hat:st.at (.s i k j)=some t:=hj
   rw[xX hR hat]; exact hL _ t u hat hu hf
  ·have e:(st.setf R f).fl (.s i k 0)=f (.s i k 0):=by
    simp only[St.setf]; rw[z14]; rintro ⟨rfl,_,h3⟩
    have:st.sl i= .one (.cp xs):=by
     cases hsl:st.sl i with
     | one y=>rw[hsl]at hx; simp only[V.comp,z10]at hx; rw[hx]
     | tup ws=>rw[hsl]at h3; rw[show aI (V.tup ws)= .none from rfl,hR]at h3; cases h3
    rw[this,show aI (V.one (.cp xs))= .none from rfl,hR]at h3; cases h3
   show CpR g' w ((st.setf R f).fl (.s i k 0)) b off xs; rw[e]; exact CpR.own hZ hA (hcp i k xs b off hx hc)
 ·obtain⟨arr,ty,h1,h2,h3,h4⟩:=h.obs o cells hc
  rw[hβ]; refine⟨arr,ty,h1,h2,hobj _ _ h3,fun j x hx=> ?_⟩
  obtain⟨c,c1,c2,c3⟩:=h4 j x hx; have hat:st.at (.oc o j)=some x:=by rw[St.at_oc]; have:st.ob o=some cells:=hc; rw[this]; exact hx
  exact⟨c,c1,c2,hL (.oc o j) x c hat (by simp only[vAt]; rw[cV w _ j arr ty _ h1]; exact c1) c3⟩
 ·have hi':aI (st.sl i)≠ .none:=hi
  have hf1:R (aI (st.sl i))=false∧f (.s i 0 0)≠ .D:=by
   simp only[St.setf,Nv]at hf; by_cases hs:R (aI (st.sl i))=true
   ·rw[z19 hs]at hf; exact absurd rfl hf
   ·rw[z14 hs]at hf; exact⟨by simpa using hs,hf⟩
  obtain⟨k1,k2⟩:=hroot i hi' hf1.1 hf1.2; obtain⟨p1,p2⟩:=h.pls i hi' k1; obtain⟨t,ht⟩:=p2.root hi'; refine⟨?_, ?_⟩
  ·show((st.setf R f).fl (aI (st.sl i))).hold=true
   rw[xX hR ht]; exact k2 p1
  ·have hβ':g'.β=g.β:=funext hβ
   rw[hβ']; exact p2.congr rfl rfl (fun _ _ _ _ _ _ _ h=>h)

def St.lower(st:St)(l:Loc)(κ:K):St:=st.setf (fun m=>decide (m=l)) (fun m=>if m=l then κ else st.fl m)

theorem CpR.toV{g:G}{w:World}{κ:K}{b off:Nat}{xs:List T}(h:CpR g w κ b off xs)(hκ:κ≠ .D):CpR g w .V b off xs:=by
 cases κ with
 | D=>exact absurd rfl hκ
 | V=>exact h
 | F=>
  obtain⟨h1,h2⟩:=h; refine⟨h1.all,fun j x hx=> ?_⟩
  obtain⟨c,hc,hr⟩:=h2 j x hx; exact⟨c,hc,hr.weaken fun b hb=>hb.all⟩
 | A n=>exact h.elim
 | U n=>exact h.elim
 | S=>exact h.elim
 | N=>exact h.elim

def K.lo:K→K→Bool
 | _, .D=>true
 | .D,_=>false
 | _, .V=>true
 | .U n, .A m=>n == m&& !(m == 0)
 | .U n, .U m=>n == m||m == 0
 | .N, .A _=>true
 | .N, .U _=>true
 | .N, .F=>true
 | .S, .N=>false
 | .S,_=>true
 | a,b=>decide (a=b)

theorem LF.lo{g:G}{w:World}{κ κ':K}{l:Loc}{v:Value}{x:T}(hok:GOk g w)(hl:l.place=true)(h:LF g w κ l v x)(hk:κ.lo κ'=true):LF g w κ' l v x:=by
 by_cases e:κ=κ'
 ·subst e; exact h
 by_cases hD:κ'= .D
 ·subst hD
  exact fun hs=>LF.scal (g':=g) (w':=w) (κ':= .D) (l':=l) h hs (by simp) hs
 by_cases hD2:κ= .D
 ·subst hD2; cases κ'<;>simp [K.lo]at hk hD
 by_cases hV:κ'= .V
 ·subst hV
  exact h.rd hok hl hD2
 cases κ with
 | D=>exact absurd rfl hD2
 | S=>
  refine LF.scal h h.1 ?_
  intro e2; subst e2; simp [K.lo]at hk
 | N=>
  obtain⟨rfl,a,rfl⟩:=h; cases κ' with
  | A n=>exact .nil _ _ _
  | U n=>exact .nil _ _ _
  | F=>exact .nil _ _
  | _=>simp_all [K.lo]
 | U n=>
  cases κ' with
  | A m=>
   have:n=m∧ ¬ m=0:=by simpa [K.lo]using hk
   obtain⟨rfl,h0⟩:=this; have h:Ow (frz g w) true w (iT n) (fun b=>g.own b=l) v x:=h
   rw[rC (by omega)]at h
   exact Ow.mono (deep':=false) h (by simp) (by simp) (fun b hb=>⟨hb,rfl⟩)
  | U m=>
   have hm:m=0:=by
    have h2:n=m∨m=0:=by simpa [K.lo]using hk
    rcases h2 with h2 | h2
    ·subst h2; exact absurd rfl e
    ·exact h2
   subst hm; have h:Ow (frz g w) true w (iT n) (fun b=>g.own b=l) v x:=h
   cases n with
   | zero=>exact absurd rfl e
   | succ n=>exact h.sub
  | _=>simp_all [K.lo]
 | _=>cases κ'<;>simp_all [K.lo]

theorem CpR.lo{g:G}{w:World}{κ κ':K}{b off:Nat}{xs:List T}(h:CpR g w κ b off xs)(hk:κ.lo κ'=true):CpR g w κ' b off xs:=by
 cases κ with
 | D=>cases κ'<;>first | exact h | simp [K.lo]at hk
 | V=>cases κ'<;>first | exact h | trivial | simp [K.lo]at hk
 | F=>cases κ'<;>first | exact h | trivial | exact h.toV (by simp) | simp [K.lo]at hk
 | _=>exact h.elim

theorem cC.lower{g0:G}{w0:World}{st:St}{a:Act}{g:G}{w:World}(h:cC g0 w0 st a g w){l:Loc}{κ:K}(hp:l.place=true)(hκ:(st.fl l).lo κ=true):cC g0 w0 (st.lower l κ) a g w:=by
 have hl:=(Loc.place_ne hp).1; refine h.setf (by simp [Ne.symm hl]) (fun _=>rfl) h.ok (fun _ _=>rfl) (fun _ _ h=>h) (fun _ h=>h) (fun m x v hx hv hf=> ?_) (fun i k xs b off hcx hc=> ?_) (fun i hi hR hf=> ?_)
 ·by_cases e:m=l
  ·subst e
   rw[z19 rfl]; exact hf.lo h.ok hp hκ
  ·rw[z14 e]; exact hf
 ·by_cases e:Loc.s i k 0=l
  ·rw[z19 e]
   rw[e]at hc; exact hc.lo hκ
  ·rw[z14 e]; exact hc
 ·have hne:aI (st.sl i)≠l:=by simpa using hR
  refine⟨?_,fun h=>by rw[z14 hne]; exact h⟩
  by_cases e:Loc.s i 0 0=l
  ·rw[z19 e]at hf
   rw[e]; intro e2; rw[e2]at hκ; cases κ<;>simp [K.lo]at hκ hf
  ·rw[z14 e]at hf; exact hf

def G.freeze(g:G)(l:Loc):G:= { β:=g.β,own:=fun b=>if g.own b=l then .none else g.own b }
def St.freeze(st:St)(l:Loc):St:=st.setf (fun m=>decide (m=l)) (fun m=>if m=l then .F else st.fl m)

theorem cC.freeze{g0:G}{w0:World}{st:St}{a:Act}{g:G}{w:World}(h:cC g0 w0 st a g w){l:Loc}(hp:l.place=true)(hκ:st.fl l≠ .D∧st.fl l≠ .V):cC g0 w0 (st.freeze l) a (g.freeze l) w:=by
 obtain⟨hl,hle,hlo⟩:=Loc.place_ne hp; have hown: ∀b m,m≠l→g.own b=m→(g.freeze l).own b=m:=fun b m hm hb=>by simp only[G.freeze]; rw[z14 (by rw[hb]; exact hm)]; exact hb
 have hZ: ∀b,g.own b= .none→(g.freeze l).own b= .none:=fun b hb=>hown b _ (Ne.symm hl) hb
 have hA: ∀b,all g w b→all (g.freeze l) w b:=fun b hb=>⟨hb.1,fun o=>by
  show(if g.own b=l then Loc.none else g.own b)≠ .obj o
  split
  ·simp
  ·exact hb.2 o⟩
 have hokf:GOk (g.freeze l) w:=⟨fun b hb=>h.ok.own b (fun e=>hb (hZ b e))⟩
 refine h.setf (by simp [Ne.symm hl]) (fun _=>rfl) hokf (fun b hb=> ?_) (fun b o hb=>hown b _ (Ne.symm (hlo o)) hb) hA (fun m x v hx hv hf=> ?_) (fun i k xs b off hcx hc=> ?_) (fun i hi hR hf=> ?_)
 ·rcases hb with hb | hb
  ·rw[hb]; exact hZ b hb
  ·rw[hb]; exact hown b _ (Ne.symm hle) hb
 ·by_cases e:m=l
  ·subst e
   rw[z19 rfl]; exact LF.freeze (l':=m) h.ok hl hκ (fun b hb=>by simp [G.freeze,hb]) hZ hf
  ·rw[z14 e]
   exact hf.moved (fun b hb=>hown b m e hb) hZ hA
 ·by_cases e:Loc.s i k 0=l
  ·rw[z19 e]
   rw[e]at hc; generalize st.fl l=κ at hc hκ; cases κ with
   | D=>exact absurd rfl hκ.1
   | V=>exact absurd rfl hκ.2
   | F=>exact hc
   | A n=>exact hc.elim
   | U n=>exact hc.elim
   | S=>exact hc.elim
   | N=>exact hc.elim
  ·rw[z14 e]; exact hc
 ·have hne:aI (st.sl i)≠l:=by simpa using hR
  refine⟨?_,fun h=>by rw[z14 hne]; exact h⟩
  by_cases e:Loc.s i 0 0=l
  ·rw[e]; exact hκ.1
  ·rw[z14 e]at hf; exact hf

def St.killV(st:St):St:=st.setf (fun _=>false) (fun m=>if st.fl m= .V then .D else st.fl m)

theorem cC.killV{g0:G}{w0:World}{st:St}{a:Act}{g:G}{w:World}(h:cC g0 w0 st a g w):cC g0 w0 st.killV a g w:=by
 refine h.setf rfl (fun _=>rfl) h.ok (fun _ _=>rfl) (fun _ _ h=>h) (fun _ h=>h) (fun m x v hx hv hf=> ?_) (fun i k xs b off hcx hc=> ?_) (fun i hi hR hf=> ?_)
 ·by_cases e:st.fl m= .V
  ·rw[z19 e]
   exact fun hs=>LF.scal (g':=g) (w':=w) (κ':= .D) (l':=m) hf hs (by simp) hs
  ·rw[z14 e]; exact hf
 ·by_cases e:st.fl (.s i k 0)= .V
  ·rw[z19 e]; trivial
  ·rw[z14 e]; exact hc
 ·refine⟨fun e=>hf (by rw[e]; simp),fun h=> ?_⟩
  have:st.fl (aI (st.sl i))≠ .V:=by intro e; rw[e]at h; simp [K.hold]at h
  rw[z14 this]; exact h

theorem tD(st:St)(l:Loc):(st.killV).fl l≠ .V:=by
 have: ∀m,(if st.fl m= .V then K.D else st.fl m)≠ .V:=by
  intro m; split
  ·simp
  ·assumption
 cases l with
 | s i k j=>
  simp only[St.killV,St.setf]; rw[z14 (by simp)]
  exact this _
 | _=>exact this _

def G.mv(g:G)(l l':Loc):G:= { β:=g.β,own:=fun b=>if g.own b=l then l' else g.own b }
def St.mv(st:St)(l l':Loc):St:=st.setf (fun m=>decide (m=l)||decide (m=l')) (fun m=>if m=l' then st.fl l else if m=l then(st.fl l).cp else st.fl m)

theorem cC.mvG{g0:G}{w0:World}{st:St}{a:Act}{g:G}{w:World}(h:cC g0 w0 st a g w){l l':Loc}(h1:l.place=true)(h2:l'.place=true)(hne:l≠l')
  (hs: ∃x,st.at l=some x)(hs': ∃x,st.at l'=some x)(hnew: ∀x v,st.at l'=some x→vAt a.tmps g.β w l'=some v→LF (g.mv l l') w (st.fl l) l' v x):cC g0 w0 (st.mv l l') a (g.mv l l') w:=by
 obtain⟨hl,hle,hlo⟩:=Loc.place_ne h1; obtain⟨hl',hle',hlo'⟩:=Loc.place_ne h2; have hown: ∀b m,m≠l→g.own b=m→(g.mv l l').own b=m:=fun b m hm hb=>by simp only[G.mv]; rw[z14 (by rw[hb]; exact hm)]; exact hb
 have hZ: ∀b,g.own b= .none→(g.mv l l').own b= .none:=fun b hb=>hown b _ (Ne.symm hl) hb
 have hA: ∀b,all g w b→all (g.mv l l') w b:=fun b hb=>⟨hb.1,fun o=>by
  show(if g.own b=l then l' else g.own b)≠ .obj o
  split
  ·exact hlo' o
  ·exact hb.2 o⟩
 have hok':GOk (g.mv l l') w:=⟨fun b hb=>h.ok.own b (fun e=>hb (hZ b e))⟩
 obtain⟨x0,hx0⟩:=hs; have hncp: ∀i k,(Loc.s i k 0=l∨Loc.s i k 0=l')→ ∃x,st.at (.s i k 0)=some x:=by
  rintro i k (e | e)
  ·rw[e]; exact⟨x0,hx0⟩
  ·rw[e]; exact hs'
 have hroot0: ∀i,(Loc.s i 0 0=l∨Loc.s i 0 0=l')→aI (st.sl i)= .none:=fun i e=>by
  obtain⟨x,hx⟩:=hncp i 0 e; exact vN hx
 refine h.setf (by simp [Ne.symm hl,Ne.symm hl']) (fun _=>rfl) hok' (fun b hb=> ?_) (fun b o hb=>hown b _ (Ne.symm (hlo o)) hb) hA (fun m x v hx hv' hf=> ?_) (fun i k xs b off hcx hc=> ?_) (fun i hi hR hf=> ?_)
 ·rcases hb with hb | hb
  ·rw[hb]; exact hZ b hb
  ·rw[hb]; exact hown b _ (Ne.symm hle) hb
 ·by_cases e1:m=l'
  ·subst e1
   rw[z19 rfl]; exact hnew x v hx hv'
  ·rw[z14 e1]
   by_cases e2:m=l
   ·subst e2
    rw[z19 rfl]; have h3:=hf.cp (l':=m) h.ok h1; cases hk:st.fl m<;>rw[hk]at h3<;>first | exact h3 | exact Rd.weaken hA h3 | exact Rd.weaken (fun b hb=>⟨hb.1,hZ b hb.2⟩) h3
   ·rw[z14 e2]
    exact hf.moved (fun b hb=>hown b m e2 hb) hZ hA
 ·by_cases e:Loc.s i k 0=l∨Loc.s i k 0=l'
  ·obtain⟨y,hy⟩:=hncp i k e
   exfalso
   rw[St.at_s]at hy; cases hsl:st.sl i with
   | one z=>
    rw[hsl]at hcx hy; cases k with
    | zero=>simp only[V.comp,z10]at hcx; rw[hcx]at hy; simp [V.leaf,W.leaf]at hy
    | succ k=>simp [V.comp]at hcx
   | tup ws=>rw[hsl]at hcx hy; simp only[V.comp]at hcx; simp [V.leaf,hcx,W.leaf]at hy
  ·rw[z14 (fun h=>e (.inr h)),z14 (fun h=>e (.inl h))]; exact hc
 ·have hne2:aI (st.sl i)≠l∧aI (st.sl i)≠l':=by simpa using hR
  have e0: ¬ (Loc.s i 0 0=l∨Loc.s i 0 0=l'):=fun e=>hi (hroot0 i e)
  rw[z14 (fun h=>e0 (.inr h)),z14 (fun h=>e0 (.inl h))]at hf
  exact⟨hf,fun h=>by rw[z14 hne2.2,z14 hne2.1]; exact h⟩
theorem cC.mv{g0:G}{w0:World}{st:St}{a:Act}{g:G}{w:World}(h:cC g0 w0 st a g w){l l':Loc}(h1:l.place=true)(h2:l'.place=true)(hne:l≠l')
  (ht:st.at l'=st.at l)(hs: ∃x,st.at l=some x)(hv:vAt a.tmps g.β w l'=vAt a.tmps g.β w l):cC g0 w0 (st.mv l l') a (g.mv l l') w:=by
 have hl:=(Loc.place_ne h1).1; have hZ: ∀b,g.own b= .none→(g.mv l l').own b= .none:=fun b hb=>by simp only[G.mv]; rw[z14 (by rw[hb]; exact Ne.symm hl)]; exact hb
 have hA: ∀b,all g w b→all (g.mv l l') w b:=fun b hb=>⟨hb.1,fun o=>by
  show(if g.own b=l then l' else g.own b)≠ .obj o
  split
  ·exact(Loc.place_ne h2).2.2 o
  ·exact hb.2 o⟩
 refine h.mvG h1 h2 hne hs (by rw[ht]; exact hs) (fun x v hx hv'=> ?_)
 obtain⟨v2,e2,_,e4⟩:=h.get (l:=l) (x:=x) (by rw[←ht]; exact hx)
 rw[hv,e2]at hv'; cases hv'; exact e4.moved (l':=l') (fun b hb=>by simp [G.mv,hb]) hZ hA
end Go.Own

namespace Go.Own
open Go.RowKit

theorem RV.cp{g:G}{w:World}{κ:Nat→Nat→K}{l l':Nat→Nat→Loc}{v:Value}{x:V}(hok:GOk g w)(hl: ∀k j,(l k j).place=true)(h:RV g w κ l v x):RV g w (fun k j=>(κ k j).cp) l' v x:=by
 refine h.map (fun _=>rfl) (fun k j t u _ _ _ hf=>hf.cp hok (hl k j)) (fun k xs _ b off hc=> ?_)
 cases hk:κ k 0<;>rw[hk]at hc<;>first | exact hc | exact hc.elim

def jF(v:V)(k j:Nat):K:=match v.leaf k j with | some x=>if scal x then .S else .N | none=> .S

theorem Bg{u:Value}{x:T}(h:yY u=some x)(hs:scal x=false):x= .sl []∧ ∃a,u= .slice a 0 0:=by
 unfold yY at h; split at h<;>simp only[z10,reduceCtorEq]at h<;>subst h
 ·cases hs
 ·cases hs
 ·cases hs
 ·exact⟨rfl,none,rfl⟩
 ·cases hs

theorem vY(g:G)(w:World)(l:Nat→Nat→Loc)(v:Value):RV g w (jF (bQ v)) l v (bQ v):=by
 have hc: ∀(κ:K) (m:Loc) {u:Value} {x:T},yY u=some x→κ=(if scal x then .S else .N)→LF g w κ m u x:=by
  intro κ m u x hx hκ; obtain⟨h1,h2⟩:=rJ hx; subst hκ; by_cases hs:scal x=true
  ·rw[z19 hs]; exact⟨hs,h1 _ _⟩
  ·rw[z14 hs]; exact Bg hx (by simpa using hs)
 have hn: ∀ {u:Value} {x:T},yY u=some x→oQ u:=fun hx=>((rJ hx).1 (fun _=>False) w).not_agg
 unfold bQ; split
 ·rename_i cs
  split
  ·rename_i xs h
   obtain⟨e,hg⟩:=kP h; refine⟨cs,rfl,by simpa using e,fun j x hx=> ?_⟩
   obtain⟨u,hu,hc'⟩:=hg j x hx; refine⟨u,by simpa using hu,hn hc',hc _ _ hc' ?_⟩
   simp [jF,V.leaf,W.leaf,hx]
  ·trivial
 ·rfl
 ·rfl
 ·split
  ·rename_i x h
   exact⟨hn h,hc _ _ h (by simp [jF,V.leaf,W.leaf])⟩
  ·trivial

def opK(st:St):Operand→Nat→Nat→K
 | .tmp t,k,j=>(st.fl (.s t k j)).cp
 | .const v,k,j=>jF (bQ v) k j
 | _,_,_=> .S

theorem cC.ev_rv{g0:G}{w0:World}{st:St}{a:Act}{g:G}{w:World}(h:cC g0 w0 st a g w)(x:Operand)(l:Nat→Nat→Loc):RV g w (opK st x) l (a.eval x) (ev st.sl x):=by
 cases x with
 | tmp t=>exact(h.slots t).cp h.ok (fun _ _=>rfl)
 | const v=>exact vY g w l v
 | func f=>rfl
 | global n=>trivial

def nav:T→List (Nat×Nat)→Option T
 | x,[]=>some x
 | .sl es,(i,j)::p=>((es[i]?).bind (·[j]?)).bind fun y=>nav y p
 | _,_::_=>none

theorem Pl.nav{w:World}{v:Value}{x:T}{p:List (Nat×Nat)}{v':Value}{x':T}(h:Pl w v x p v' x'):nav x p=some x':=by
 induction h with
 | nil v x=>cases x<;>rfl
 | cons b off len cap es e c y i j p v' x' he hy hc h ih=>simp [Own.nav,he,hy,ih]

def wF(sl:Nat→V)(ob:Vz):V→V
 | .one (.al l p)=>match(atL sl ob l).bind (nav · p)with | some x=> .one (.c x) | none=> .one .junk
 | v=>v
def evR(st:St)(x:Operand):V:=wF st.sl st.ob (ev st.sl x)

theorem Rd.plRd{P:Nat→Prop}{w:World}{v:Value}{x:T}(h:Rd P w v x): ∀ {p:List (Nat×Nat)} {v':Value} {x':T},Pl w v x p v' x'→Rd P w v' x':=by
 induction h with
 | sl b off len cap s es cs hl hc hss hP hm hr ih=>
  intro p v' x' hp; cases hp with
  | nil=>exact .sl b off len cap s es cs hl hc hss hP hm hr
  | cons b off len cap es e c y i j p v' x' he hy hc h=>
   have e1:=hss i e he; have h1:=hm i e j y he hy; rw[e1]at hc; rw[h1]at hc; cases hc; exact ih i e j y he hy h
 | hole v h1 h2=>intro p v' x' hp; cases hp; exact .hole _ h1 h2
 | int k n=>intro p v' x' hp; cases hp; exact .int _ _
 | bool b=>intro p v' x' hp; cases hp; exact .bool _
 | np=>intro p v' x' hp; cases hp; exact .np
 | str s=>intro p v' x' hp; cases hp; exact .str _
 | nil a cap=>
  intro p v' x' hp; cases hp with
  | nil=>exact .nil _ _
  | cons b off len cap es e c y i j p v' x' he hy hc h=>simp at he

def Rdy(st:St)(m:Bool):Operand→Prop
 | .tmp t=>match st.sl t with
  | .one (.al _ _)=>m=false∧st.fl (.s t 0 0)≠ .D
  | .one (.pp _ _ _ _)=>False
  | .one (.c z)=>scal z=true∨if m then st.fl (.s t 0 0)= .F∨st.fl (.s t 0 0)= .S∨st.fl (.s t 0 0)= .N else st.fl (.s t 0 0)≠ .D
  | .one (.cp _)=>if m then st.fl (.s t 0 0)= .F else st.fl (.s t 0 0)≠ .D
  | _=>True
 | _=>True

def pm(g:G)(w:World)(m:Bool):Nat→Prop:=if m then frz g w else all g w

theorem cC.pl_rd{g0:G}{w0:World}{st:St}{a:Act}{g:G}{w:World}(h:cC g0 w0 st a g w){l:Loc}(hk:(st.fl l).hold=true){v0:Value}{x0:T}(hv:vAt a.tmps g.β w l=some v0)(hx:st.at l=some x0)
  {p:List (Nat×Nat)}{v':Value}{x':T}(hp:Pl w v0 x0 p v' x'):Rd (all g w) w v' x':=by
 obtain⟨v,e1,_,e2⟩:=h.get hx; rw[hv]at e1; cases e1; exact(e2.rd h.ok (at_isPlace hx) (by intro e; rw[e]at hk; simp [K.hold]at hk)).plRd hp

theorem LP{g:G}{w:World}{P:Nat→Prop}(v:Value):RP P g.β w v (bQ v):=by
 unfold bQ; split
 ·rename_i cs
  split
  ·rename_i xs h
   refine⟨cs,rfl,fun j x hx _=> ?_⟩
   obtain⟨v,v1,v2⟩:=(kP h).2 j x hx; exact⟨v,by rw[←z27]; exact v1,(rJ v2).1 P w⟩
  ·trivial
 ·rfl
 ·rfl
 ·split
  ·rename_i x h; exact(rJ h).1 P w
  ·trivial

theorem cC.rp{g0:G}{w0:World}{st:St}{a:Act}{g:G}{w:World}(h:cC g0 w0 st a g w){m:Bool}{x:Operand}(hr:Rdy st m x):RP (pm g w m) g.β w (a.eval x) (evR st x):=by
 cases x with
 | const v=>
  have e:evR st (.const v)=bQ v:=by
   show wF st.sl st.ob (bQ v)=bQ v; unfold bQ; (repeat' split)<;>rfl
  rw[e]; exact LP v
 | func f=>trivial
 | global n=>trivial
 | tmp t=>
  have hs:=h.slots t; have hev:evR st (.tmp t)=wF st.sl st.ob (st.sl t):=rfl; have hva:a.eval (.tmp t)=a.tmps.getD t undef:=rfl; rw[hva]; have hscal: ∀(y:T) (v:Value) (κ:K) (l:Loc),scal y=true→LF g w κ l v y→Rd (pm g w m) w v y:=fun y v κ l hy hf=>by
   have:=LF.scal (g':=g) (w':=w) (κ':= .S) (l':=l) hf hy; exact this.2.scal hy
  cases hsl:st.sl t with
  | tup ws=>rw[hev,hsl]; trivial
  | one y=>
   rw[hsl]at hs; cases y with
   | c z=>
    have e:evR st (.tmp t)= .one (.c z):=by rw[hev,hsl]; rfl
    rw[e]; simp only[Rdy,hsl]at hr; rcases hr with h1 | h1
    ·exact hscal _ _ _ _ h1 hs.2
    ·have hf:LF g w (st.fl (.s t 0 0)) (.s t 0 0) (a.tmps.getD t undef) z:=hs.2
     cases m with
     | true=>
      rcases h1 with h1 | h1 | h1<;>rw[h1]at hf
      ·exact hf
      ·exact hf.2.scal hf.1
      ·obtain⟨rfl,q,hq⟩:=hf
       rw[hq]; exact .nil _ _
     | false=>exact hf.rd h.ok rfl h1
   | cp xs=>
    have e:evR st (.tmp t)= .one (.cp xs):=by rw[hev,hsl]; rfl
    rw[e]; simp only[Rdy,hsl]at hr; obtain⟨b,off,h2,h3⟩:=hs; refine⟨b,off,h2, ?_⟩
    cases m with
    | true=>
     have h1:st.fl (.s t 0 0)= .F:=hr; simp only[h1]at h3; exact h3
    | false=>exact h3.toV hr
   | al l p=>
    simp only[Rdy,hsl]at hr; obtain⟨rfl,h1⟩:=hr; by_cases hl:l= .none
    ·subst hl
     rw[hev,hsl]; trivial
    ·have:=h.pls t (by rw[hsl]; exact hl) h1
     rw[hsl]at this; obtain⟨h2,v0,x0,x',e1,e2,e3⟩:=this; have e:evR st (.tmp t)= .one (.c x'):=by
      have e2':atL st.sl st.ob l=some x0:=e2; rw[hev,hsl]; simp [wF,e2',e3.nav]
     rw[e]; exact h.pl_rd h2 e1 e2 e3
   | pp l p i j=>rw[hev,hsl]; trivial
   | junk=>rw[hev,hsl]; trivial
   | ag xs=>
    have e:evR st (.tmp t)= .one (.ag xs):=by rw[hev,hsl]; rfl
    rw[e]; obtain⟨cs,h1,h2,h3⟩:=hs; exact⟨cs,h1,fun j x hx sx=>by
     obtain⟨c,c1,_,c3⟩:=h3 j x hx; exact⟨c,c1,hscal _ _ _ _ sx c3⟩⟩
   | ptr o off=>rw[hev,hsl]; exact hs
   | nilp=>rw[hev,hsl]; exact hs
   | ifc b=>rw[hev,hsl]; exact hs
   | fn f caps=>rw[hev,hsl]; trivial
end Go.Own

namespace Go.Own
open Go.RowKit

def pW(P:Program)(g0:G)(w0:World)(o:Oper)(st st':St):Prop:= ∀a w,Sim g0 w0 st a w→
 ∃r w',(execOp a.eval o).run P w= .ok r w'∧((∃v,r= .value v∧Sim g0 w0 st' (a.put o.dst v) w')∨(r= .skip∧Sim g0 w0 st' (a.put o.dst undef) w'))

theorem AM.refl{g:G}{w:World}(hok:GOk g w)(st:St):AM g w g w (fun _=>False) st:=⟨Evo.refl _ _ _,fun _ h=>h.elim, .inl fun _ h=>⟨h,rfl⟩,rfl,rfl,rfl,hok⟩

def St.mvs(st:St):List (Loc×Loc)→St
 | []=>st
 | m::r=>(st.mv m.1 m.2).mvs r

theorem cC.mvs{g0:G}{w0:World}{a:Act}{w:World}: ∀(M:List (Loc×Loc)) {st:St} {g:G},cC g0 w0 st a g w→
  (∀m∈M,m.1.place=true∧m.2.place=true∧m.1≠m.2∧st.at m.2=st.at m.1∧(∃x,st.at m.1=some x)∧vAt a.tmps g.β w m.2=vAt a.tmps g.β w m.1)→ ∃g',g'.β=g.β∧cC g0 w0 (st.mvs M) a g' w
 | [],st,g,h,_=>⟨g,rfl,h⟩
 | m::r,st,g,h,hM=>by
  obtain⟨h1,h2,h3,h4,h5,h6⟩:=hM m z34; obtain⟨g',e,h'⟩:=cC.mvs r (h.mv h1 h2 h3 h4 h5 h6) (fun m' hm'=>by
   obtain⟨k1,k2,k3,k4,k5,k6⟩:=hM m' (z29 _ hm'); exact⟨k1,k2,k3,k4,k5,k6⟩)
  exact⟨g',e,h'⟩

section
variable {P:Program} {τ:TypeId→Option TI} {g0:G} {w0:World} {o:Oper} {st:St} {d:Nat}

theorem cC.set{a:Act}{g:G}{w:World}(h:cC g0 w0 st a g w)(hd:d<st.n){u:Value}{r:V}{κ:Nat→Nat→K}(hr:RV g w κ (fun k j=> .s d k j) u r)
  (hpl:aI r≠ .none→κ 0 0≠ .D→(st.fl (aI r)).hold=true∧aX d (aI r)=false∧Ga st a.tmps g.β w u r):cC g0 w0 (st.put d r κ) (a.put (some d) u) g w:=
 h.put (AM.refl h.ok st) (fun _=>rfl) hd (fun _ _ _ _ h=>h) hr hpl

theorem oZ(r:V)(κ:Nat→Nat→K)(k j:Nat):(st.put d r κ).at (.s d k j)=r.leaf k j:=by simp [St.at,atL,St.put]

theorem Uk{x:Operand}(M:List (Nat×Nat))(hd:o.dst=some d)(hn:d<st.n)(ho:o.op= .assign x∨o.op= .move x)(hroot:aI (ev st.sl x)≠ .none→aX d (aI (ev st.sl x))=false)
  (hM: ∀m∈M, ∃t,x= .tmp t∧t≠d∧ ∃y,st.at (.s t m.1 m.2)=some y):
  pW P g0 w0 o st ((st.put d (ev st.sl x) (opK st x)).mvs (M.map fun m=>(.s (match x with | .tmp t=>t | _=>0) m.1 m.2, .s d m.1 m.2))):=by
 intro a w ⟨g,hs⟩; have hv:(execOp a.eval o).run P w= .ok (.value (a.eval x)) w:=by
  obtain⟨dst,op,ty,pos,after,guard⟩:=o; rcases ho with ho | ho<;>(simp only at ho; subst ho; rfl)
 refine⟨_,w,hv, .inl ⟨_,rfl, ?_⟩⟩
 rw[hd]; have hd':d<a.tmps.size:=by rw[hs.size]; exact hn
 have h1:=hs.set hn (hs.ev_rv x _) (fun h1 h2=>by
  cases x with
  | tmp t=>
   have h1':aI (st.sl t)≠ .none:=h1; have h3:=hs.pls t h1' (fun e=>h2 (by simp [opK,e,K.cp]))
   exact⟨h3.1,hroot h1,h3.2⟩
  | const v=>
   exfalso; apply h1
   show aI (bQ v)= .none; unfold bQ; (repeat' split)<;>rfl
  | func f=>exact absurd rfl h1
  | global n=>exact absurd rfl h1)
 obtain⟨g',_,h2⟩:=h1.mvs (M.map fun m=>(.s (match x with | .tmp t=>t | _=>0) m.1 m.2, .s d m.1 m.2)) (fun m hm=>by
  obtain⟨m',hm',rfl⟩:=z50.1 hm; obtain⟨t,rfl,hne,y,hy⟩:=hM m' hm'; have e1:(st.put d (ev st.sl (.tmp t)) (opK st (.tmp t))).at (.s t m'.1 m'.2)=st.at (.s t m'.1 m'.2):=at_put (by simp [aX,hne])
  refine⟨rfl,rfl,by simp [hne], ?_,⟨y,by rw[e1]; exact hy⟩, ?_⟩
  ·rw[oZ,e1]; rfl
  ·rw[Ar (l:= .s t m'.1 m'.2) hd' (by simp [aX,hne])]
   simp only[vAt]; rw[Act.put_getD a d _ _ hd',z19 rfl]; rfl)
 exact⟨g',h2⟩

theorem Su{t:Nat}{es:List (List T)}(hd:o.dst=some d)(hn:d<st.n)(ho:o.op= .move (.tmp t))(hne:t≠d)(hsl:st.sl t= .one (.c (.sl es)))(hk:(st.fl (.s t 0 0)).hold=true):
  pW P g0 w0 o st (st.put d (.one (.al (.s t 0 0) [])) (fun _ _=> .F)):=by
 intro a w ⟨g,hs⟩; have hv:(execOp a.eval o).run P w= .ok (.value (a.eval (.tmp t))) w:=by
  obtain⟨dst,op,ty,pos,after,guard⟩:=o; simp only at ho; subst ho; rfl
 refine⟨_,w,hv, .inl ⟨_,rfl,g, ?_⟩⟩
 rw[hd]; have hat:st.at (.s t 0 0)=some (.sl es):=by rw[St.at_s,hsl]; rfl
 have h1:=hs.slots t; rw[hsl]at h1; exact hs.set hn trivial (fun _ _=>⟨hk,by simp [aI,aX,hne],a.tmps.getD t undef, .sl es, .sl es,(iQ h1.1).2,hat, .nil _ _⟩)

theorem NY{t k:Nat}{ws:List W}{x:W}(M:List Nat)(hd:o.dst=some d)(hn:d<st.n)(ho:o.op= .extract (.tmp t) k)(hne:t≠d)(ht:st.sl t= .tup ws)(hk:ws[k]? =some x)(hroot:aI (.one x)= .none)
  (hM: ∀j∈M, ∃y,x.leaf j=some y):pW P g0 w0 o st ((st.put d (.one x) (fun _ j=>(st.fl (.s t k j)).cp)).mvs (M.map fun j=>(.s t k j, .s d 0 j))):=by
 intro a w ⟨g,hs⟩; have h1:=hs.slots t; rw[ht]at h1; obtain⟨vs,e1,h2,h3⟩:=h1; obtain⟨u,hu,hr⟩:=h3 k x hk; have hv:(execOp a.eval o).run P w= .ok (.value u) w:=by
  obtain⟨dst,op,ty,pos,after,guard⟩:=o; simp only at ho; subst ho; have:a.eval (.tmp t)= .tuple vs:=e1; simp only[execOp,Instr.extract,this,hu,Sem.run_bind,Sem.run_pure,Result.andThen_ok]
 refine⟨_,w,hv, .inl ⟨_,rfl, ?_⟩⟩
 rw[hd]; have hd':d<a.tmps.size:=by rw[hs.size]; exact hn
 have hr':RV g w (fun _ j=>(st.fl (.s t k j)).cp) (fun k j=> .s d k j) u (.one x):=by
  have:RV g w (fun _ j=>st.fl (.s t k j)) (fun _ j=> .s t k j) u (.one x):=hr
  exact this.cp hs.ok (fun _ _=>rfl)
 have h4:=hs.set hn hr' (fun h=>absurd hroot h)
 obtain⟨g',_,h5⟩:=h4.mvs (M.map fun j=>(.s t k j, .s d 0 j)) (fun m hm=>by
  obtain⟨j,hj,rfl⟩:=z50.1 hm; obtain⟨y,hy⟩:=hM j hj; have hat:st.at (.s t k j)=some y:=by rw[St.at_s,ht]; simp [V.leaf,hk,hy]
  have e1':(st.put d (.one x) (fun _ j=>(st.fl (.s t k j)).cp)).at (.s t k j)=st.at (.s t k j):=at_put (by simp [aX,hne])
  refine⟨rfl,rfl,by simp [hne], ?_,⟨y,by rw[e1']; exact hat⟩, ?_⟩
  ·rw[oZ,e1',hat]; exact hy
  ·rw[Ar (l:= .s t k j) hd' (by simp [aX,hne])]
   simp only[vAt]; rw[Act.put_getD a d _ _ hd',z19 rfl,e1]; obtain⟨u',q1,q2,_⟩:=RW.leaf hr hy; rw[q2]; simp only[sH,hu,z8,q1])
 exact⟨g',h5⟩

theorem UZ(hT:bE P τ){m:Bool}{r:T}(hd:o.dst=some d)(hn:d<st.n)(hρ: ∀x∈o.op.operands,Rdy st m x)(hc2: ∀op t x y u,o.op= .binOp op t x y u→evR st y= .one (.ifc true)→ ∃c,y= .const c)
  (h:iF τ (evR st) o.op=some r):pW P g0 w0 o st (st.put d (.one (.c r)) (fun _ _=>if Jo o.op&& !scal r then(if m then .F else .V)else .S)):=by
 intro a w ⟨g,hs⟩; obtain⟨v,hv,hr,hsub⟩:=Rs hT (Q:=pm g w m) (β:=g.β) o (fun x hx=>hs.rp (hρ x hx)) hc2 h
 refine⟨_,w,hv, .inl ⟨v,rfl,g, ?_⟩⟩
 rw[hd]; refine hs.set hn ⟨hr.not_agg, ?_⟩ (fun h=>absurd rfl h)
 show LF g w (if Jo o.op&& !scal r then(if m then .F else .V)else .S) (.s d 0 0) v r
 cases hsc:scal r with
 | true=>simp only[z37,z68,z54,if_false]; exact⟨hsc,hr.scal hsc⟩
 | false=>
  rcases hsub with hb | hb
  ·rw[hb]
   simp only[RH,z87,if_true]; cases m with
   | true=>exact hr
   | false=>exact hr
  ·rw[hsc]at hb; cases hb

theorem Oq{c x y:Operand}{b:Bool}{r1 r2:T}(hd:o.dst=some d)(hn:d<st.n)(ho:o.op= .pick c x y)(hc:ev st.sl c= .one (.c (.bool b)))(hx:b=true→ev st.sl x= .one (.c r1)∧scal r1=true)(hy:b=false→ev st.sl y= .one (.c r2)∧scal r2=true):
  pW P g0 w0 o st (st.put d (.one (.c (if b then r1 else r2))) (fun _ _=> .S)):=by
 intro a w ⟨g,hs⟩; have h1:=hs.ev_rv c (fun _ _=> .none)
 rw[hc]at h1; have e1:a.eval c= .bool b:=by
  have:=LF.scal (g':=g) (w':=w) (κ':= .F) (l':= .none) h1.2 rfl; have this:Rd _ _ _ _:=this; generalize a.eval c=z at this; cases this; rfl
 cases b with
 | true=>
  obtain⟨hx1,hx2⟩:=hx rfl; have h2:=hs.ev_rv x (fun k j=> .s d k j)
  rw[hx1]at h2; refine⟨_,w,(by obtain⟨dst,op,ty,pos,after,guard⟩:=o; simp only at ho; subst ho; simp only[execOp,e1]; rfl:(execOp a.eval o).run P w= .ok (.value (a.eval x)) w), .inl ⟨_,rfl,g, ?_⟩⟩
  rw[hd]; exact hs.set hn ⟨h2.1,h2.2.scal hx2⟩ (fun h=>absurd rfl h)
 | false=>
  obtain⟨hx1,hx2⟩:=hy rfl; have h2:=hs.ev_rv y (fun k j=> .s d k j)
  rw[hx1]at h2; refine⟨_,w,(by obtain⟨dst,op,ty,pos,after,guard⟩:=o; simp only at ho; subst ho; simp only[execOp,e1]; rfl:(execOp a.eval o).run P w= .ok (.value (a.eval y)) w), .inl ⟨_,rfl,g, ?_⟩⟩
  rw[hd]; exact hs.set hn ⟨h2.1,h2.2.scal hx2⟩ (fun h=>absurd rfl h)
end
end Go.Own

namespace Go.Own
open Go.RowKit

section
variable {P:Program} {τ:TypeId→Option TI} {g0:G} {w0:World} {o:Oper} {st:St} {d:Nat}

theorem Ea(hT:bE P τ){s:TypeId}{fs:List (Nat×Nat×Bool)}(h:tk τ s=some (.struct fs)):
  ∃gs,P.underlying s=some (.struct gs)∧gs.size=fs.length∧ ∀(j:Nat) f,fs[j]? =some f→ ∃g i,gs[j]? =some g∧g.offset=f.1∧P.info? g.type=some i∧i.size=f.2.1∧f.2.1≠0∧
   f.2.2=(match P.underlying g.type with | some (.struct _)=>true | some (.array _ _)=>true | _=>false)∧(P.underlying g.type).isSome:=by
 obtain⟨d,hd,gs,rfl,hn,hk⟩:=lX hT h; exact⟨gs,hd,hn,hk⟩

theorem Fs{w:World}{b off:Nat}{f:Field}{i:TypeInfo}(h:P.info? f.type=some i)(h0:i.size≠0):(fieldPlace ⟨b,off,none⟩ f).run P w= .ok ⟨b,off+f.offset,none⟩ w:=by
 simp [fieldPlace,sizeOf,typeInfo,h,h0,kR]

theorem qV(hT:bE P τ){s:TypeId}{fs:List (Nat×Nat×Bool)}(h:tk τ s=some (.struct fs)){f off size:Nat}{agg:Bool}(hf:fs[f]? =some (off,size,agg)){ρ:Operand→Value}{x:Operand}{b p:Nat}(hx:ρ x= .pointer (some ⟨b,p,none⟩))(ho:o.op= .fieldAddr s x f)(w:World):
  (execOp ρ o).run P w= .ok (.value (.pointer (some ⟨b,p+off,none⟩))) w:=by
 obtain⟨gs,hgs,_,hk⟩:=Ea hT h; obtain⟨fd,i,hfd,ho',hi,hsz,h0,_⟩:=hk f _ hf; have h2:i.size≠0:=by rw[hsz]; exact h0
 obtain⟨dst,op,ty,pos,after,guard⟩:=o; simp only at ho; subst ho; simp only[execOp,Instr.fieldAt,hx,Sem.run_bind,run_underlying hgs,Result.andThen_ok,hfd,Instr.sureAddr,Sem.run_pure,Fs hi h2,ho']

def BT(q:Nat×Nat):V→Option V
 | .one (.ptr o p)=>some (.one (.ptr o (p+q.1)))
 | .one (.cp xs)=>some (.one (.cp ((xs.drop q.1).take q.2)))
 | .one (.pp l p i j)=>some (.one (.pp l p i (j+q.1)))
 | _=>none

theorem CpR.drop{g:G}{w:World}{κ:K}{b p off:Nat}{xs:List T}(h:CpR g w κ b p xs):CpR g w κ b (p+off) (xs.drop off):=by
 have key: ∀ {Q:Nat→Prop},(∀(j:Nat) x,xs[j]? =some x→ ∃c,w.cell? ⟨b,p+j,none⟩=some c∧Rd Q w c x)→ ∀(j:Nat) x,(xs.drop off)[j]? =some x→ ∃c,w.cell? ⟨b,p+off+j,none⟩=some c∧Rd Q w c x:=by
  intro Q h j x hx; rw[z45]at hx
  obtain⟨c,hc,hr⟩:=h _ x hx; exact⟨c,by rw[z81]; exact hc,hr⟩
 cases κ with
 | D=>trivial
 | F=>exact⟨h.1,key h.2⟩
 | V=>exact⟨h.1,key h.2⟩
 | A n=>exact h.elim
 | U n=>exact h.elim
 | S=>exact h.elim
 | N=>exact h.elim

theorem CpR.take{g:G}{w:World}{κ:K}{b p:Nat}{xs:List T}(n:Nat)(h:CpR g w κ b p xs):CpR g w κ b p (xs.take n):=by
 have key: ∀ {Q:Nat→Prop},(∀(j:Nat) x,xs[j]? =some x→ ∃c,w.cell? ⟨b,p+j,none⟩=some c∧Rd Q w c x)→ ∀(j:Nat) x,(xs.take n)[j]? =some x→ ∃c,w.cell? ⟨b,p+j,none⟩=some c∧Rd Q w c x:=by
  intro Q h j x hx; rw[z79]at hx
  split at hx
  ·exact h _ x hx
  ·cases hx
 cases κ with
 | D=>trivial
 | F=>exact⟨h.1,key h.2⟩
 | V=>exact⟨h.1,key h.2⟩
 | A n=>exact h.elim
 | U n=>exact h.elim
 | S=>exact h.elim
 | N=>exact h.elim

theorem KA(hT:bE P τ){s:TypeId}{x:Operand}{f off size:Nat}{agg:Bool}{fs:List (Nat×Nat×Bool)}{r:V}(hd:o.dst=some d)(hn:d<st.n)(ho:o.op= .fieldAddr s x f)(hs':tk τ s=some (.struct fs))(hf:fs[f]? =some (off,size,agg))
  (hr:BT (off,size) (ev st.sl x)=some r)(hroot:aI (ev st.sl x)≠ .none→aX d (aI (ev st.sl x))=false∧opK st x 0 0≠ .D)(hpn: ∀l p i j,ev st.sl x= .one (.pp l p i j)→l≠ .none):pW P g0 w0 o st (st.put d r (fun _ _=>opK st x 0 0)):=by
 intro a w ⟨g,hs⟩; have h1:=hs.ev_rv x (fun k j=> .s d k j)
 generalize hy:ev st.sl x=y at h1 hr hroot hpn; unfold BT at hr; split at hr
 ·rename_i ob p
  cases hr; refine⟨_,w,qV hT hs' hf h1 ho w, .inl ⟨_,rfl,g, ?_⟩⟩
  rw[hd]; exact hs.set hn rfl (fun h=>absurd rfl h)
 ·rename_i xs
  cases hr; obtain⟨b,p,e,hc⟩:=h1; refine⟨_,w,qV hT hs' hf e ho w, .inl ⟨_,rfl,g, ?_⟩⟩
  rw[hd]; exact hs.set hn ⟨b,p+off,rfl,hc.drop.take _⟩ (fun h=>absurd rfl h)
 ·rename_i l p i j
  cases hr; cases x with
  | tmp t=>
   have hy':st.sl t= .one (.pp l p i j):=hy; have hl:l≠ .none:=hpn l p i j rfl; obtain⟨hin,hk⟩:=hroot hl; have hD:st.fl (.s t 0 0)≠ .D:=fun e=>hk (by simp [opK,e,K.cp])
   have:=hs.pls t (by rw[hy']; exact hl) hD
   rw[hy']at this; obtain⟨hk2,v0,x0,b,o1,len,cap,es,e,e1,e2,e3,e4,e5⟩:=this; refine⟨_,w,qV hT hs' hf (ρ:=a.eval) (x:= .tmp t) e5 ho w, .inl ⟨_,rfl,g, ?_⟩⟩
   rw[hd]; exact hs.set hn trivial (fun _ _=>⟨hk2,hin,v0,x0,b,o1,len,cap,es,e,e1,e2,e3,e4,by rw[z81 (o1+i*e.length)]⟩)
  | const v=>
   exfalso
   have:bQ v= .one (.pp l p i j):=hy; unfold bQ at this
   (repeat' split at this)<;>simp at this
  | func f=>simp [ev]at hy
  | global n=>simp [ev]at hy
 ·cases hr

theorem LT{x:Operand}(hd:o.dst=some d)(hn:d<st.n)(ho:o.op= .nilCheck x)(hx:match ev st.sl x with | .one (.ptr _ _)=>True | .one (.cp _)=>True | .one (.fn _ _)=>True | .one (.pp l _ _ _)=>l≠ .none∧aX d l=false∧opK st x 0 0≠ .D | _=>False):
  pW P g0 w0 o st (st.put d (ev st.sl x) (opK st x)):=by
 intro a w ⟨g,hs⟩; have h1:=hs.ev_rv x (fun k j=> .s d k j)
 generalize hy:ev st.sl x=y at h1 hx; have key: ∀v,(execOp a.eval o).run P w= .ok (.value v) w→v=a.eval x→(aI y≠ .none→opK st x 0 0≠ .D→(st.fl (aI y)).hold=true∧aX d (aI y)=false∧Ga st a.tmps g.β w v y)→ ∃r w',(execOp a.eval o).run P w= .ok r w'∧((∃v,r= .value v∧Sim g0 w0 (st.put d y (opK st x)) (a.put o.dst v) w')∨(r= .skip∧Sim g0 w0 (st.put d y (opK st x)) (a.put o.dst undef) w')):=by
  rintro v hv rfl hp
  refine⟨_,w,hv, .inl ⟨_,rfl,g, ?_⟩⟩
  rw[hd]; exact hs.set hn h1 hp
 obtain⟨dst,op,ty,pos,after,guard⟩:=o; simp only at ho hd; subst ho; split at hx
 ·have e:a.eval x= .pointer (some _):=h1
  exact key _ (by simp only[execOp,e]; rfl) e.symm (fun h=>absurd rfl h)
 ·obtain⟨b,p,e,_⟩:=h1
  exact key _ (by simp only[execOp,e]; rfl) e.symm (fun h=>absurd rfl h)
 ·have e:a.eval x= .func _ _ _:=h1
  exact key _ (by simp only[execOp,e]; rfl) e.symm (fun h=>absurd rfl h)
 ·rename_i l p i j
  obtain⟨hl,hin,hk⟩:=hx; cases x with
  | tmp t=>
   have hy':st.sl t= .one (.pp l p i j):=hy; have hD:st.fl (.s t 0 0)≠ .D:=fun e=>hk (by simp [opK,e,K.cp])
   have:=hs.pls t (by rw[hy']; exact hl) hD
   rw[hy']at this; obtain⟨hk2,v0,x0,b,o1,len,cap,es,e,e1,e2,e3,e4,e5⟩:=this; have e6:a.eval (.tmp t)= .pointer (some ⟨b,o1+i*e.length+j,none⟩):=e5; exact key _ (by simp only[execOp,e6]; rfl) e6.symm (fun _ _=>⟨hk2,hin,v0,x0,b,o1,len,cap,es,e,e1,e2,e3,e4,rfl⟩)
  | const v=>
   exfalso
   have:bQ v= .one (.pp l p i j):=hy; unfold bQ at this
   (repeat' split at this)<;>simp at this
  | func f=>simp [ev]at hy
  | global n=>simp [ev]at hy
 ·exact hx.elim

theorem Pc{a:Act}{g:G}{w:World}(hs:cC g0 w0 st a g w): ∀ {l:List Operand} {cs:List (Nat×Nat)},zA (l.map (ev st.sl))=some cs→l.map a.eval=cs.map fun c=>Value.pointer (some ⟨g.β c.1,c.2,none⟩)
 | [],cs,h=>by simp only[Tb,zA,z10]at h; subst h; rfl
 | x::r,cs,h=>by
  simp only[z52]at h; unfold zA at h; split at h
  ·rename_i heq; cases heq
  ·rename_i o off r' heq
   simp only[RI]at heq; obtain⟨e1,e2⟩:=heq; obtain⟨cs',h2,rfl⟩:=z26.1 h; rw[←e2]at h2; have hx:=hs.ev_rv x (fun _ _=> .none)
   rw[e1]at hx; simp only[z52,Pc hs h2]; congr 1
  ·cases h

theorem LX{f:FuncId}{caps:Array Operand}{cs:List (Nat×Nat)}(hd:o.dst=some d)(hn:d<st.n)(ho:o.op= .makeFunc (.func f) #[] caps)(hcs:zA (caps.toList.map (ev st.sl))=some cs):
  pW P g0 w0 o st (st.put d (.one (.fn f cs)) (fun _ _=> .S)):=by
 intro a w ⟨g,hs⟩; have h1:=Pc hs hcs; have hv:(execOp a.eval o).run P w= .ok (.value (.func (.func f) #[] (caps.map a.eval))) w:=by
  obtain⟨dst,op,ty,pos,after,guard⟩:=o; simp only at ho; subst ho; simp [execOp,Instr.makeFunc]
 refine⟨_,w,hv, .inl ⟨_,rfl,g, ?_⟩⟩
 rw[hd]; refine hs.set hn ?_ (fun h=>absurd rfl h)
 show Value.func (.func f) #[] (caps.map a.eval)= .func (.func f) #[] _; rw[←h1]; congr 1
 apply Nw
 simp

theorem qU(hT:bE P τ){t e:TypeId}{ei:TI}(ht:tk τ t=some (.sl e))(he:τ e=some ei){ρ:Operand→Value}{x i:Operand}{b off len cap:Nat}{n:Int}{k:IntKind}(hx:ρ x= .slice (some ⟨b,off,none⟩) len cap)(hi:ρ i= .int k n)(h0:0≤n)(h1:n<len)(ho:o.op= .indexAddr t x i)(w:World):
  (execOp ρ o).run P w= .ok (.value (.pointer (some ⟨b,off+n.toNat*ei.size,none⟩))) w:=by
 obtain⟨d,hd,rfl⟩:=lX hT ht; obtain⟨info,hinfo,hsz,hpos⟩:=nC hT he; obtain⟨dst,op,ty,pos,after,guard⟩:=o; simp only at ho; subst ho; simp only[execOp,Instr.indexAt,hx,hi,asIntOf,Sem.run_bind,Sem.run_pure,Result.andThen_ok,run_underlying hd,h0,h1,and_self,if_true,sizeOf,typeInfo,run_program,hinfo,hsz,kR]

theorem cC.int{a:Act}{g:G}{w:World}(hs:cC g0 w0 st a g w){x:Operand}{k:IntKind}{n:Int}(h:ev st.sl x= .one (.c (.int k n))):a.eval x= .int k n:=by
 have h1:=hs.ev_rv x (fun _ _=> .none)
 rw[h]at h1; have:=LF.scal (g':=g) (w':=w) (κ':= .F) (l':= .none) h1.2 rfl; have this:Rd _ _ _ _:=this; generalize a.eval x=z at this; cases this; rfl

theorem Jx(hT:bE P τ){t e:TypeId}{ei:TI}{x i:Operand}{es:List (List T)}{row:List T}{k:IntKind}{n:Int}{m:Bool}(hd:o.dst=some d)(hn:d<st.n)(ho:o.op= .indexAddr t x i)(ht:tk τ t=some (.sl e))(he:τ e=some ei)
  (hx:evR st x= .one (.c (.sl es)))(hr:Rdy st m x)(hi:ev st.sl i= .one (.c (.int k n)))(h0:0≤n)(hrow:es[n.toNat]? =some row)(hsz:row.length=ei.size):pW P g0 w0 o st (st.put d (.one (.cp row)) (fun _ _=>if m then .F else .V)):=by
 intro a w ⟨g,hs⟩; have h1:=hs.rp hr; rw[hx]at h1; obtain⟨_,_,_,hpos⟩:=nC hT he; obtain⟨b,off,len,cap,e1,hl,b2,off2,e2,hP,hc⟩:=HD (β:=g.β) h1 hrow hsz hpos; have hlt:n.toNat<es.length:=by
  rcases Qe n.toNat es.length with h | h
  ·exact h
  ·rw[z62 h]at hrow; cases hrow
 simp only[Value.pointer.injEq,z10,Addr.mk.injEq]at e2; obtain⟨rfl,rfl,_⟩:=e2; refine⟨_,w,qU hT ht he e1 (hs.int hi) h0 (by omega) ho w, .inl ⟨_,rfl,g, ?_⟩⟩
 rw[hd]; refine hs.set hn ⟨b,off+n.toNat*ei.size,rfl, ?_⟩ (fun h=>absurd rfl h)
 cases m with
 | true=>exact⟨hP,hc⟩
 | false=>exact⟨hP,hc⟩

theorem Hu(hT:bE P τ){t e:TypeId}{ei:TI}{x:Nat}{i:Operand}{l:Loc}{p:List (Nat×Nat)}{x0:T}{es:List (List T)}{row:List T}{k:IntKind}{n:Int}(hd:o.dst=some d)(hn:d<st.n)(ho:o.op= .indexAddr t (.tmp x) i)(ht:tk τ t=some (.sl e))(he:τ e=some ei)
  (hx:st.sl x= .one (.al l p))(hln:l≠ .none)(hk:st.fl (.s x 0 0)≠ .D)(hin:aX d l=false)(hat:st.at l=some x0)(hnav:nav x0 p=some (.sl es))(hi:ev st.sl i= .one (.c (.int k n)))(h0:0≤n)(hrow:es[n.toNat]? =some row)(hsz:row.length=ei.size):
  pW P g0 w0 o st (st.put d (.one (.pp l p n.toNat 0)) (fun _ _=> .F)):=by
 intro a w ⟨g,hs⟩; have:=hs.pls x (by rw[hx]; exact hln) hk
 rw[hx]at this; obtain⟨hk2,v0,x0',x',e1,e2,e3⟩:=this; have e2':st.at l=some x0':=e2; rw[hat]at e2'; cases e2'; have e4:=e3.nav; rw[hnav]at e4; cases e4; have hrd:=hs.pl_rd hk2 e1 hat e3; obtain⟨_,_,_,hpos⟩:=nC hT he; obtain⟨b,off,len,cap,q1,hl,_⟩:=HD (β:=g.β) hrd hrow hsz hpos; have hlt:n.toNat<es.length:=by
  rcases Qe n.toNat es.length with h | h
  ·exact h
  ·rw[z62 h]at hrow; cases hrow
 refine⟨_,w,qU hT ht he (ρ:=a.eval) (x:= .tmp x) q1 (hs.int hi) h0 (by omega) ho w, .inl ⟨_,rfl,g, ?_⟩⟩
 rw[hd]; exact hs.set hn trivial (fun _ _=>⟨hk2,hin,v0,x0,b,off,len,cap,es,row,e1,hat,by rw[←q1]; exact e3,hrow,by rw[hsz]; rfl⟩)

theorem Lb(hT:bE P τ){t e:TypeId}{ei:TI}{x i:Operand}{ob p len:Nat}{k:IntKind}{n:Int}(hd:o.dst=some d)(hn:d<st.n)(ho:o.op= .indexAddr t x i)(ht:tk τ t=some (.arr len e))(he:τ e=some ei)
  (hx:ev st.sl x= .one (.ptr ob p))(hi:ev st.sl i= .one (.c (.int k n)))(h0:0≤n)(h1:n<len):pW P g0 w0 o st (st.put d (.one (.ptr ob (p+n.toNat*ei.size))) (fun _ _=> .S)):=by
 intro a w ⟨g,hs⟩; have hx1:=hs.ev_rv x (fun _ _=> .none)
 rw[hx]at hx1; have e1:a.eval x= .pointer (some ⟨g.β ob,p,none⟩):=hx1; obtain⟨dd,hdd,rfl⟩:=lX hT ht; obtain⟨info,hinfo,hsz,hpos⟩:=nC hT he; have hv:(execOp a.eval o).run P w= .ok (.value (.pointer (some ⟨g.β ob,p+n.toNat*ei.size,none⟩))) w:=by
  have hi':=hs.int hi; obtain⟨dst,op,ty,pos,after,guard⟩:=o; simp only at ho; subst ho; simp only[execOp,Instr.indexAt,e1,hi',asIntOf,Sem.run_bind,Sem.run_pure,Result.andThen_ok,run_underlying hdd,Instr.sureAddr,h0,h1,and_self,if_true,sizeOf,typeInfo,run_program,hinfo,hsz,kR]
 refine⟨_,w,hv, .inl ⟨_,rfl,g, ?_⟩⟩
 rw[hd]; exact hs.set hn rfl (fun h=>absurd rfl h)
end
end Go.Own

namespace Go.Own
open Go.RowKit

def tY:T→T→Bool
 | .int k _, .int k' _=>k == k'
 | .bool _, .bool _=>true
 | .np, .np=>true
 | .str _, .str _=>true
 | .sl _, .sl _=>true
 | .hole, .sl _=>true
 | _,_=>false
def fY:List T→List T→Bool
 | [],[]=>true
 | x::r,y::q=>tY x y&&fY r q
 | _,_=>false

theorem Ad{x y:T}(h:tY x y=true):scal x=scal y:=by
 cases x<;>cases y<;>first | rfl | cases h

theorem tF: ∀ {xs ys:List T},fY xs ys=true→xs.length=ys.length∧ ∀(j:Nat) x,xs[j]? =some x→ ∃y,ys[j]? =some y∧tY x y=true
 | [],[],_=>⟨rfl,by simp⟩
 | [],_::_,h=>by cases h
 | _::_,[],h=>by cases h
 | x::r,y::q,h=>by
  simp only[fY,z7]at h; obtain⟨e,hg⟩:=tF h.2; refine⟨by simp [e],fun j z hz=> ?_⟩
  cases j with
  | zero=>simp only[z24,z10]at hz ⊢; subst hz; exact⟨y,rfl,h.1⟩
  | succ j=>simp only[z25]at hz ⊢; exact hg j z hz

def kM(zero:List T)(j:Nat):Bool:=match zero[j]? with | some z=>scal z | none=>false

def pD(i:TI)(cells:List T):Option V:=
 if fY (cells.take i.size) i.zero then(if i.agg then some (.one (.ag (cells.take i.size)))else match cells with | x::_=>some (.one (.c x)) | []=>none)else none

theorem bE.get{P:Program}{τ:TypeId→Option TI}(hT:bE P τ){t:TypeId}{i:TI}(h:τ t=some i): ∃info d z,P.info? t=some info∧P.underlying t=some d∧info.size=i.size∧info.bytes=i.bytes∧info.zero=some z∧
 xV z.cells.toList=some i.zero∧i.zero.length=i.size∧0<i.size∧i.agg=(match d with | .struct _=>true | .array _ _=>true | _=>false):=by
 obtain⟨info,d,z,h1,h2,h3,h4,h5,h6,h7,h8,h9,_⟩:=hT t i h; exact⟨info,d,z,h1,h2,h3,h4,h5,h6,h7,h8,h9⟩

theorem vU{P:Program}{τ:TypeId→Option TI}(hT:bE P τ){g:G}{w:World}{t:TypeId}{i:TI}(hi:τ t=some i){b p:Nat}{xs:List T}{r:V}{κ:Nat→K}{l:Nat→Loc}{l':Nat→Nat→Loc}
  (hx: ∀(j:Nat) x,xs[j]? =some x→ ∃c,w.cell? ⟨b,p+j,none⟩=some c∧oQ c∧LF g w (κ j) (l j) c x)(hr:pD i xs=some r)(hcp: ∀j c x,LF g w (κ j) (l j) c x→LF g w (κ j).cp (l' 0 j) c x):
  ∃u,(loadVar t ⟨b,p,none⟩).run P w= .ok u w∧RV g w (fun _ j=>if kM i.zero j then .S else(κ j).cp) l' u r∧aI r= .none∧ ∀j y,r.leaf 0 j=some y→xs[j]? =some y∧sH u 0 j=w.cell? ⟨b,p+j,none⟩:=by
 obtain⟨info,d,z,h1,h2,h3,h4,h5,h6,h7,h8,h9⟩:=hT.get hi; unfold pD at hr; split at hr
 ·rename_i hconf
  obtain⟨hlen,hget⟩:=tF hconf; have hle:i.size≤xs.length:=by
   rw[z64]at hlen; omega
  have hlf: ∀(j:Nat) x c,j<i.size→xs[j]? =some x→LF g w (κ j) (l j) c x→LF g w (if kM i.zero j then .S else(κ j).cp) (l' 0 j) c x:=by
   intro j x c hj hxj hf; split
   ·rename_i hs
    obtain⟨y,hy,hc⟩:=hget j x (by rw[z79,z19 hj]; exact hxj)
    have:scal x=true:=by
     rw[Ad hc]; simpa [kM,hy]using hs
    exact hf.scal this
   ·exact hcp j c x hf
  cases hag:i.agg with
  | true=>
   rw[hag]at hr h9; simp only[if_true,z10]at hr; subst hr; let yF:List Value:=(List.range i.size).map fun j=>(w.cell? ⟨b,p+j,none⟩).getD undef
   have hval: ∀(j:Nat) v,yF[j]? =some v→w.cell? ((⟨b,p,none⟩:Addr).add j)=some v:=by
    intro j v hv; simp only[yF,z30,z26]at hv
    obtain⟨j',hj',rfl⟩:=hv; have hlt:j<i.size:=by
     rcases Qe j i.size with h | h
     ·exact h
     ·rw[z62 (by simpa using h)]at hj'; cases hj'
    rw[Xk hlt]at hj'
    cases hj'; obtain⟨c,hc,_⟩:=hx j xs[j] (z12 (by omega))
    rw[kR,hc]; rfl
   have hlen:yF.length=i.size:=by simp [yF]
   have hrun:=run_loadCells_list (P:=P) w ⟨b,p,none⟩ yF hval; have hg: ∀j,j<i.size→yF.toArray[j]? =w.cell? ⟨b,p+j,none⟩:=by
    intro j hj; obtain⟨c,hc,_⟩:=hx j xs[j] (z12 (by omega))
    have:yF[j]? =some c:=by simp [yF,Xk hj,hc]
    rw[hc]; simpa using this
   have hlt: ∀(j:Nat) x,(xs.take i.size)[j]? =some x→j<i.size∧xs[j]? =some x:=by
    intro j x h; rw[z79]at h
    split at h
    ·exact⟨by assumption,h⟩
    ·cases h
   refine⟨.agg yF.toArray, ?_,⟨yF.toArray,rfl,by simp [hlen]; omega,fun j x hjx=> ?_⟩,rfl,fun j y hj=> ?_⟩
   ·rw[hlen]at hrun
    have hisagg:(isAgg t).run P w= .ok true w:=by
     simp only[isAgg,Sem.run_bind,run_underlying h2,Result.andThen_ok]; cases d<;>first | (simp at h9; done) | rfl
    simp only[loadVar,Sem.run_bind,hisagg,Result.andThen_ok,if_true,sizeOf,typeInfo,run_program,h1,Sem.run_pure,h3,hrun]
   ·obtain⟨hj,hxj⟩:=hlt j x hjx
    obtain⟨c,hc,hn,hf⟩:=hx j x hxj; exact⟨c,by rw[hg j hj]; exact hc,hn,hlf j x c hj hxj hf⟩
   ·obtain⟨h1,h2⟩:=hlt j y hj
    exact⟨h2,hg j h1⟩
  | false=>
   rw[hag]at hr h9; simp only[z54,if_false]at hr; split at hr
   ·rename_i x q
    simp only[z10]at hr; subst hr; obtain⟨c,hc,hn,hf⟩:=hx 0 x rfl; refine⟨c, ?_,⟨hn,hlf 0 x c h8 rfl hf⟩,rfl,fun j y hj=> ?_⟩
    ·have hisagg:(isAgg t).run P w= .ok false w:=by
      simp only[isAgg,Sem.run_bind,run_underlying h2,Result.andThen_ok]; cases d<;>first | (simp at h9; done) | rfl
     have hc':w.cell? ⟨b,p,none⟩=some c:=hc; simp only[loadVar,Sem.run_bind,hisagg,Result.andThen_ok,z54,if_false,run_load,hc']
    ·cases j with
     | zero=>
      simp only[V.leaf,W.leaf,z10]at hj; subst hj; exact⟨rfl,by rw[hc,(iQ hn).2]⟩
     | succ j=>simp [V.leaf,W.leaf]at hj
   ·cases hr
 ·cases hr

section
variable {P:Program} {τ:TypeId→Option TI} {g0:G} {w0:World} {o:Oper} {st:St} {d:Nat}

theorem uF{ρ:Operand→Value}{t:TypeId}{x:Operand}{b p:Nat}{u:Value}{w:World}(ho:o.op= .load t x)(hx:ρ x= .pointer (some ⟨b,p,none⟩))(hu:(loadVar t ⟨b,p,none⟩).run P w= .ok u w):(execOp ρ o).run P w= .ok (.value u) w:=by
 obtain⟨dst,op,ty,pos,after,guard⟩:=o; simp only at ho; subst ho; simp only[execOp,Instr.loadAt,hx,Instr.sureAddr,Sem.run_bind,Sem.run_pure,Result.andThen_ok,hu]

theorem cC.obsCell{a:Act}{g:G}{w:World}(hs:cC g0 w0 st a g w){ob p:Nat}{cells:List T}(hc:st.ob ob=some cells): ∀(j:Nat) x,(cells.drop p)[j]? =some x→ ∃c,w.cell? ⟨g.β ob,p+j,none⟩=some c∧oQ c∧LF g w (st.fl (.oc ob (p+j))) (.oc ob (p+j)) c x:=by
 intro j x hx; obtain⟨arr,ty,k1,k2,k3,k4⟩:=hs.obs ob cells hc; rw[z45]at hx
 obtain⟨c,c1,c2,c3⟩:=k4 _ _ hx; exact⟨c,by rw[cV w _ _ arr ty (0,0) k1]; exact c1,c2,c3⟩

theorem Ur(hT:bE P τ){t:TypeId}{x:Operand}{i:TI}{ob p:Nat}{cells:List T}{r:V}(M:List Nat)(hd:o.dst=some d)(hn:d<st.n)(ho:o.op= .load t x)(hi:τ t=some i)(hx:ev st.sl x= .one (.ptr ob p))(hc:st.ob ob=some cells)
  (hr:pD i (cells.drop p)=some r)(hM: ∀j∈M, ∃y,r.leaf 0 j=some y):
  pW P g0 w0 o st ((st.put d r (fun _ j=>if kM i.zero j then .S else(st.fl (.oc ob (p+j))).cp)).mvs (M.map fun j=>(.oc ob (p+j), .s d 0 j))):=by
 intro a w ⟨g,hs⟩; have h1:=hs.ev_rv x (fun _ _=> .none)
 rw[hx]at h1; have e1:a.eval x= .pointer (some ⟨g.β ob,p,none⟩):=h1; obtain⟨u,hu,hru,hroot,hleaf⟩:=vU hT hi (g:=g) (κ:=fun j=>st.fl (.oc ob (p+j))) (l:=fun j=> .oc ob (p+j)) (l':=fun k j=> .s d k j) (hs.obsCell hc) hr (fun j c x hf=>hf.cp hs.ok rfl)
 refine⟨_,w,uF ho e1 hu, .inl ⟨_,rfl, ?_⟩⟩
 rw[hd]; have hd':d<a.tmps.size:=by rw[hs.size]; exact hn
 have h1:=hs.set hn hru (fun h=>absurd hroot h)
 obtain⟨g',_,h2⟩:=h1.mvs (M.map fun j=>(.oc ob (p+j), .s d 0 j)) (fun m hm=>by
  obtain⟨j,hj,rfl⟩:=z50.1 hm; obtain⟨y,hy⟩:=hM j hj; obtain⟨q1,q2⟩:=hleaf j y hy; have hat:(st.put d r (fun _ j=>if kM i.zero j then .S else(st.fl (.oc ob (p+j))).cp)).at (.oc ob (p+j))=some y:=by
   rw[at_put rfl,St.at_oc,hc]; rw[z45]at q1
   exact q1
  refine⟨rfl,rfl,by simp,by rw[oZ,hat]; exact hy,⟨y,hat⟩, ?_⟩
  simp only[vAt]; rw[Act.put_getD a d _ _ hd',z19 rfl]; exact q2)
 exact⟨g',h2⟩

theorem Ju(hT:bE P τ){t:TypeId}{x:Operand}{i:TI}{ob p:Nat}{cells:List T}{es:List (List T)}{e:TypeId}(hd:o.dst=some d)(hn:d<st.n)(ho:o.op= .load t x)(hi:τ t=some i)(ht:tk τ t=some (.sl e))(hx:ev st.sl x= .one (.ptr ob p))(hc:st.ob ob=some cells)
  (hr:cells[p]? =some (.sl es))(hk:(st.fl (.oc ob p)).hold=true):pW P g0 w0 o st (st.put d (.one (.al (.oc ob p) [])) (fun _ _=> .F)):=by
 intro a w ⟨g,hs⟩; have h1:=hs.ev_rv x (fun _ _=> .none)
 rw[hx]at h1; have e1:a.eval x= .pointer (some ⟨g.β ob,p,none⟩):=h1; obtain⟨c,c1,c2,c3⟩:=hs.obsCell hc (p:=p) 0 (.sl es) (by rw[z45]; exact hr)
 rw[z75]at c1 c3; obtain⟨info,dd,z,h1,h2,h3,h4,h5,h6,h7,h8,h9⟩:=hT.get hi; obtain⟨dd',hdd,rfl⟩:=lX hT ht; have hu:(loadVar t ⟨g.β ob,p,none⟩).run P w= .ok c w:=by
  have hisagg:(isAgg t).run P w= .ok false w:=by simp only[isAgg,Sem.run_bind,run_underlying hdd,Result.andThen_ok]; rfl
  simp only[loadVar,Sem.run_bind,hisagg,Result.andThen_ok,z54,if_false,run_load,c1]
 refine⟨_,w,uF ho e1 hu, .inl ⟨_,rfl,g, ?_⟩⟩
 rw[hd]; have hat:st.at (.oc ob p)=some (.sl es):=by rw[St.at_oc,hc]; exact hr
 exact hs.set hn trivial (fun _ _=>⟨hk,rfl,c, .sl es, .sl es,c1,hat, .nil _ _⟩)

theorem LY(hT:bE P τ){t:TypeId}{x:Operand}{i:TI}{xs:List T}{r:V}(hd:o.dst=some d)(hn:d<st.n)(ho:o.op= .load t x)(hi:τ t=some i)(hx:ev st.sl x= .one (.cp xs))(hk:opK st x 0 0≠ .D)(hr:pD i xs=some r):
  pW P g0 w0 o st (st.put d r (fun _ j=>if kM i.zero j then .S else opK st x 0 0)):=by
 intro a w ⟨g,hs⟩; have h1:=hs.ev_rv x (fun _ _=> .none)
 rw[hx]at h1; obtain⟨b,p,e1,h2⟩:=h1; have hcell: ∀(j:Nat) y,xs[j]? =some y→ ∃c,w.cell? ⟨b,p+j,none⟩=some c∧oQ c∧LF g w (opK st x 0 0) .none c y:=by
  intro j y hy; generalize hkk:opK st x 0 0=κ at h2 hk; cases κ with
  | D=>exact absurd rfl hk
  | F=>obtain⟨c,hc,hr⟩:=h2.2 j y hy; exact⟨c,hc,hr.not_agg,hr⟩
  | V=>obtain⟨c,hc,hr⟩:=h2.2 j y hy; exact⟨c,hc,hr.not_agg,hr⟩
  | A n=>exact h2.elim
  | U n=>exact h2.elim
  | S=>exact h2.elim
  | N=>exact h2.elim
 have hcpk:(opK st x 0 0).cp=opK st x 0 0:=by
  generalize hkk:opK st x 0 0=κ at h2; cases κ<;>first | rfl | exact h2.elim
 obtain⟨u,hu,hru,hroot,_⟩:=vU hT hi (g:=g) (κ:=fun _=>opK st x 0 0) (l:=fun _=> .none) (l':=fun k j=> .s d k j) hcell hr (fun j c y hf=>by
  rw[hcpk]; generalize hkk:opK st x 0 0=κ at h2 hf; cases κ with
  | D=>exact hf
  | F=>exact hf
  | V=>exact hf
  | A n=>exact h2.elim
  | U n=>exact h2.elim
  | S=>exact h2.elim
  | N=>exact h2.elim)
 refine⟨_,w,uF ho e1 hu, .inl ⟨_,rfl,g, ?_⟩⟩
 rw[hd]; simp only[hcpk]at hru; exact hs.set hn hru (fun h=>absurd hroot h)

theorem cC.ppCell{a:Act}{g:G}{w:World}(hs:cC g0 w0 st a g w){t:Nat}{l:Loc}{p:List (Nat×Nat)}{i j:Nat}{x0:T}{es:List (List T)}{row:List T}(hx:st.sl t= .one (.pp l p i j))(hln:l≠ .none)(hk:st.fl (.s t 0 0)≠ .D)(hat:st.at l=some x0)(hnav:nav x0 p=some (.sl es))(hrow:es[i]? =some row):
  (st.fl l).hold=true∧ ∃v0 b off len cap,vAt a.tmps g.β w l=some v0∧Pl w v0 x0 p (.slice (some ⟨b,off,none⟩) len cap) (.sl es)∧a.tmps.getD t undef= .pointer (some ⟨b,off+i*row.length+j,none⟩)∧
   ∀(q:Nat) y,(row.drop j)[q]? =some y→ ∃c,w.cell? ⟨b,off+i*row.length+j+q,none⟩=some c∧Rd (all g w) w c y∧Pl w v0 x0 (p++[(i,j+q)]) c y:=by
 have:=hs.pls t (by rw[hx]; exact hln) hk
 rw[hx]at this; obtain⟨hk2,v0,x0',b,off,len,cap,es',row',e1,e2,e3,e4,e5⟩:=this; have e2':st.at l=some x0':=e2; rw[hat]at e2'; cases e2'; have e6:=e3.nav; rw[hnav]at e6; cases e6; rw[hrow]at e4; cases e4; refine⟨hk2,v0,b,off,len,cap,e1,e3,e5,fun q y hy=> ?_⟩
 rw[z45]at hy
 have hrd:=hs.pl_rd hk2 e1 hat e3; have key: ∃c,w.cell? ⟨b,off+i*row.length+(j+q),none⟩=some c∧Rd (all g w) w c y:=by
  generalize hv:Value.slice (some ⟨b,off,none⟩) len cap=v at hrd; cases hrd with
  | nil a cap=>simp at hrow
  | sl b' off' len' cap' s es cs hl hc hs2 hP hm hr=>
   cases hv; have e7:=hs2 i row hrow; exact⟨cs i (j+q),by rw[e7]; exact hm i row (j+q) y hrow hy,hr i row (j+q) y hrow hy⟩
 obtain⟨c,hc,hr⟩:=key; refine⟨c,by rw[z81]; exact hc,hr, ?_⟩
 have happ: ∀ {v:Value} {x:T} {p:List (Nat×Nat)} {v':Value} {x':T},Pl w v x p v' x'→ ∀ {i j:Nat} {v'':Value} {x'':T},Pl w v' x' [(i,j)] v'' x''→Pl w v x (p++[(i,j)]) v'' x'':=by
  intro v x p v' x' h; induction h with
  | nil=>intro i j v'' x'' h2; exact h2
  | cons b off len cap es e c y i j p v' x' he hy hc h ih=>intro i' j' v'' x'' h2; exact .cons b off len cap es e c y i j _ _ _ he hy hc (ih h2)
 exact happ e3 (.cons b off len cap es row c y i (j+q) [] c y hrow hy hc (.nil _ _))

theorem Jt(hT:bE P τ){t:TypeId}{x:Nat}{ti:TI}{l:Loc}{p:List (Nat×Nat)}{i j:Nat}{x0:T}{es:List (List T)}{row:List T}{r:V}(hd:o.dst=some d)(hn:d<st.n)(ho:o.op= .load t (.tmp x))(hi:τ t=some ti)(hx:st.sl x= .one (.pp l p i j))(hln:l≠ .none)(hk:st.fl (.s x 0 0)≠ .D)
  (hat:st.at l=some x0)(hnav:nav x0 p=some (.sl es))(hrow:es[i]? =some row)(hr:pD ti (row.drop j)=some r):pW P g0 w0 o st (st.put d r (fun _ j=>if kM ti.zero j then .S else .V)):=by
 intro a w ⟨g,hs⟩; obtain⟨_,v0,b,off,len,cap,e1,e2,e3,e4⟩:=hs.ppCell hx hln hk hat hnav hrow; obtain⟨u,hu,hru,hroot,_⟩:=vU hT hi (g:=g) (κ:=fun _=> .V) (l:=fun _=> .none) (l':=fun k j=> .s d k j) (b:=b) (p:=off+i*row.length+j) (xs:=row.drop j) (fun q y hy=>by
  obtain⟨c,c1,c2,_⟩:=e4 q y hy; exact⟨c,c1,c2.not_agg,c2⟩) hr (fun _ _ _ hf=>hf)
 refine⟨_,w,uF ho e3 hu, .inl ⟨_,rfl,g, ?_⟩⟩
 rw[hd]; exact hs.set hn hru (fun h=>absurd hroot h)

theorem Bt(hT:bE P τ){t:TypeId}{x:Nat}{ti:TI}{l:Loc}{p:List (Nat×Nat)}{i j:Nat}{x0:T}{es es':List (List T)}{row:List T}{e:TypeId}(hd:o.dst=some d)(hn:d<st.n)(ho:o.op= .load t (.tmp x))(hi:τ t=some ti)(ht:tk τ t=some (.sl e))(hx:st.sl x= .one (.pp l p i j))(hln:l≠ .none)(hk:st.fl (.s x 0 0)≠ .D)(hin:aX d l=false)
  (hat:st.at l=some x0)(hnav:nav x0 p=some (.sl es))(hrow:es[i]? =some row)(hr:row[j]? =some (.sl es')):pW P g0 w0 o st (st.put d (.one (.al l (p++[(i,j)]))) (fun _ _=> .F)):=by
 intro a w ⟨g,hs⟩; obtain⟨hk2,v0,b,off,len,cap,e1,e2,e3,e4⟩:=hs.ppCell hx hln hk hat hnav hrow; obtain⟨c,c1,c2,c3⟩:=e4 0 (.sl es') (by rw[z45]; exact hr)
 rw[z75]at c1 c3; obtain⟨dd',hdd,rfl⟩:=lX hT ht; have hu:(loadVar t ⟨b,off+i*row.length+j,none⟩).run P w= .ok c w:=by
  have hisagg:(isAgg t).run P w= .ok false w:=by simp only[isAgg,Sem.run_bind,run_underlying hdd,Result.andThen_ok]; rfl
  simp only[loadVar,Sem.run_bind,hisagg,Result.andThen_ok,z54,if_false,run_load,c1]
 refine⟨_,w,uF ho e3 hu, .inl ⟨_,rfl,g, ?_⟩⟩
 rw[hd]; exact hs.set hn trivial (fun _ _=>⟨hk2,hin,v0,x0, .sl es',e1,hat,c3⟩)
end
end Go.Own

namespace Go.Own
open Go.RowKit

def W.kill(d:Nat):W→W
  | .ptr o off=>if o=d then .junk else .ptr o off
  | .fn f caps=>if caps.any (fun c=>c.1 == d)then .junk else .fn f caps
  | w=>w
def V.kill(d:Nat):V→V
  | .one w=> .one (w.kill d)
  | .tup ws=> .tup (ws.map (W.kill d))

def wA(o:Nat):Loc→Bool
  | .oc o' _=>o' == o
  | _=>false

def St.alloc(st:St)(d:Nat)(cells:List T)(κ:Nat→K):St:=
  { n:=st.n
    sl:=fun i=>if i=d then .one (.ptr d 0)else(st.sl i).kill d
    ob:=fun o=>if o=d then some cells else st.ob o
    fl:=fun l=>match l with
      | .s i k j=>if i=d then .S else if k=0∧j=0∧(aX d (aI (st.sl i))||wA d (aI (st.sl i)))=true then .D else st.fl (.s i k j)
      | .oc o j=>if o=d then κ j else st.fl (.oc o j)
      | l=>st.fl l }

theorem W.kill_leaf{d:Nat}{x:W}{j:Nat}:(x.kill d).leaf j=x.leaf j:=by
  cases x with
  | ptr o off=>simp only[W.kill]; split<;>rfl
  | fn f caps=>simp only[W.kill]; split<;>rfl
  | _=>rfl
theorem V.kill_leaf{d:Nat}{x:V}{k j:Nat}:(x.kill d).leaf k j=x.leaf k j:=by
  cases x with
  | one w=>cases k with
    | zero=>exact W.kill_leaf
    | succ k=>rfl
  | tup ws=>
    simp only[V.kill,V.leaf,z30]
    cases ws[k]? with
    | none=>rfl
    | some y=>exact W.kill_leaf
theorem V.kill_root{d:Nat}{x:V}:aI (x.kill d)=aI x:=by
  cases x with
  | tup ws=>rfl
  | one w=>cases w with
    | ptr o off=>simp only[V.kill,W.kill]; split<;>rfl
    | fn f caps=>simp only[V.kill,W.kill]; split<;>rfl
    | _=>rfl
theorem Ga.kill{st:St}{tmps:Array Value}{β:Nat→Nat}{w:World}{v:Value}{x:V}{d:Nat}(h:Ga st tmps β w v x):Ga st tmps β w v (x.kill d):=by
  cases x with
  | tup ws=>trivial
  | one y=>cases y with
    | ptr o off=>simp only[V.kill,W.kill]; split<;>trivial
    | fn f caps=>simp only[V.kill,W.kill]; split<;>trivial
    | al l p=>exact h
    | pp l p i j=>exact h
    | _=>trivial

theorem RW.kill{g g':G}{w w':World}{κ κ':Nat→K}{l:Nat→Loc}{v:Value}{x:W}{d:Nat}(hβ: ∀o,o≠d→g'.β o=g.β o)(hleaf: ∀j t u,x.leaf j=some t→Hm v j=some u→oQ u→LF g w (κ j) (l j) u t→LF g' w' (κ' j) (l j) u t)
    (hcp: ∀xs,x= .cp xs→ ∀b off,CpR g w (κ 0) b off xs→CpR g' w' (κ' 0) b off xs)(h:RW g w κ l v x):RW g' w' κ' l v (x.kill d):=by
  cases x with
  | ptr o off=>
    simp only[W.kill]; split
    · trivial
    · rename_i ho
      simp only[RW]at h ⊢; rw[hβ o ho]; exact h
  | fn f caps=>
    simp only[W.kill]; split
    · trivial
    · rename_i ho
      simp only[RW]at h ⊢; rw[h]; congr 2
      refine z49 (fun c hc=> ?_)
      have:c.1≠d:=by
        intro e; apply ho
        rw[z168]; exact⟨c,hc,by simp [e]⟩
      rw[hβ c.1 this]
  | c y=>exact⟨h.1,hleaf 0 y v rfl (iQ h.1).1 h.1 h.2⟩
  | ag xs=>
    obtain⟨cs,rfl,h2,h3⟩:=h; refine⟨cs,rfl,h2,fun j y hy=> ?_⟩
    obtain⟨c,c1,c2,c3⟩:=h3 j y hy; exact⟨c,c1,c2,hleaf j y c hy c1 c2 c3⟩
  | cp xs=>
    obtain⟨b,off,h1,h2⟩:=h; exact⟨b,off,h1,hcp xs rfl b off h2⟩
  | nilp=>exact h
  | ifc b=>exact h
  | _=>trivial

theorem RV.kill{g g':G}{w w':World}{κ κ':Nat→Nat→K}{l:Nat→Nat→Loc}{v:Value}{x:V}{d:Nat}(hβ: ∀o,o≠d→g'.β o=g.β o)(hleaf: ∀k j t u,x.leaf k j=some t→sH v k j=some u→oQ u→LF g w (κ k j) (l k j) u t→LF g' w' (κ' k j) (l k j) u t)
    (hcp: ∀k xs,x.comp k=some (.cp xs)→ ∀b off,CpR g w (κ k 0) b off xs→CpR g' w' (κ' k 0) b off xs)(h:RV g w κ l v x):RV g' w' κ' l v (x.kill d):=by
  cases x with
  | one x=>
    refine RW.kill hβ (fun j t u hj hu hn hf=>hleaf 0 j t u hj ?_ hn hf) (fun xs hx=>hcp 0 xs (by rw[hx]; rfl)) h
    have hx:RW g w (κ 0) (l 0) v x:=h; obtain⟨u',h1,h2,_⟩:=RW.leaf hx hj; rw[h1]at hu; cases hu; exact h2
  | tup ws=>
    obtain⟨vs,rfl,h2,h3⟩:=h; refine⟨vs,rfl,by simpa using h2,fun k x hx=> ?_⟩
    rw[z30]at hx
    obtain⟨y,hy,rfl⟩:=z26.1 hx; obtain⟨u,hu,hR⟩:=h3 k y hy; refine⟨u,hu,RW.kill hβ (fun j t u' hj hu' hn hf=>hleaf k j t u' (by simp [V.leaf,hy,hj]) (by simp [sH,hu,hu']) hn hf) (fun xs hx'=>hcp k xs (by simp only[V.comp]; rw[hy,hx'])) hR⟩

def G.alloc(g:G)(d b:Nat):G:= { β:=fun o=>if o=d then b else g.β o,own:=fun k=>if k=b then .obj d else g.own k }

theorem rE(w:World)(o:Obj)(b:Nat)(h:b<w.heap.size):(w.alloc o).heap[b]? =w.heap[b]? :=heap_alloc_old w o b h

theorem PZ{st:St}{i k:Nat}{xs:List T}(hx:(st.sl i).comp k=some (.cp xs)): ¬ (k=0∧aI (st.sl i)≠ .none):=by
  rintro ⟨rfl,h⟩
  cases hsl:st.sl i with
  | one y=>rw[hsl]at hx h; simp only[V.comp,z10]at hx; rw[hx]at h; exact h rfl
  | tup ws=>rw[hsl]at h; exact h rfl

theorem cC.alloc{g0:G}{w0:World}{st:St}{a:Act}{g:G}{w:World}(h:cC g0 w0 st a g w){d:Nat}(hd:d<st.n)(cs:Array Value)(ty:TypeId)(cells:List T)(κ:Nat→K)(hsz:cs.size=cells.length)
    (hc: ∀(j:Nat) x,cells[j]? =some x→ ∃c,cs[j]? =some c∧oQ c∧LF g w (κ j) (.oc d j) c x):
    cC g0 w0 (st.alloc d cells κ) (a.put (some d) (.pointer (some ⟨w.heap.size,0,none⟩))) (g.alloc d w.heap.size) (w.alloc (.cells cs ty)):=by
  have hd':d<a.tmps.size:=by rw[h.size]; exact hd
  have hdp:d<par:=z63 hd h.nle; have hβ: ∀o,o≠d→(g.alloc d w.heap.size).β o=g.β o:=fun o ho=>by simp [G.alloc,ho]
  have hown: ∀b,b<w.heap.size→(g.alloc d w.heap.size).own b=g.own b:=fun b hb=>by simp [G.alloc,Nat.ne_of_lt hb]
  have hE:Evo g w (g.alloc d w.heap.size) (w.alloc (.cells cs ty)) (fun _=>False):=⟨by simp,fun b hb _=>⟨hown b hb,rE w _ b hb⟩⟩
  have hA: ∀b,all g w b→all (g.alloc d w.heap.size) (w.alloc (.cells cs ty)) b∧(w.alloc (.cells cs ty)).heap[b]? =w.heap[b]? :=fun b hb=>⟨⟨by simp; have:=hb.1; omega,fun o=>by rw[hown b hb.1]; exact hb.2 o⟩,rE w _ b hb.1⟩
  have hlf: ∀ {κ:K} {l:Loc} {v:Value} {x:T},l.place=true→LF g w κ l v x→LF (g.alloc d w.heap.size) (w.alloc (.cells cs ty)) κ l v x:=fun hl hf=>LF.evo hE h.ok (Loc.place_ne hl).1 id (fun _=>id) (fun _=>hA) hf
  have hcpr: ∀ {κ:K} {b off:Nat} {xs:List T},CpR g w κ b off xs→CpR (g.alloc d w.heap.size) (w.alloc (.cells cs ty)) κ b off xs:=fun hc=>hc.evo hE id (.inr (.inr hA))
  have hlive: ∀i,i≠d→(st.alloc d cells κ).fl (.s i 0 0)≠ .D→(aX d (aI (st.sl i))||wA d (aI (st.sl i)))=false∧st.fl (.s i 0 0)≠ .D:=by
    intro i hi hf; simp only[St.alloc,z14 hi,Nv]at hf; by_cases hs:(aX d (aI (st.sl i))||wA d (aI (st.sl i)))=true
    · rw[z19 hs]at hf; exact absurd rfl hf
    · rw[z14 hs]at hf; exact⟨by simpa using hs,hf⟩
  have hfl: ∀i k j,i≠d→ ¬ (k=0∧aI (st.sl i)≠ .none)→(st.alloc d cells κ).fl (.s i k j)=st.fl (.s i k j):=by
    intro i k j hi hr; simp only[St.alloc,z14 hi]; rw[z14]; rintro ⟨rfl,rfl,h3⟩
    apply hr
    refine⟨rfl,fun e=> ?_⟩
    rw[e]at h3; simp [aX,wA]at h3
  refine⟨⟨h.framed.os,h.framed.tape,h.framed.output,h.framed.evo.trans (hE.mono fun _=>False.elim)⟩,⟨fun b hb=> ?_⟩, ?_,h.defers,fun i=> ?_,fun o cells' hc'=> ?_,fun i hi hf=> ?_,fun o ho=> ?_,h.nle⟩
  · by_cases e:b=w.heap.size
    · subst e; simp
    · have:g.own b≠ .none:=by intro e2; apply hb; simp only[G.alloc,z14 e]; exact e2
      have:=h.ok.own b this; simp; omega
  · simp only[Act.put,z127]; exact h.size
  · rw[Act.put_getD a d _ i hd']
    by_cases hi:i=d
    · subst hi
      simp only[St.alloc,if_true]; show Value.pointer _= .pointer _; simp [G.alloc]
    · rw[z14 hi]
      have e:(st.alloc d cells κ).sl i=(st.sl i).kill d:=by simp [St.alloc,hi]
      rw[e]; refine(h.slots i).kill hβ (fun k j t u hj _ _ hf=> ?_) (fun k xs hx b off hc=> ?_)
      · have hat:st.at (.s i k j)=some t:=hj
        rw[hfl i k j hi]
        · exact hlf rfl hf
        · rintro ⟨rfl,hr⟩
          cases hsl:st.sl i with
          | one y=>rw[hsl]at hr hj; cases y<;>first | exact hr rfl | simp [V.leaf,W.leaf]at hj
          | tup ws=>rw[hsl]at hr; exact hr rfl
      · rw[hfl i k 0 hi (PZ hx)]
        exact hcpr hc
  · by_cases ho:o=d
    · subst ho
      have hc2:cells'=cells:=by simpa [St.alloc]using hc'.symm
      subst hc2; have hβd:(g.alloc o w.heap.size).β o=w.heap.size:=by simp [G.alloc]
      rw[hβd]; refine⟨cs,ty,heap_alloc_new w _,hsz,by simp [G.alloc],fun j x hx=> ?_⟩
      obtain⟨c,c1,c2,c3⟩:=hc j x hx; refine⟨c,c1,c2, ?_⟩
      have:(st.alloc o cells' κ).fl (.oc o j)=κ j:=by simp [St.alloc]
      rw[this]; exact hlf rfl c3
    · have hc2:st.ob o=some cells':=by simpa [St.alloc,ho]using hc'
      obtain⟨arr,ty',h1,h2,h3,h4⟩:=h.obs o cells' hc2; have hb:g.β o<w.heap.size:=h.ok.own _ (by rw[h3]; simp)
      rw[hβ o ho]; refine⟨arr,ty',(rE w _ _ hb).trans h1,h2,(hown _ hb).trans h3,fun j x hx=> ?_⟩
      obtain⟨c,c1,c2,c3⟩:=h4 j x hx; refine⟨c,c1,c2, ?_⟩
      have:(st.alloc d cells κ).fl (.oc o j)=st.fl (.oc o j):=by simp [St.alloc,ho]
      rw[this]; exact hlf rfl c3
  · by_cases hid:i=d
    · subst hid
      exfalso; apply hi; simp [St.alloc,aI]
    · have e:(st.alloc d cells κ).sl i=(st.sl i).kill d:=by simp [St.alloc,hid]
      obtain⟨k1,k2⟩:=hlive i hid hf; rw[e,V.kill_root]at hi ⊢; obtain⟨p1,p2⟩:=h.pls i hi k2; obtain⟨t,ht⟩:=p2.root hi; simp only[z43]at k1; have hne: ∀i' k j,aI (st.sl i)= .s i' k j→i'≠d:=fun i' k j e1 e2=>by subst e2; rw[e1]at k1; simp [aX]at k1
      have hne2: ∀o j,aI (st.sl i)= .oc o j→o≠d:=fun o j e1 e2=>by subst e2; rw[e1]at k1; simp [wA]at k1
      refine⟨?_, ?_⟩
      · have:(st.alloc d cells κ).fl (aI (st.sl i))=st.fl (aI (st.sl i)):=by
          generalize hr:aI (st.sl i)=l at*; cases l with
          | s i' k j=>
            refine hfl i' k j (hne i' k j rfl) ?_
            rintro ⟨rfl,h2⟩
            rw[St.at_s]at ht; cases hsl:st.sl i' with
            | one y=>rw[hsl]at h2 ht; cases y<;>first | exact h2 rfl | simp [V.leaf,W.leaf]at ht
            | tup ws=>rw[hsl]at h2; exact h2 rfl
          | oc o j=>simp [St.alloc,hne2 o j rfl]
          | _=>rfl
        rw[this]; exact p1
      · rw[Act.put_getD a d _ i hd',z14 hid]
        refine(p2.congr ?_ ?_ (fun v0 x0 p v' x' e1 e2 hp=>h.pl_evo hE id p1 id e1 e2 hp)).kill
        · generalize hr:aI (st.sl i)=l at*
          cases l with
          | s i' k j=>
            simp only[vAt]; rw[Act.put_getD a d _ _ hd',z14 (hne i' k j rfl)]
          | oc o j=>
            simp only[vAt]; rw[hβ o (hne2 o j rfl)]; simp only[St.at,atL,z22]at ht; obtain⟨cells',hc',_⟩:=ht; obtain⟨arr,ty',k1,k2,k3,k4⟩:=h.obs o cells' hc'; exact cN (rE w _ _ (h.ok.own _ (by rw[k3]; simp)))
          | _=>rfl
        · generalize hr:aI (st.sl i)=l at*
          cases l with
          | s i' k j=>simp only[St.at,atL,St.alloc,z14 (hne i' k j rfl),V.kill_leaf]
          | oc o j=>simp only[St.at,atL,St.alloc,z14 (hne2 o j rfl)]
          | _=>rfl
  · have:o≠d:=by omega
    rw[hβ o this]; exact h.bp o ho

section
variable {P:Program} {τ:TypeId→Option TI} {g0:G} {w0:World} {o:Oper} {st:St} {d:Nat}

def Dr(zero:List T)(j:Nat):K:=if kM zero j then .S else .N

theorem Sr(hT:bE P τ){t:TypeId}{i:TI}(hd:o.dst=some d)(hn:d<st.n)(ho:o.op= .alloc t)(hi:τ t=some i):pW P g0 w0 o st (st.alloc d i.zero (Dr i.zero)):=by
  intro a w ⟨g,hs⟩; obtain⟨info,dd,z,h1,h2,h3,h4,h5,h6,h7,h8,h9⟩:=hT.get hi; obtain⟨e,hz⟩:=kP h6; have hv:(execOp a.eval o).run P w= .ok (.value (.pointer (some ⟨w.heap.size,0,none⟩))) (w.alloc (.cells z.cells t)):=by
    obtain⟨dst,op,ty,pos,after,guard⟩:=o; simp only at ho; subst ho; simp only[execOp,Instr.alloc,zeroValue,typeInfo,Sem.run_bind,run_program,Result.andThen_ok,h1,Sem.run_pure,h5,newVar,newRow,run_newObj,World.alloc_eq]
  refine⟨_,_,hv, .inl ⟨_,rfl,g.alloc d w.heap.size, ?_⟩⟩
  rw[hd]; refine hs.alloc hn z.cells t i.zero (Dr i.zero) (by simpa using e) (fun j x hx=> ?_)
  obtain⟨v,hv,hc⟩:=hz j x hx; obtain⟨c1,c2⟩:=rJ hc; refine⟨v,by simpa using hv,(c1 (fun _=>False) w).not_agg, ?_⟩
  unfold Dr kM; rw[hx]; simp only; by_cases hs:scal x=true
  · rw[z19 hs]; exact⟨hs,c1 _ _⟩
  · rw[z14 hs]; exact Bg hc (by simpa using hs)

def aV:V→Option (List T)
  | .one (.c x)=>some [x]
  | .one (.ag xs)=>some xs
  | _=>none

theorem iI{g:G}{w:World}{κ:Nat→Nat→K}{l:Nat→Nat→Loc}{u:Value}{r:V}{xs:List T}(h:RV g w κ l u r)(hc:aV r=some xs):u.cells.size=xs.length∧(∀(j:Nat) x,xs[j]? =some x→ ∃c,u.cells[j]? =some c∧oQ c∧LF g w (κ 0 j) (l 0 j) c x)∧
    (∀j,(j:Nat)<xs.length→sH u 0 j=u.cells[j]?)∧(∀j,r.leaf 0 j=xs[j]?)∧aI r= .none:=by
  unfold aV at hc; split at hc
  · rename_i x
    simp only[z10]at hc; subst hc; have hcells:u.cells= #[u]:=by
      have:=h.1.1; cases u<;>first | rfl | exact absurd rfl (this _)
    rw[hcells]; refine⟨rfl,fun j y hy=> ?_,fun j hj=> ?_,fun j=> ?_,rfl⟩
    · cases j with
      | zero=>simp only[z24,z10]at hy; subst hy; exact⟨u,rfl,h.1,h.2⟩
      | succ j=>simp at hy
    · have hj0:j=0:=by simpa using hj
      subst hj0; exact(iQ h.1).2
    · cases j<;>rfl
  · rename_i ys
    simp only[z10]at hc; subst hc; obtain⟨cs,rfl,h2,h3⟩:=h; exact⟨h2,h3,fun j hj=>rfl,fun j=>rfl,rfl⟩
  · cases hc

theorem aAB{t:Nat}{ty:TypeId}{xs:List T}(M:List Nat)(hd:o.dst=some d)(hn:d<st.n)(ho:o.op= .box ty (.tmp t))(hc:aV (st.sl t)=some xs)(hne:t≠d)(hM: ∀j∈M,j<xs.length):
    pW P g0 w0 o st ((st.alloc d xs (fun j=>(st.fl (.s t 0 j)).cp)).mvs (M.map fun j=>(.s t 0 j, .oc d j))):=by
  intro a w ⟨g,hs⟩; have hrv:RV g w (fun k j=>(st.fl (.s t k j)).cp) (fun _ j=> .oc d j) (a.tmps.getD t undef) (st.sl t):=(hs.slots t).cp hs.ok (fun _ _=>rfl)
  obtain⟨k1,k2,k3,k4,k5⟩:=iI hrv hc; have hev:a.eval (.tmp t)=a.tmps.getD t undef:=rfl; have hv:(execOp a.eval o).run P w= .ok (.value (.pointer (some ⟨w.heap.size,0,none⟩))) (w.alloc (.cells (a.tmps.getD t undef).cells ty)):=by
    obtain⟨dst,op,ty',pos,after,guard⟩:=o; simp only at ho; subst ho; simp only[execOp,Instr.box,hev,newVar,newRow,Sem.run_bind,run_newObj,World.alloc_eq,Result.andThen_ok,Sem.run_pure]
  refine⟨_,_,hv, .inl ⟨_,rfl, ?_⟩⟩
  rw[hd]; have hd':d<a.tmps.size:=by rw[hs.size]; exact hn
  have h1:=hs.alloc hn (a.tmps.getD t undef).cells ty xs (fun j=>(st.fl (.s t 0 j)).cp) k1 k2
  obtain⟨g',_,h2⟩:=h1.mvs (M.map fun j=>(.s t 0 j, .oc d j)) (fun m hm=>by
    obtain⟨j,hjm,rfl⟩:=z50.1 hm; have hj:=hM j hjm; have e1:(st.alloc d xs (fun j=>(st.fl (.s t 0 j)).cp)).at (.s t 0 j)=xs[j]? :=by
      simp only[St.at,atL,St.alloc,z14 hne,V.kill_leaf]; exact k4 j
    refine⟨rfl,rfl,by simp, ?_,⟨xs[j],by rw[e1]; exact z12 hj⟩, ?_⟩
    · rw[e1]
      simp [St.at,atL,St.alloc]
    · simp only[vAt]
      rw[Act.put_getD a d _ t hd',z14 hne,k3 j hj]; have hb:(g.alloc d w.heap.size).β d=w.heap.size:=by simp [G.alloc]
      rw[hb]; exact cV _ _ _ _ _ _ (heap_alloc_new w _))
  exact⟨g',h2⟩

def St.write(st:St)(o p:Nat)(xs cells:List T)(κ:Nat→K):St:=
  { n:=st.n
    sl:=st.sl
    ob:=fun o'=>if o'=o then some (cells.take p++xs++cells.drop (p+xs.length))else st.ob o'
    fl:=fun l=>match l with
      | .s i k j=>if k=0∧j=0∧wA o (aI (st.sl i))=true then .D else st.fl (.s i k j)
      | .oc o' j=>if o'=o∧p≤j∧j<p+xs.length then κ (j - p)else st.fl (.oc o' j)
      | l=>st.fl l }

theorem sD{α:Type}(l xs:List α)(p:Nat)(h:p+xs.length≤l.length)(j:Nat):(l.take p++xs++l.drop (p+xs.length))[j]? =if p≤j∧j<p+xs.length then xs[j - p]? else l[j]? :=by
  have hp:(l.take p).length=p:=by simp; omega
  by_cases h1:j<p
  · rw[z14 (by omega),z56,z74 (by omega),z79,z19 h1]
  · by_cases h2:j<p+xs.length
    · rw[z19 (by omega),z74 (by simp; omega),z70 (by omega),hp]
    · rw[z14 (by omega),z70 (by simp; omega),z45]
      congr 1
      simp; omega

theorem oN{w:World}{b p:Nat}{ty:TypeId}{arr:Array Value}(hb:w.heap[b]? =some (.cells arr ty (0,0)))(vs:List Value)(hle:p+vs.length≤arr.size)(h1: ∀v∈vs,v.oneCell'=true):
    ∃w',(storeCells ⟨b,p,none⟩ vs).run P w= .ok () w'∧w'.heap[b]? =some (.cells (arr.toList.take p++vs++arr.toList.drop (p+vs.length)).toArray ty (0,0))∧(∀k,k≠b→w'.heap[k]? =w.heap[k]?)∧w'.heap.size=w.heap.size∧w'.os=w.os∧w'.tape=w.tape∧w'.output=w.output:=by
  have h:=run_storeCells_at P b p ty vs 0 arr w hb (by omega) h1
  simp only[z75]at h; refine⟨_,h,setRow_heap w b arr _ ty _ hb,fun k hk=>setRow_other w b k _ (fun e=>hk e),by simp,rfl,rfl,rfl⟩

theorem pT{c:Value}(h:oQ c):c.oneCell'=true:=by
  cases c<;>first | rfl | exact absurd rfl (h.1 _) | exact absurd rfl (h.2 _)

theorem cC.write{a:Act}{g:G}{w:World}(hs:cC g0 w0 st a g w){ob p:Nat}{cells xs:List T}{κ:Nat→K}(hc:st.ob ob=some cells)(hle:p+xs.length≤cells.length){vs:List Value}(hlen:vs.length=xs.length)
    (hx: ∀(j:Nat) x,xs[j]? =some x→ ∃c,vs[j]? =some c∧oQ c∧LF g w (κ j) (.oc ob (p+j)) c x):
    ∃w',(storeCells ⟨g.β ob,p,none⟩ vs).run P w= .ok () w'∧cC g0 w0 (st.write ob p xs cells κ) a g w'∧ ∀j,w'.cell? ⟨g.β ob,j,none⟩=if p≤j∧j<p+xs.length then vs[j - p]? else w.cell? ⟨g.β ob,j,none⟩:=by
  obtain⟨arr,ty,r1,r2,r3,r5⟩:=hs.obs ob cells hc; have h1: ∀v∈vs,v.oneCell'=true:=fun v hv=>by
    obtain⟨j,hj⟩:=z60 hv
    have hjl:j<xs.length:=by
      rcases Qe j xs.length with h | h
      · exact h
      · rw[z62 (by omega)]at hj; cases hj
    obtain⟨c,hc1,hc2,_⟩:=hx j xs[j] (z12 hjl)
    rw[hj]at hc1; cases hc1; exact pT hc2
  obtain⟨w',s1,s2,s3,s4,s5,s6,s7⟩:=oN (P:=P) r1 vs (by rw[hlen,r2]; exact hle) h1
  rw[hlen]at s2; have hcell: ∀j,w'.cell? ⟨g.β ob,j,none⟩=if p≤j∧j<p+xs.length then vs[j - p]? else w.cell? ⟨g.β ob,j,none⟩:=by
    intro j; rw[cV w' _ j _ _ _ s2,cV w _ j _ _ _ r1]; have:=sD arr.toList vs p (by rw[hlen]; simp [r2]; exact hle) j
    rw[hlen]at this; simpa using this
  refine⟨w',s1, ?_,hcell⟩
  have hE:Evo g w g w' (fun l=>l= .obj ob):=⟨by omega,fun b _ hX=>⟨rfl,s3 b (fun e=>hX (by rw[e]; exact r3))⟩⟩
  have hA: ∀b,all g w b→all g w' b∧w'.heap[b]? =w.heap[b]? :=fun b hb=>⟨⟨by rw[s4]; exact hb.1,hb.2⟩,s3 b (fun e=>hb.2 ob (by rw[e]; exact r3))⟩
  have hn: ¬ (Loc.none= .obj ob):=by simp
  have hlf: ∀ {κ:K} {l:Loc} {v:Value} {x:T},l.place=true→LF g w κ l v x→LF g w' κ l v x:=fun hl hf=>LF.evo hE hs.ok (Loc.place_ne hl).1 hn (fun _=>(Loc.place_ne hl).2.2 ob) (fun _=>hA) hf
  have hcpr: ∀ {κ:K} {b off:Nat} {xs:List T},CpR g w κ b off xs→CpR g w' κ b off xs:=fun hc=>hc.evo hE hn (.inr (.inr hA))
  have hfl: ∀i k j, ¬ (k=0∧aI (st.sl i)≠ .none)→(st.write ob p xs cells κ).fl (.s i k j)=st.fl (.s i k j):=by
    intro i k j hr; simp only[St.write]; rw[z14]; rintro ⟨rfl,rfl,h3⟩
    apply hr
    refine⟨rfl,fun e=> ?_⟩
    rw[e]at h3; simp [wA]at h3
  refine⟨⟨s5.trans hs.framed.os,s6.trans hs.framed.tape,s7.trans hs.framed.output,hs.framed.evo.trans (hE.mono fun l hl=>by subst hl; simp [qN])⟩,⟨fun b hb=>by rw[s4]; exact hs.ok.own b hb⟩,hs.size,hs.defers,fun i=> ?_,fun o' cells' hc'=> ?_,fun i hi hf=> ?_,hs.bp,hs.nle⟩
  · refine(hs.slots i).map (fun _=>rfl) (fun k j t u hj _ _ hf=> ?_) (fun k xs hx b off hc=> ?_)
    · rw[hfl i k j]
      · exact hlf rfl hf
      · rintro ⟨rfl,hr⟩
        have hj':(st.sl i).leaf 0 j=some t:=hj; cases hsl:st.sl i with
        | one y=>rw[hsl]at hr hj'; cases y<;>first | exact hr rfl | simp [V.leaf,W.leaf]at hj'
        | tup ws=>rw[hsl]at hr; exact hr rfl
    · rw[hfl i k 0 (PZ hx)]
      exact hcpr hc
  · by_cases e:o'=ob
    · subst e
      have hc2:cells'=cells.take p++xs++cells.drop (p+xs.length):=by simpa [St.write]using hc'.symm
      subst hc2; refine⟨_,ty,s2, ?_,r3,fun j z hz=> ?_⟩
      · simp only[Tf,z17,z64,z77,z55,hlen,r2]
      · rw[sD cells xs p hle j]at hz
        have:=sD arr.toList vs p (by rw[hlen]; simp [r2]; exact hle) j
        rw[hlen]at this; by_cases hin:p≤j∧j<p+xs.length
        · rw[z19 hin]at hz this
          obtain⟨c,hc1,hc2,hc3⟩:=hx _ z hz; have e1:(st.write o' p xs cells κ).fl (.oc o' j)=κ (j - p):=by simp [St.write,hin]
          refine⟨c,by rw[z90,this]; exact hc1,hc2, ?_⟩
          rw[e1]; rw[show p+(j - p)=j by omega]at hc3
          exact hlf rfl hc3
        · rw[z14 hin]at hz this
          obtain⟨c,hc1,hc2,hc3⟩:=r5 _ z hz; have e1:(st.write o' p xs cells κ).fl (.oc o' j)=st.fl (.oc o' j):=by
            simp only[St.write]; rw[z14 (fun h=>hin h.2)]
          refine⟨c,by rw[z90,this,z27]; exact hc1,hc2, ?_⟩
          rw[e1]; exact hlf rfl hc3
    · have hc2:st.ob o'=some cells':=by simpa [St.write,e]using hc'
      obtain⟨arr',ty',f1,f2,f3,f5⟩:=hs.obs o' cells' hc2; have hne:g.β o'≠g.β ob:=fun h=>by
        rw[h,r3]at f3; exact e (Loc.obj.inj f3).symm
      refine⟨arr',ty',(s3 _ hne).trans f1,f2,f3,fun j z hz=> ?_⟩
      obtain⟨c,c1,c2,c3⟩:=f5 j z hz; have e1:(st.write ob p xs cells κ).fl (.oc o' j)=st.fl (.oc o' j):=by simp [St.write,e]
      exact⟨c,c1,c2,by rw[e1]; exact hlf rfl c3⟩
  · have hi':aI (st.sl i)≠ .none:=hi
    have hf1:wA ob (aI (st.sl i))=false∧st.fl (.s i 0 0)≠ .D:=by
      simp only[St.write,Nv]at hf; by_cases hs:wA ob (aI (st.sl i))=true
      · rw[z19 hs]at hf; exact absurd rfl hf
      · rw[z14 hs]at hf; exact⟨by simpa using hs,hf⟩
    obtain⟨p1,p2⟩:=hs.pls i hi' hf1.2; obtain⟨t,ht⟩:=p2.root hi'; have hne2: ∀o j,aI (st.sl i)= .oc o j→o≠ob:=fun o j e1 e2=>by subst e2; rw[e1]at hf1; simp [wA]at hf1
    show((st.write ob p xs cells κ).fl (aI (st.sl i))).hold=true∧Ga _ _ _ _ _ (st.sl i); refine⟨?_,p2.congr ?_ ?_ (fun v0 x0 p v' x' e1 e2 hp=>hs.pl_evo hE hn p1 ((Loc.place_ne (at_isPlace ht)).2.2 ob) e1 e2 hp)⟩
    · have:(st.write ob p xs cells κ).fl (aI (st.sl i))=st.fl (aI (st.sl i)):=by
        generalize hr:aI (st.sl i)=l at*; cases l with
        | s i' k j=>
          refine hfl i' k j ?_
          rintro ⟨rfl,h2⟩
          rw[St.at_s]at ht; cases hsl:st.sl i' with
          | one y=>rw[hsl]at h2 ht; cases y<;>first | exact h2 rfl | simp [V.leaf,W.leaf]at ht
          | tup ws=>rw[hsl]at h2; exact h2 rfl
        | oc o j=>simp [St.write,hne2 o j rfl]
        | _=>rfl
      rw[this]; exact p1
    · generalize hr:aI (st.sl i)=l at*
      cases l with
      | oc o j=>
        simp only[vAt]; simp only[St.at,atL,z22]at ht; obtain⟨cells',hc',_⟩:=ht; obtain⟨arr',ty',k1,k2,k3,k4⟩:=hs.obs o cells' hc'; exact cN (s3 _ (fun h=>by rw[h,r3]at k3; exact hne2 o j rfl (Loc.obj.inj k3).symm))
      | _=>rfl
    · generalize hr:aI (st.sl i)=l at*
      cases l with
      | oc o j=>simp only[St.at,atL,St.write,z14 (hne2 o j rfl)]
      | _=>rfl

theorem Rj(hT:bE P τ){t:TypeId}{x y:Operand}{i:TI}{ob p:Nat}{cells xs:List T}(M:List (Nat×Nat))(hd:o.dst=none)(ho:o.op= .store t x y)(hi:τ t=some i)(hx:ev st.sl x= .one (.ptr ob p))(hc:st.ob ob=some cells)
    (hy:aV (ev st.sl y)=some xs)(hsz:xs.length=i.size)(hle:p+xs.length≤cells.length)(hM: ∀m∈M,m.2<xs.length∧y= .tmp m.1):
    pW P g0 w0 o st ((st.write ob p xs cells (opK st y 0)).mvs (M.map fun m=>(.s m.1 0 m.2, .oc ob (p+m.2)))):=by
  intro a w ⟨g,hs⟩; have h1:=hs.ev_rv x (fun _ _=> .none)
  rw[hx]at h1; have e1:a.eval x= .pointer (some ⟨g.β ob,p,none⟩):=h1; obtain⟨k1,k2,k3,k4,k5⟩:=iI (hs.ev_rv y (fun _ j=> .oc ob (p+j))) hy
  obtain⟨info,_,_,q1,_,q3,_⟩:=hT.get hi; obtain⟨w',s1,h2,hcell⟩:=hs.write (P:=P) hc hle (vs:=(a.eval y).cells.toList) (by simpa using k1) (fun j z hz=>by
    obtain⟨c,c1,c2,c3⟩:=k2 j z hz; exact⟨c,by rw[z27]; exact c1,c2,c3⟩)
  have hv:(execOp a.eval o).run P w= .ok .skip w':=by
    obtain⟨dst,op,ty',pos,after,guard⟩:=o; simp only at ho; subst ho; have hne: ¬ (a.eval y).cells.size≠info.size:=by rw[k1,q3,hsz]; simp
    simp only[execOp,Instr.storeAt,e1,Instr.sureAddr,Sem.run_bind,Sem.run_pure,Result.andThen_ok,storeVar,sizeOf,typeInfo,run_program,q1,z14 hne,s1]
  refine⟨_,_,hv, .inr ⟨rfl, ?_⟩⟩
  rw[hd]; obtain⟨g',_,h3⟩:=h2.mvs (M.map fun m=>(.s m.1 0 m.2, .oc ob (p+m.2))) (fun m hm=>by
    obtain⟨m',hm',rfl⟩:=z50.1 hm; obtain⟨m1,m2⟩:=hM m' hm'; have e2:st.at (.s m'.1 0 m'.2)=xs[m'.2]? :=by
      have:=k4 m'.2; rw[m2]at this; exact this
    refine⟨rfl,rfl,by simp, ?_,⟨xs[m'.2],by show st.at (.s m'.1 0 m'.2)=_; rw[e2]; exact z12 m1⟩, ?_⟩
    · show _=st.at (.s m'.1 0 m'.2)
      rw[e2]; simp only[St.at,atL,St.write,if_true,z8]; rw[sD cells xs p hle,z19 (by omega),z82]
    · simp only[vAt]
      rw[hcell,z19 (by omega),z82,z27, ←k3 m'.2 m1,m2]
      rfl)
  exact⟨g',h3⟩
end
end Go.Own

namespace Go.Own
open Go.RowKit

section
variable {P:Program} (w:World)

theorem FT(t u ty e:TypeId)(du:TypeDesc)(i:TypeInfo)(z:Value)(ht:P.underlying t=some (.slice e))(hu:P.underlying u=some du)(hdu: ∀k,du≠ .int k)(hi:P.info? e=some i)(hz:i.zero=some z)
  (a:Option Addr)(n1 c1 n2:Nat)(x:Value)(olds news:List Value)(h1:(Builtin.firstCells i.size n1 (.slice a n1 c1)).run P w.drew= .ok olds.toArray w.drew)(h2:(Builtin.firstCells i.size n2 x).run P w.drew= .ok news.toArray w.drew)
  (hx: ∀w':World,(Builtin.lenOf x).run P w'= .ok n2 w')(hg:c1<n1+n2)(h63:n1+n2≤maxLen)(hb:(n1+n2)*i.bytes≤140737488355328):
  (Builtin.append_ #[t,u] ty #[.slice a n1 c1,x]).run P w=
   .ok (.slice (some ⟨w.heap.size,0,none⟩) (n1+n2) (grownCap w (n1+n2) c1 e))
    (w.drew.alloc (.cells ((olds++news).toArray++Builtin.zeroCells z.cells (grownCap w (n1+n2) c1 e - (n1+n2))) e)):=by
 have hn: ¬ (n1+n2≤c1):=by omega
 have h63': ¬ (9223372036854775807<((n1:Int)+(n2:Int))):=by simp only[maxLen]at h63; omega
 have hfit:=growslice_fits hg hb; have h48': ¬ (281474976710656<Builtin.nextslicecap (n1+n2) c1*i.bytes):=by omega
 simp [Builtin.append_,run_underlying ht,run_underlying hu,sizeOf,typeInfo,zeroValue,hi,hz,hx,hn,h63',h48',Question.forced,h1,h2,newRow,grownCap]; congr 2
 apply Nw
 simp

theorem FR(t u ty e:TypeId)(du:TypeDesc)(i:TypeInfo)(ht:P.underlying t=some (.slice e))(hu:P.underlying u=some du)(hdu: ∀k,du≠ .int k)(hi:P.info? e=some i)
  (b:Nat)(n1 c1 n2:Nat)(x:Value)(news:List Value)(h2:(Builtin.firstCells i.size n2 x).run P w= .ok news.toArray w)(hx: ∀w':World,(Builtin.lenOf x).run P w'= .ok n2 w')(hg:n1+n2≤c1)
  (w':World)(hst:(storeCells ⟨b,n1*i.size,none⟩ news).run P w= .ok () w'):
  (Builtin.append_ #[t,u] ty #[.slice (some ⟨b,0,none⟩) n1 c1,x]).run P w= .ok (.slice (some ⟨b,0,none⟩) (n1+n2) c1) w':=by
 simp [Builtin.append_,run_underlying ht,run_underlying hu,sizeOf,typeInfo,hi,hx,hg,h2,kR,hst]

theorem FS(t u ty e:TypeId)(du:TypeDesc)(i:TypeInfo)(ht:P.underlying t=some (.slice e))(hu:P.underlying u=some du)(hdu: ∀k,du≠ .int k)(hi:P.info? e=some i)
  (a:Option Addr)(c1:Nat)(x:Value)(h2:(Builtin.firstCells i.size 0 x).run P w= .ok #[] w)(hx: ∀w':World,(Builtin.lenOf x).run P w'= .ok 0 w'):
  (Builtin.append_ #[t,u] ty #[.slice a 0 c1,x]).run P w= .ok (.slice a 0 c1) w:=by
 cases a<;>simp [Builtin.append_,run_underlying ht,run_underlying hu,sizeOf,typeInfo,hi,hx,h2,storeCells]
end

theorem Hf{es:List (List T)}{s:Nat}(h: ∀e∈es,e.length=s):es.flatten.length=es.length*s:=by
 induction es with
 | nil=>simp
 | cons e r ih=>
  rw[List.flatten_cons,z17,ih (fun x hx=>h x (z29 _ hx)),h e z34,z51,z99]
  omega

theorem Sb{es:List (List T)}{s:Nat}(h: ∀e∈es,e.length=s): ∀ {i:Nat} {e:List T} {j:Nat},es[i]? =some e→j<s→es.flatten[i*s+j]? =e[j]? :=by
 induction es with
 | nil=>intro i e j h1; simp at h1
 | cons x r ih=>
  intro i e j h1 hj; have hx:=h x z34; rw[List.flatten_cons]; cases i with
  | zero=>
   simp only[z24,z10]at h1
   subst h1; rw[z74 (by omega)]; simp
  | succ i=>
   simp only[z25]at h1
   rw[z70 (by rw[hx,z96]; omega),hx]
   have:(i+1)*s+j - s=i*s+j:=by rw[z96]; omega
   rw[this]; exact ih (fun y hy=>h y (z29 _ hy)) h1 hj

theorem Md{es:List (List T)}{s:Nat}(h: ∀e∈es,e.length=s){k:Nat}{x:T}(hk:es.flatten[k]? =some x): ∃(i:Nat) (e:List T) (j:Nat),es[i]? =some e∧e[j]? =some x∧j<s∧k=i*s+j:=by
 have hlt:k<es.flatten.length:=by
  rcases Qe k es.flatten.length with h1 | h1
  ·exact h1
  ·rw[z62 h1]at hk; cases hk
 rw[Hf h]at hlt; have hs:0<s:=by
  rcases z151 s with h0 | h0
  ·subst h0; simp at hlt
  ·exact h0
 have hi:k / s<es.length:=(Nat.div_lt_iff_lt_mul hs).2 hlt; have hj:k % s<s:=TZ _ hs; have hkk:k=k / s*s+k % s:=by rw[Ta]; exact(Nat.div_add_mod k s).symm
 refine⟨k / s,es[k / s],k % s,z12 hi, ?_,hj,hkk⟩
 have:=Sb h (z12 hi) hj
 rw[←hkk,hk]at this; exact this.symm

theorem bV{α:Type}{l:List α}{i:Nat}{x:α}(h:l[i]? =some x):x∈l:=z20 h

theorem cR{α:Type}{l:List α}{i:Nat}{x:α}(h:l[i]? =some x):i<l.length:=by
 rcases Qe i l.length with h1 | h1
 ·exact h1
 ·rw[z62 h1]at h; cases h

theorem Fj{i n s j:Nat}(hi:i<n)(hj:j<s):i*s+j<n*s:=by
 have:(i+1)*s≤n*s:=z57 _ hi; rw[z99]at this; omega

structure Tn (w:World) (v:Value) (n s:Nat) (news:List Value):Prop where
 len:news.length=n*s
 first: ∀(P:Program) (w':World),w'.heap=w.heap→(Builtin.firstCells s n v).run P w'= .ok news.toArray w'
 lenOf: ∀(P:Program) (w':World),(Builtin.lenOf v).run P w'= .ok n w'

theorem Dk{Q:Nat→Prop}{w:World}{v:Value}{es:List (List T)}{s:Nat}(h:Rd Q w v (.sl es))(hs: ∀e∈es,e.length=s):
  ∃news:List Value,Tn w v es.length s news∧(∀(i:Nat) e (j:Nat) x,es[i]? =some e→e[j]? =some x→ ∃c,news[i*s+j]? =some c∧oQ c∧Rd Q w c x)∧
   ∀b off len cap,v= .slice (some ⟨b,off,none⟩) len cap→ ∀k:Nat,k<es.length*s→news[k]? =w.cell? ⟨b,off+k,none⟩:=by
 cases h with
 | nil a cap=>
  refine⟨[],⟨by simp,fun P w' _=> ?_,fun P w'=>rfl⟩,fun i e j x h=>by simp at h,fun b off len cap _ k hk=>by simp at hk⟩
  cases a<;>simp [Builtin.firstCells,loadCells,loadCellsFrom]
 | sl b off len cap s' _ cs hl hc hs2 hP hm hr=>
  have hlen:=Hf hs; let news:List Value:=(List.range (es.length*s)).map fun k=>(w.cell? ⟨b,off+k,none⟩).getD undef
  have hj: ∀(i:Nat) e (j:Nat) x,es[i]? =some e→e[j]? =some x→j<s∧s'=s:=fun i e j x he hx=>by
   have e1:=hs e (bV he); have e2:=hs2 i e he; exact⟨by have:=cR hx; omega,by omega⟩
  have hcell: ∀k,k<es.length*s→ ∃c,w.cell? ⟨b,off+k,none⟩=some c:=by
   intro k hk; obtain⟨i,e,j,h1,h2,h3,rfl⟩:=Md hs (z12 (by rw[hlen]; exact hk):es.flatten[k]? =_)
   have h4:=(hj i e j _ h1 h2).2; subst h4; exact⟨_,by rw[←z81]; exact hm i e j _ h1 h2⟩
  have hget: ∀k,k<es.length*s→news[k]? =w.cell? ⟨b,off+k,none⟩:=by
   intro k hk; obtain⟨c,hc⟩:=hcell k hk; simp [news,Xk hk,hc]
  refine⟨news,⟨by simp [news],fun P w' hw'=> ?_,fun P w'=>by simp [Builtin.lenOf,hl]⟩,fun i e j x he hx=> ?_,fun b' off' len' cap' he k hk=> ?_⟩
  ·refine run_firstCells_some w' s es.length ⟨b,off,none⟩ len cap news (by simp [news]) (fun j v hv=> ?_)
   have hlt:j<es.length*s:=by
    have:=cR hv; simpa [news]using this
   rw[kR]; have:w'.cell? ⟨b,off+j,none⟩=w.cell? ⟨b,off+j,none⟩:=by simp [World.cell?,hw']
   rw[this, ←hget j hlt]; exact hv
  ·obtain⟨h1,h2⟩:=hj i e j x he hx
   subst h2; refine⟨cs i j, ?_,(hr i e j x he hx).not_agg,hr i e j x he hx⟩
   rw[hget _ (Fj (cR he) h1), ←z81]; exact hm i e j x he hx
  ·simp only[Value.slice.injEq,z10,Addr.mk.injEq]at he
   obtain⟨⟨rfl,rfl,_⟩,_,_⟩:=he; exact hget k hk

def tO(s:List UInt8):List (List T):=s.map fun b=> [.int .u8 (b.toNat:Int)]

theorem Ri(w:World)(a:ByteArray): ∃news:List Value,Tn w (.string a) (tO a.data.toList).length 1 news∧ ∀(i:Nat) e (j:Nat) x,(tO a.data.toList)[i]? =some e→e[j]? =some x→ ∃n,news[i*1+j]? =some (.int .u8 n)∧x= .int .u8 n:=by
 have hsz:a.data.toList.length=a.size:=z55; refine⟨a.data.toList.map fun b=> .int .u8 (b.toNat:Int),⟨by simp [tO],fun P w' _=> ?_,fun P w'=>by simp only[Builtin.lenOf,Sem.run_pure,tO,z66,hsz]⟩,fun i e j x he hx=> ?_⟩
 ·simp only[Builtin.firstCells,Sem.run_pure,tO,z66]
  congr 1
  have:a.extract 0 a.data.toList.length=a:=by rw[hsz]; simp
  rw[this]; apply Nw
  simp
 ·simp only[tO,z30,z26]at he
  obtain⟨b,hb,rfl⟩:=he; cases j with
  | zero=>
   simp only[z24,z10]at hx
   subst hx; exact⟨_,by simp [hb],rfl⟩
  | succ j=>simp at hx

structure Hl (g:G) (w:World) (l1 l2 L:Loc) (f:Bool) (s:Nat) (es:List (List T)) (v':Value) (g':G) (w':World):Prop where
 os:w'.os=w.os
 tape:w'.tape=w.tape
 output:w'.output=w.output
 ok:GOk g' w'
 β: ∀o,g'.β o=g.β o
 evo:Evo g w g' w' (fun l=>(l=l1∨l=l2)∧l.place=true)
 ow:Ow (frz g' w') f w' (some s) (fun b=>g'.own b=L) v' (.sl es)

def G.app(g:G)(l1 l2 L:Loc)(nb:Nat):G:=
 { β:=g.β,own:=fun b=>if b=nb then L else if(g.own b=l1∨g.own b=l2)∧(g.own b).place=true then L else g.own b }

theorem Nf{P:Program}{g:G}{w:World}(hok:GOk g w){l1 l2 L:Loc}{f:Bool}{v1 x:Value}{es1 es2:List (List T)}{s:Nat}{news:List Value}(h1:Ow (frz g w) f w (some s) (fun b=>g.own b=l1∧l1.place=true) v1 (.sl es1))(hL:L.place=true)
  (hl1: ∀e∈es1,e.length=s)(hs2: ∀e∈es2,e.length=s)(hpos:0<s)(hN:Tn w x es2.length s news)
  (hc2: ∃own2:Nat→Nat×Nat, ∀(i:Nat) e (j:Nat) y,es2[i]? =some e→e[j]? =some y→ ∃c,news[i*s+j]? =some c∧oQ c∧Ow (frz g w) f w none (fun k=>(g.own k=l2∧l2.place=true∧l2≠l1)∧own2 k=(i,j)) c y)
  (t u ty e:TypeId)(du:TypeDesc)(i:TypeInfo)(z:Value)(ht:P.underlying t=some (.slice e))(hu:P.underlying u=some du)(hdu: ∀k,du≠ .int k)(hi:P.info? e=some i)(hz:i.zero=some z)(hsz:i.size=s)(hzs:z.cells.size=s)
  (h63:es1.length+es2.length≤maxLen)(hb:(es1.length+es2.length)*i.bytes≤140737488355328):
  ∃v' g' w',(Builtin.append_ #[t,u] ty #[v1,x]).run P w= .ok v' w'∧Hl g w l1 l2 L f s (es1++es2) v' g' w':=by
 subst hsz; obtain⟨own2,hc2⟩:=hc2; have hLn:=Loc.place_ne hL; have hall: ∀e∈es1++es2,e.length=i.size:=fun e he=>(z91.1 he).elim (hl1 e) (hs2 e)
 have hrd1:Rd (fun _=>True) w v1 (.sl es1):=h1.rd (fun _ _=>trivial) (fun _ _=>trivial)
 obtain⟨olds,o1,o2,o5⟩:=Dk hrd1 hl1; have hlenall:(es1++es2).length=es1.length+es2.length:=z17
 obtain⟨own1,b1,hu1⟩: ∃(own1:Nat→Nat×Nat) (b1:Nat→Prop),(∀k cap,v1= .slice (some ⟨k,0,none⟩) es1.length cap→es1≠[]→b1 k)∧ ∀(i':Nat) e (j:Nat) y,es1[i']? =some e→e[j]? =some y→ ∃c,olds[i'*i.size+j]? =some c∧oQ c∧
   Ow (frz g w) f w none (fun k=>(g.own k=l1∧l1.place=true)∧ ¬ b1 k∧own1 k=(i',j)) c y:=by
  cases h1 with
  | nil t F a=>exact⟨fun _=>(0,0),fun _=>False,fun k cap _ h=>absurd rfl h,fun i' e j y h=>by simp at h⟩
  | sl t F b len1 cap1 s1 arr1 ty1 _ own1 cs1 ht1 hb1 hh1 hl1' hc1 hcap1 hs1 ha1 hm1 hr1=>
   refine⟨own1,fun k=>k=b,fun k cap hv _=> ?_,fun i' e j y he hy=> ?_⟩
   ·simp only[Value.slice.injEq,z10,Addr.mk.injEq]at hv
    exact hv.1.1.symm
   ·have es:s1=i.size:=(hs1 i' e he).symm.trans (hl1 e (bV he))
    subst es; have hj:j<i.size:=by have:=cR hy; have:=hl1 e (bV he); omega
    have h2:=o5 b 0 len1 cap1 rfl _ (Fj (cR he) hj); rw[z28,cV w b _ arr1 ty1 (0,0) hh1,hm1 i' e j y he hy]at h2; refine⟨cs1 i' j,h2,((hr1 i' e j y he hy).rd (P:=fun _=>True) (fun _ _=>trivial) (fun _ _=>trivial)).not_agg,(hr1 i' e j y he hy).mono id (fun _ b hb=>⟨hb,rfl⟩) (fun k hk=>⟨hk,rfl⟩)⟩
 have hplace: ∀k,(g.own k=l1∧l1.place=true)∨(g.own k=l2∧l2.place=true)→k<w.heap.size∧(g.own k).place=true:=fun k hk=>by
  have:(g.own k).place=true:=by rcases hk with h | h<;>(rw[h.1]; exact h.2)
  exact⟨hok.own k (Loc.place_ne this).1,this⟩
 have fin: ∀(nb cap:Nat) (arr:Array Value) (bty:TypeId) (w':World),w'.os=w.os→w'.tape=w.tape→w'.output=w.output→w.heap.size≤w'.heap.size→
   (∀b,b<w.heap.size→b≠nb→w'.heap[b]? =w.heap[b]?)→nb<w'.heap.size→w'.heap[nb]? =some (.cells arr bty (0,0))→arr.size=cap*i.size→es1.length+es2.length≤cap→cap≤maxLen→
   (∀k,k<(es1.length+es2.length)*i.size→arr[k]? =(olds++news)[k]?)→(w.heap.size≤nb∨((g.own nb=l1∧l1.place=true)∧(es1≠[]→b1 nb)))→
   Hl g w l1 l2 L f i.size (es1++es2) (.slice (some ⟨nb,0,none⟩) (es1.length+es2.length) cap) (g.app l1 l2 L nb) w':=by
  intro nb cap arr bty w' hos htape hout hsize hold hnb hnbh harr hcap hcm harrk hwhose; have hnbp:nb<w.heap.size→(g.own nb).place=true∧g.own nb=l1:=fun h=>by
   rcases hwhose with h2 | h2
   ·omega
   ·exact⟨by rw[h2.1.1]; exact h2.1.2,h2.1.1⟩
  have hZ: ∀b,frz g w b→frz (g.app l1 l2 L nb) w' b∧w'.heap[b]? =w.heap[b]? :=by
   intro b hb; have hne:b≠nb:=by
    intro e; subst e; have:=(hnbp hb.1).1; rw[hb.2]at this; cases this
   refine⟨⟨by have:=hb.1; omega, ?_⟩,hold b hb.1 hne⟩
   show(if b=nb then L else if _ then L else g.own b)= .none
   rw[z14 hne,z14 (fun h=>by rw[hb.2]at h; cases h.2)]; exact hb.2
  refine⟨hos,htape,hout,⟨fun b hb=> ?_⟩,fun _=>rfl,⟨hsize,fun b hb hX=> ?_⟩, ?_⟩
  ·by_cases e:b=nb
   ·subst e; exact hnb
   ·have hb':(if b=nb then L else if(g.own b=l1∨g.own b=l2)∧(g.own b).place=true then L else g.own b)≠ .none:=hb
    rw[z14 e]at hb'; by_cases h2:(g.own b=l1∨g.own b=l2)∧(g.own b).place=true
    ·have:=hok.own b (Loc.place_ne h2.2).1; omega
    ·rw[z14 h2]at hb'
     have:=hok.own b hb'; omega
  ·have hne:b≠nb:=by
    intro e; subst e; obtain⟨q1,q2⟩:=hnbp hb; exact hX ⟨.inl q2,q1⟩
   refine⟨?_,hold b hb hne⟩
   show(if b=nb then L else if _ then L else g.own b)=g.own b
   rw[z14 hne,z14 hX]
  ·have hF: ∀k,(g.own k=l1∧l1.place=true)∨(g.own k=l2∧l2.place=true)→k≠nb→(g.app l1 l2 L nb).own k=L∧w'.heap[k]? =w.heap[k]? :=by
    intro k h2 h3; obtain⟨q1,q2⟩:=hplace k h2; refine⟨?_,hold k q1 h3⟩
    show(if k=nb then L else if _ then L else g.own k)=L
    rw[z14 h3,z19 ⟨h2.elim (fun h=> .inl h.1) (fun h=> .inr h.1),q2⟩]
   refine .sl _ _ nb _ cap i.size arr bty (es1++es2) (fun k=>if g.own k=l1 then own1 k else((own2 k).1+es1.length,(own2 k).2)) (fun i' j=>(arr[i'*i.size+j]?).getD undef) (by simp) (by simp [G.app]) hnbh hlenall hcap hcm
    (fun i' e he=>hall e (bV he)) harr (fun i' e j x he hx=> ?_) (fun i' e j x he hx=> ?_)
   all_goals
    have hj:j<i.size:=by have:=cR hx; have:=hall e (bV he); omega
    have hi':i'<es1.length+es2.length:=by have:=cR he; omega
    have hk':=Fj hi' hj; obtain⟨c,hac,hOw⟩: ∃c,arr[i'*i.size+j]? =some c∧Ow (frz (g.app l1 l2 L nb) w') f w' none (fun k=>(g.app l1 l2 L nb).own k=L∧k≠nb∧(if g.own k=l1 then own1 k else((own2 k).1+es1.length,(own2 k).2))=(i',j)) c x:=by
     rw[harrk _ hk']; by_cases hlt:i'<es1.length
     ·rw[z74 hlt]at he
      obtain⟨c,c1,c2,c3⟩:=hu1.2 i' e j x he hx; refine⟨c,by rw[z74 (by rw[o1.len]; exact Fj hlt hj)]; exact c1,c3.mono id (fun _=>hZ) (fun k hk=> ?_)⟩
      have hknb:k≠nb:=by
       intro e2; subst e2; rcases hwhose with h | h
       ·have:=(hplace k (.inl hk.1)).1; omega
       ·exact hk.2.1 (h.2 (fun e3=>by subst e3; simp at hlt))
      have:=hF k (.inl hk.1) hknb; exact⟨⟨this.1,hknb,by rw[z19 hk.1.1]; exact hk.2.2⟩,this.2⟩
     ·rw[z70 (by omega)]at he
      obtain⟨c,c1,c2,c3⟩:=hc2 (i' - es1.length) e j x he hx; have hle:es1.length*i.size≤i'*i.size:=z57 _ (by omega)
      have hsub:i'*i.size+j - olds.length=(i' - es1.length)*i.size+j:=by rw[o1.len,Nat.sub_mul]; omega
      refine⟨c,by rw[z70 (by rw[o1.len]; omega),hsub]; exact c1,c3.mono id (fun _=>hZ) (fun k hk=> ?_)⟩
      obtain⟨⟨q1,q2,q3⟩,q4⟩:=hk; have hknb:k≠nb:=by
       intro e2; subst e2; rcases hwhose with h | h
       ·have:=(hplace k (.inr ⟨q1,q2⟩)).1; omega
       ·exact q3 (q1.symm.trans h.1.1)
      have:=hF k (.inr ⟨q1,q2⟩) hknb; refine⟨⟨this.1,hknb, ?_⟩,this.2⟩
      rw[z14 (by rw[q1]; exact q3),q4]
      simp only[z41,Vg]; omega
   ·rw[hac]; rfl
   ·rw[hac]; exact hOw
 have hone: ∀v∈news,v.oneCell'=true:=by
  intro v hv; obtain⟨k,hk⟩:=z60 hv
  have hlt:k<es2.flatten.length:=by rw[Hf hs2, ←hN.len]; exact cR hk
  obtain⟨i',e,j,q1,q2,q3,rfl⟩:=Md hs2 (z12 hlt)
  obtain⟨c,c1,c2,_⟩:=hc2 i' e j _ q1 q2; rw[hk]at c1; cases c1; exact pT c2
 have grow: ∀(av:Option Addr) (c1:Nat),v1= .slice av es1.length c1→c1<es1.length+es2.length→
   ∃v' g' w',(Builtin.append_ #[t,u] ty #[v1,x]).run P w= .ok v' w'∧Hl g w l1 l2 L f i.size (es1++es2) v' g' w':=by
  intro av c1 hv1 hlt; have hrun:=FT (P:=P) w t u ty e du i z ht hu hdu hi hz av es1.length c1 es2.length x olds news (by rw[←hv1]; exact o1.first P w.drew rfl) (hN.first P w.drew rfl) (hN.lenOf P) hlt h63 hb
  have hge:=grownCap_ge w (es1.length+es2.length) c1 e; have hcm:=grownCap_le_maxLen w (es1.length+es2.length) c1 e h63; refine⟨_,_,w.drew.alloc (.cells ((olds++news).toArray++Builtin.zeroCells z.cells (grownCap w (es1.length+es2.length) c1 e - (es1.length+es2.length))) e),by rw[hv1]; exact hrun,fin w.heap.size (grownCap w (es1.length+es2.length) c1 e) _ e _ rfl rfl rfl (by simp) (fun b hb _=>heap_alloc_old w.drew _ b hb) (by simp) (heap_alloc_new w.drew _) ?_ hge hcm (fun k hk=> ?_) (.inl (z39 _))⟩
  ·simp only[Array.size_append,Tf,z17,size_zeroCells,hzs,o1.len,hN.len, ←z99]
   congr 1
   omega
  ·rw[Array.getElem?_append_left (by simp only[Tf,z17,o1.len,hN.len, ←z99]; exact hk)]
   simp
 have h1':=h1; cases h1 with
 | nil t' F av=>
  by_cases he2:es2=[]
  ·subst he2
   have hnews:news=[]:=z108 (by simpa using hN.len)
   have hrun:=FS (P:=P) w t u ty e du i ht hu hdu hi av 0 x (by have:=hN.first P w rfl; rw[hnews]at this; exact this) (hN.lenOf P)
   exact⟨_,g,w,hrun,rfl,rfl,rfl,hok,fun _=>rfl,Evo.refl _ _ _, .nil _ _ _⟩
  ·have h2:0<es2.length:=by cases es2 with | nil=>exact absurd rfl he2 | cons y r=>simp
   exact grow av 0 rfl (by simpa using h2)
 | sl t' F b len cap s' arr bty _ own cs hst hbo hbh hlen hlc hcm hs' harr hm hr=>
  subst hlen; have e0:s'=i.size:=hst _ rfl; subst e0; by_cases hroom:es1.length+es2.length≤cap
  ·have hle:es1.length*i.size+news.length≤arr.size:=by rw[hN.len,harr, ←z99]; exact z57 _ hroom
   obtain⟨w',s1,s2,s3,s4,s5,s6,s7⟩:=oN (P:=P) hbh news hle hone; have hrun:=FR (P:=P) w t u ty e du i ht hu hdu hi b es1.length cap es2.length x news (hN.first P w rfl) (hN.lenOf P) hroom w' s1
   refine⟨_,_,_,hrun,fin b cap _ bty w' s5 s6 s7 (by omega) (fun b' _ hb'=>s3 b' hb') (by rw[s4]; exact(z31.1 hbh).1) s2 ?_ hroom hcm (fun k hk=> ?_) (.inr ⟨hbo,fun hne=>hu1.1 b cap rfl hne⟩)⟩
   ·simp only[Tf,z17,z64,z77,z55]
    omega
   ·rw[z90,sD arr.toList news (es1.length*i.size) (by simpa using hle) k]
    rw[z99]at hk; by_cases hk1:k<es1.length*i.size
    ·rw[z14 (by omega),z74 (by rw[o1.len]; exact hk1),z27]
     have:=o5 b 0 _ _ rfl k hk1; rw[z28,cV w b k arr bty (0,0) hbh]at this; exact this.symm
    ·rw[z19 (by rw[hN.len]; omega),z70 (by rw[o1.len]; omega),o1.len]
  ·exact grow _ cap rfl (by omega)
end Go.Own

namespace Go.Own
open Go.RowKit

def St.lowO(st:St)(l:Loc):St:=if l.place then st.lower l .D else st

theorem Kj(st:St)(l m:Loc):(st.lowO l).at m=st.at m:=by unfold St.lowO; split<;>rfl
theorem TR(st:St)(l:Loc):(st.lowO l).n=st.n:=by unfold St.lowO; split<;>rfl
theorem PD{st:St}{l m:Loc}{x:T}(hx:st.at m=some x):(st.lowO l).fl m=if m=l∧l.place=true then .D else st.fl m:=by
 unfold St.lowO; by_cases hp:l.place=true
 ·rw[z19 hp]
  have:=xX (st:=st) (R:=fun m=>decide (m=l)) (f:=fun m=>if m=l then .D else st.fl m) (by simp [Ne.symm (Loc.place_ne hp).1]) hx
  unfold St.lower; rw[this]; by_cases e:m=l
  ·rw[z19 e,z19 ⟨e,hp⟩]
  ·rw[z14 e,z14 (fun h=>e h.1)]
 ·rw[z14 hp,z14 (fun h=>hp h.2)]

theorem cC.lowO{g0:G}{w0:World}{st:St}{a:Act}{g:G}{w:World}(h:cC g0 w0 st a g w)(l:Loc):cC g0 w0 (st.lowO l) a g w:=by
 unfold St.lowO; split
 ·rename_i hp
  exact h.lower hp (by cases st.fl l<;>rfl)
 ·exact h

theorem rZ{st:St}{R:Loc→Bool}{f:Loc→K}(hf: ∀m,f m≠ .V)(m:Loc):(st.setf R f).fl m≠ .V:=by
 cases m with
 | s i k j=>
  simp only[St.setf]; split
  ·simp
  ·exact hf _
 | _=>exact hf _

theorem MP{st:St}(h: ∀m,st.fl m≠ .V)(l m:Loc):(st.lowO l).fl m≠ .V:=by
 unfold St.lowO; split
 ·unfold St.lower
  refine rZ (fun m=> ?_) m
  split
  ·simp
  ·exact h m
 ·exact h m

def K.app(s:Nat):K→Bool
 | .A n=>n == s
 | .U n=>n == s&& !(n == 0)
 | .N=>true
 | _=>false
def K.deep:K→Bool
 | .A _=>false
 | _=>true

def jP(st:St):Operand→Loc
 | .tmp t=>if(st.fl (.s t 0 0)).hold then .s t 0 0 else .none
 | _=> .none

def Ms(st:St):Operand→K
 | .tmp t=>st.fl (.s t 0 0)
 | .const v=>jF (bQ v) 0 0
 | _=> .S

theorem cC.app_fst{g0:G}{w0:World}{st:St}{a:Act}{g:G}{w:World}(hs:cC g0 w0 st a g w){x:Operand}{es:List (List T)}{s:Nat}{f:Bool}(hx:ev st.sl x= .one (.c (.sl es)))(hk:(Ms st x).app s=true)(hf:f=true→(Ms st x).deep=true):
  Ow (frz g w) f w (some s) (fun b=>g.own b=jP st x∧(jP st x).place=true) (a.eval x) (.sl es):=by
 cases x with
 | tmp t=>
  have h1:=hs.slots t; have hx':st.sl t= .one (.c (.sl es)):=hx; rw[hx']at h1; have h2:LF g w (st.fl (.s t 0 0)) (.s t 0 0) (a.tmps.getD t undef) (.sl es):=h1.2; have hev:a.eval (.tmp t)=a.tmps.getD t undef:=rfl; rw[hev]; simp only[Ms]at hk hf; simp only[jP]; generalize hκ:st.fl (.s t 0 0)=κ at h2 hk hf; cases κ with
  | A n=>
   have hn:n=s:=by simpa [K.app]using hk
   subst hn; have hff:f=false:=by cases f with | false=>rfl | true=>exact absurd (hf rfl) (by simp [K.deep])
   subst hff; exact Ow.mono h2 id (fun _ b hb=>⟨hb,rfl⟩) (fun b hb=>⟨⟨hb,rfl⟩,rfl⟩)
  | U n=>
   have hn:n=s∧ ¬ n=0:=by simpa [K.app]using hk
   obtain⟨rfl,hn0⟩:=hn; have h2:Ow (frz g w) true w (iT n) (fun b=>g.own b= .s t 0 0) (a.tmps.getD t undef) (.sl es):=h2
   rw[rC (by omega)]at h2
   cases f with
   | true=>exact Ow.mono h2 id (by simp) (fun b hb=>⟨⟨hb,rfl⟩,rfl⟩)
   | false=>exact Ow.mono (deep':=false) h2 (by simp) (by simp) (fun b hb=>⟨⟨hb,rfl⟩,rfl⟩)
  | N=>
   obtain⟨h3,q,hq⟩:=h2; cases h3; rw[hq]; exact .nil _ _ _
  | _=>simp [K.app]at hk
 | const v=>
  simp only[Ms,jF]at hk; have hx':bQ v= .one (.c (.sl es)):=hx; have h1:=vY g w (fun _ _=> .none) v
  rw[hx']at h1 hk; have h2:LF g w (jF (.one (.c (.sl es))) 0 0) .none v (.sl es):=h1.2; simp only[jF,V.leaf,W.leaf,scal,z54,if_false]at h2; obtain⟨h3,q,hq⟩:=h2; cases h3; have:a.eval (.const v)=v:=rfl; rw[this,hq]; exact .nil _ _ _
 | func f=>simp [ev]at hx
 | global n=>simp [ev]at hx

def qQ(zero:List T):Bool:=zero.all scal

def LL(st:St)(zero:List T)(f:Bool)(y:Operand):Bool:=
 match ev st.sl y with
 | .one (.c (.str _))=>true
 | _=>match Ms st y with
  | .D=>false
  | .V=>qQ zero
  | .F=>qQ zero|| !f
  | .A s=>(s == zero.length)&&(qQ zero|| !f)
  | .U s=>s == zero.length&& !(s == 0)
  | .S=>false
  | .N=>true

def Hq:V→Option (List (List T))
 | .one (.c (.sl es))=>some es
 | .one (.c (.str s))=>some (tO s)
 | _=>none

theorem cC.app_snd{g0:G}{w0:World}{st:St}{a:Act}{g:G}{w:World}(hs:cC g0 w0 st a g w){y:Operand}{es:List (List T)}{zero:List T}{f:Bool}{l1:Loc}(hy:Hq (ev st.sl y)=some es)(hconf: ∀e∈es,fY e zero=true)(hk:LL st zero f y=true)
  (hne:(jP st y).place=true→jP st y≠l1):
  ∃news,Tn w (a.eval y) es.length zero.length news∧ ∃own2:Nat→Nat×Nat, ∀(i:Nat) e (j:Nat) z,es[i]? =some e→e[j]? =some z→ ∃c,news[i*zero.length+j]? =some c∧oQ c∧Ow (frz g w) f w none (fun k=>(g.own k=jP st y∧(jP st y).place=true∧jP st y≠l1)∧own2 k=(i,j)) c z:=by
 have hsz: ∀e∈es,e.length=zero.length:=fun e he=>(tF (hconf e he)).1
 have hsc:qQ zero=true→ ∀(i:Nat) e (j:Nat) z,es[i]? =some e→e[j]? =some z→scal z=true:=by
  intro h i e j z he hz; obtain⟨y,hy,hc⟩:=(tF (hconf e (bV he))).2 j z hz; rw[Ad hc]; exact z18.1 h y (bV hy)
 have h1:=hs.ev_rv y (fun _ _=> .none)
 unfold Hq at hy; split at hy
 ·rename_i es' heq
  cases hy; rw[heq]at h1; have hnstr:LL st zero f y=(match Ms st y with | .D=>false | .V=>qQ zero | .F=>qQ zero|| !f | .A s=>(s == zero.length)&&(qQ zero|| !f) | .U s=>s == zero.length&& !(s == 0) | .S=>false | .N=>true):=by
   unfold LL; rw[heq]
  rw[hnstr]at hk; have read: ∀ {Q:Nat→Prop},Rd Q w (a.eval y) (.sl es)→((∀b,Q b→frz g w b)∧f=false∨qQ zero=true)→ ∃news,Tn w (a.eval y) es.length zero.length news∧ ∃own2:Nat→Nat×Nat, ∀(i:Nat) e (j:Nat) z,es[i]? =some e→e[j]? =some z→ ∃c,news[i*zero.length+j]? =some c∧oQ c∧Ow (frz g w) f w none (fun k=>(g.own k=jP st y∧(jP st y).place=true∧jP st y≠l1)∧own2 k=(i,j)) c z:=by
   intro Q hrd hor; obtain⟨news,n1,n2,_⟩:=Dk hrd hsz; refine⟨news,n1,fun _=>(0,0),fun i e j z he hz=> ?_⟩
   obtain⟨c,c1,c2,c3⟩:=n2 i e j z he hz; refine⟨c,c1,c2, ?_⟩
   rcases hor with⟨hQ,hf⟩ | ha
   ·exact .frz _ _ _ hf (c3.weaken hQ)
   ·exact c3.ow (hsc ha i e j z he hz)
  cases y with
  | const v=>
   have h2:LF g w (jF (ev st.sl (.const v)) 0 0) .none v (.sl es):=h1.2; have hev:ev st.sl (.const v)= .one (.c (.sl es)):=heq; rw[hev]at h2; simp only[jF,V.leaf,W.leaf,scal,z54,if_false]at h2; obtain⟨h3,q,hq⟩:=h2; cases h3; have e1:a.eval (.const v)= .slice q 0 0:=hq; obtain⟨news,n1,n2,_⟩:=Dk (s:=zero.length) (show Rd (fun _=>False) w (a.eval (.const v)) (.sl [])by rw[e1]; exact .nil _ _) (by simp)
   exact⟨news,n1,fun _=>(0,0),fun i e j z he=>by simp at he⟩
  | func f=>simp [ev]at heq
  | global n=>simp [ev]at heq
  | tmp t=>
   have hsl:st.sl t= .one (.c (.sl es)):=heq; have h3:=hs.slots t; rw[hsl]at h3; have h2:LF g w (st.fl (.s t 0 0)) (.s t 0 0) (a.tmps.getD t undef) (.sl es):=h3.2; have hev:a.eval (.tmp t)=a.tmps.getD t undef:=rfl
   have own: ∀(deep:Bool) (n:Nat),(st.fl (.s t 0 0)).hold=true→n=zero.length→(f=true→deep=true)→Ow (frz g w) deep w (some n) (fun b=>g.own b= .s t 0 0) (a.tmps.getD t undef) (.sl es)→
     ∃news,Tn w (a.eval (.tmp t)) es.length zero.length news∧ ∃own2:Nat→Nat×Nat, ∀(i:Nat) e (j:Nat) z,es[i]? =some e→e[j]? =some z→ ∃c,news[i*zero.length+j]? =some c∧oQ c∧Ow (frz g w) f w none (fun k=>(g.own k=jP st (.tmp t)∧(jP st (.tmp t)).place=true∧jP st (.tmp t)≠l1)∧own2 k=(i,j)) c z:=by
    intro deep n hh hn hfd hO; subst hn; have hloc:jP st (.tmp t)= .s t 0 0:=by simp only[jP]; rw[z19 hh]
    have hne':=hne (by rw[hloc]; rfl)
    rw[hloc]at hne' ⊢; rw[hev]; have hrd:Rd (fun _=>True) w (a.tmps.getD t undef) (.sl es):=hO.rd (fun _ _=>trivial) (fun _ _=>trivial)
    obtain⟨news,n1,n2,n3⟩:=Dk hrd hsz; generalize a.tmps.getD t undef=v at hO n1 n3; cases hO with
    | nil t' F q=>exact⟨news,n1,fun _=>(0,0),fun i e j z he=>by simp at he⟩
    | sl t' F b len cap s' arr ty _ own cs hst hb hh hl hc hcap hs' ha hm hr=>
     have e0:s'=zero.length:=hst _ rfl; subst e0; refine⟨news,n1,own,fun i e j z he hz=> ?_⟩
     obtain⟨c,c1,c2,c3⟩:=n2 i e j z he hz; have hj:j<zero.length:=by have:=cR hz; have:=hsz e (bV he); omega
     have h5:=n3 b 0 len cap rfl _ (Fj (cR he) hj); rw[z28,cV w b _ arr ty (0,0) hh,hm i e j z he hz,c1]at h5; cases h5; refine⟨_,c1,c2, ?_⟩
     have h6:=hr i e j z he hz; cases f with
     | true=>
      have:=hfd rfl; subst this; exact h6.mono id (by simp) (fun k hk=>⟨⟨⟨hk.1,rfl,hne'⟩,hk.2.2⟩,rfl⟩)
     | false=>exact h6.mono (fun _=>rfl) (fun _ b hb=>⟨hb,rfl⟩) (fun k hk=>⟨⟨⟨hk.1,rfl,hne'⟩,hk.2.2⟩,rfl⟩)
   simp only[Ms]at hk; generalize hκ:st.fl (.s t 0 0)=κ at h2 hk own; cases κ with
   | D=>simp at hk
   | V=>exact read h2 (.inr hk)
   | F=>
    refine read h2 ?_
    simp only[z47,z38]at hk; rcases hk with hk | hk
    ·exact .inr hk
    ·exact .inl ⟨fun _ h=>h,hk⟩
   | A n=>
    simp only[z7,beq_iff_eq,z47,z38]at hk; rcases hk.2 with hk2 | hk2
    ·exact read (hs.ok |> fun hok=>LF.rd (κ:= .A n) hok (l:= .s t 0 0) rfl h2 (by simp)) (.inr hk2)
    ·exact own false n rfl hk.1 (by simp [hk2]) h2
   | U n=>
    have hk:n=zero.length∧ ¬ n=0:=by simpa using hk
    have h2:Ow (frz g w) true w (iT n) (fun b=>g.own b= .s t 0 0) (a.eval (.tmp t)) (.sl es):=h2
    rw[rC (by omega)]at h2
    exact own true n rfl (by simpa using hk.1) (fun _=>rfl) h2
   | S=>simp at hk
   | N=>
    obtain⟨h4,q,hq⟩:=h2; cases h4; obtain⟨news,n1,_⟩:=Dk (s:=zero.length) (show Rd (fun _=>False) w (a.eval (.tmp t)) (.sl [])by rw[hev,hq]; exact .nil _ _) (by simp)
    exact⟨news,n1,fun _=>(0,0),fun i e j z he=>by simp at he⟩
 ·rename_i s heq
  cases hy; rw[heq]at h1; have h2:Rd (fun _=>False) w (a.eval y) (.str s):=by
   have:=LF.scal (g':=g) (w':=w) (κ':= .S) (l':= .none) h1.2 rfl; exact this.2
  generalize a.eval y=v at h2; cases h2 with
  | str b=>
   obtain⟨news,n1,n2⟩:=Ri w b; by_cases hemp:tO b.data.toList=[]
   ·rw[hemp]at n1 ⊢
    refine⟨[],⟨by simp,fun P w' hw=> ?_,n1.lenOf⟩,fun _=>(0,0),fun i e j z he=>by simp at he⟩
    have:=n1.first P w' hw
    have hnil:news=[]:=z108 (by simpa using n1.len)
    rw[hnil]at this; have e:Builtin.firstCells zero.length 0 (Value.string b)=Builtin.firstCells 1 0 (Value.string b):=rfl; simp only[z53]at this ⊢; rw[e]; exact this
   ·have h1l:zero.length=1:=by
     obtain⟨e,r,he⟩:=List.exists_cons_of_ne_nil hemp; have hm:e∈tO b.data.toList:=by rw[he]; exact z34
     rw[←hsz e hm]; simp only[tO,z50]at hm; obtain⟨c,_,rfl⟩:=hm; rfl
    rw[h1l]; refine⟨news,n1,fun _=>(0,0),fun i e j z he hz=> ?_⟩
    obtain⟨n,hn,rfl⟩:=n2 i e j z he hz; exact⟨_,hn,⟨by simp,by simp⟩, .int _ _ _ _⟩
 ·cases hy

section
variable {P:Program} {τ:TypeId→Option TI} {g0:G} {w0:World} {o:Oper} {st:St} {d:Nat}

theorem Qc(hT:bE P τ){t u e:TypeId}{ei:TI}{x y:Operand}{es1 es2:List (List T)}(f:Bool)(hd:o.dst=some d)(hn:d<st.n)(ho:o.op= .call { callee:= .builtin .append,args:= #[x,y],argTypes:= #[t,u] })
  (ht:tk τ t=some (.sl e))(hu:tk τ u=some (.sl e)∨tk τ u=some .str)(he:τ e=some ei)(hx:ev st.sl x= .one (.c (.sl es1)))(hxk:(Ms st x).app ei.size=true)(hxf:f=true→(Ms st x).deep=true)
  (hy:Hq (ev st.sl y)=some es2)(hyk:LL st ei.zero f y=true)(hne:(jP st y).place=true→jP st y≠jP st x)
  (hl1: ∀e∈es1,e.length=ei.size)(hl2: ∀e∈es2,fY e ei.zero=true)(h63:es1.length+es2.length≤maxLen)(hb:(es1.length+es2.length)*ei.bytes≤140737488355328):
  pW P g0 w0 o st (((st.killV.lowO (jP st x)).lowO (jP st y)).put d (.one (.c (.sl (es1++es2)))) (fun _ _=>if f then .U ei.size else .A ei.size)):=by
 intro a w ⟨g,hs⟩; obtain⟨info,de,z,q1,q2,q3,q4,q5,q6,q7,q8,q9⟩:=hT.get he; obtain⟨dt,hdt,rfl⟩:=lX hT ht; obtain⟨du,hdu,hdui⟩: ∃du,P.underlying u=some du∧ ∀k,du≠ .int k:=by
  rcases hu with hu | hu
  ·obtain⟨du,hdu,rfl⟩:=lX hT hu; exact⟨_,hdu,by simp⟩
  ·obtain⟨du,hdu,rfl⟩:=lX hT hu; exact⟨_,hdu,by simp⟩
 have hzs:z.cells.size=ei.size:=by
  have:=(kP q6).1; simp only[z55]at this; omega
 obtain⟨news,n1,hc2⟩:=hs.app_snd (l1:=jP st x) hy hl2 hyk hne; rw[q7]at n1 hc2
 obtain⟨v',g',w',hrun,hA⟩:=Nf (P:=P) hs.ok (l1:=jP st x) (l2:=jP st y) (L:= .s d 0 0) (hs.app_fst hx hxk hxf) rfl hl1 (fun e he=>by rw[(tF (hl2 e he)).1,q7]) q8 n1 hc2
  t u o.type e du info z hdt hdu hdui q1 q5 q3 hzs h63 (by rw[q4]; exact hb)
 have hv:(execOp a.eval o).run P w= .ok (.value v') w':=by
  obtain⟨dst,op,ty,pos,after,guard⟩:=o; simp only at ho; subst ho; simp only[execOp,resolve,invoke,builtin,Sem.run_bind,Sem.run_pure,Result.andThen_ok,List.map_toArray,z52,Tb]; simp only at hrun; rw[hrun]; rfl
 refine⟨_,_,hv, .inl ⟨_,rfl,g', ?_⟩⟩
 rw[hd]; have h1:=(hs.killV.lowO (jP st x)).lowO (jP st y)
 have hC:AM g w g' w' (fun l=>(l=jP st x∨l=jP st y)∧l.place=true) ((st.killV.lowO (jP st x)).lowO (jP st y)):=
  ⟨hA.evo,fun l hl=>⟨fun hf=>by rcases hf with h | h<;>(rw[h]at hl; cases hl.2),(Loc.place_ne hl.2).2.2⟩, .inr (MP (MP (tD st) _) _),hA.os,hA.tape,hA.output,hA.ok⟩
 refine h1.put hC hA.β (by rw[TR,TR]; exact hn) (fun l hk ⟨y',hx⟩ _ hX=> ?_) ⟨(hA.ow.rd (P:=fun _=>True) (fun _ _=>trivial) (fun _ _=>trivial)).not_agg, ?_⟩ (fun h=>absurd rfl h)
 ·rw[Kj,Kj]at hx
  have hx':st.killV.at l=some y':=hx; rw[PD (x:=y') (by rw[Kj]; exact hx'),PD hx']at hk
  rcases hX.1 with e | e
  ·by_cases e2:l=jP st y∧(jP st y).place=true
   ·rw[z19 e2]at hk; simp [K.hold]at hk
   ·rw[z14 e2,z19 ⟨e,by rw[←e]; exact hX.2⟩]at hk; simp [K.hold]at hk
  ·rw[z19 ⟨e,by rw[←e]; exact hX.2⟩]at hk; simp [K.hold]at hk
 ·show LF g' w' (if f then .U ei.size else .A ei.size) (.s d 0 0) v' (.sl (es1++es2))
  cases f with
  | true=>
   show Ow _ true w' (iT ei.size) _ _ _; rw[rC q8]; exact hA.ow
  | false=>exact hA.ow
end
end Go.Own

namespace Go.Own
open Go.RowKit

theorem BZ(off:Nat): ∀(l:List Value) (j0:Nat) (cs:Array Value),off+j0+l.length≤cs.size→
  ((l.zipIdx j0).foldl (fun cs (x:Value×Nat)=>cs.setIfInBounds (off+x.2) x.1) cs).size=cs.size∧
  ∀k,((l.zipIdx j0).foldl (fun cs (x:Value×Nat)=>cs.setIfInBounds (off+x.2) x.1) cs)[k]? =if off+j0≤k∧k<off+j0+l.length then l[k - (off+j0)]? else cs[k]?
 | [],j0,cs,_=>⟨rfl,fun k=>by simp only[List.zipIdx_nil,List.foldl_nil,z53]; rw[z14 (by omega)]⟩
 | v::r,j0,cs,h=>by
  simp only[z51]at h; simp only[z169,Xd]; obtain⟨h1,h2⟩:=BZ off r (j0+1) (cs.setIfInBounds (off+j0) v) (by simp; omega)
  refine⟨by rw[h1]; simp,fun k=> ?_⟩
  rw[h2 k]; by_cases e1:off+(j0+1)≤k∧k<off+(j0+1)+r.length
  ·rw[z19 e1,z19 (by simp; omega)]
   have:k - (off+j0)=k - (off+(j0+1))+1:=by omega
   rw[this,z25]
  ·rw[z14 e1]
   by_cases e2:k=off+j0
   ·subst e2
    rw[z19 (by simp),Vk,z24,z113 (by omega)]
   ·rw[z14 (by simp; omega),z102 (Ne.symm e2)]

theorem Mg(size:Nat): ∀(vs:List Value) (i0:Nat) (cs:Array Value),(∀v∈vs,v.cells.size=size)→(i0+vs.length)*size≤cs.size→
  ∃r,Instr.fill (fun i=>some (i*size,size)) cs ((vs.zipIdx i0).map fun p=>(p.2,p.1))=some r∧r.size=cs.size∧(∀k,k<i0*size→r[k]? =cs[k]?)∧
   ∀(i:Nat) (v:Value) (j:Nat),vs[i]? =some v→j<size→r[(i0+i)*size+j]? =v.cells[j]?
 | [],i0,cs,_,_=>⟨cs,rfl,rfl,fun _ _=>rfl,fun i v j h=>by simp at h⟩
 | v::r,i0,cs,hv,h=>by
  have hv0:=hv v z34; simp only[z51]at h; have hle:(i0+1)*size≤cs.size:=z83 (z57 _ (by omega)) h
  rw[z99,Nat.one_mul]at hle; simp only[z169,z52,Instr.fill,hv0,ne_eq,not_true_eq_false,decide_false,z40]; have hl:v.cells.toList.length=size:=by simpa using hv0
  obtain⟨g1,g2⟩:=BZ (i0*size) v.cells.toList 0 cs (by rw[hl]; omega)
  have hfold:v.cells.zipIdx.foldl (fun cs (x:Value×Nat)=>cs.setIfInBounds (i0*size+x.2) x.1) cs=(v.cells.toList.zipIdx 0).foldl (fun cs (x:Value×Nat)=>cs.setIfInBounds (i0*size+x.2) x.1) cs:=by
   rw[←Xj]; simp
  have hnot: ¬ (decide (i0*size+size > cs.size)=true):=by simp; omega
  obtain⟨r',f1,f2,f3,f4⟩:=Mg size r (i0+1) (v.cells.zipIdx.foldl (fun cs (x:Value×Nat)=>cs.setIfInBounds (i0*size+x.2) x.1) cs) (fun x hx=>hv x (z29 _ hx))
   (by rw[hfold,g1]; exact z83 (z57 _ (by omega)) h)
  refine⟨r', ?_,by rw[f2,hfold,g1],fun k hk=> ?_,fun i x j hx hj=> ?_⟩
  ·rw[z14 (by simpa using hnot)]
   exact f1
  ·rw[f3 k (by rw[z99]; omega),hfold,g2 k,z14 (by omega)]
  ·cases i with
   | zero=>
    simp only[z24,z10]at hx
    subst hx; rw[z75,f3 _ (by rw[z99]; omega),hfold,g2,z19 (by rw[hl]; omega),z75,z82,z27]
   | succ i=>
    simp only[z25]at hx
    have:i0+(i+1)=i0+1+i:=by omega
    rw[this]; exact f4 i x j hx hj

def zI(t:Nat):Operand→Bool
 | .tmp t'=>t' == t
 | _=>false
def dY(ps:List Operand):Loc→Bool
 | .s t 0 _=>ps.any (zI t)
 | _=>false
theorem NW{ps:List Operand}{t j:Nat}(h: .tmp t∈ps):dY ps (.s t 0 j)=true:=by
 simp only[dY,z168]; exact⟨.tmp t,h,by simp [zI]⟩
theorem CQ{ps:List Operand}{l:Loc}(h:dY ps l=true):l.place=true:=by
 cases l<;>first | rfl | simp [dY]at h

def tIdx(ps:List Operand)(t:Nat):Nat:=ps.findIdx (zI t)

theorem UM{ps:List Operand}{t i:Nat}(h:ps[i]? =some (.tmp t))(hu: ∀i',ps[i']? =some (.tmp t)→i'=i):tIdx ps t=i:=by
 have hex: ∃x∈ps,zI t x=true:=⟨.tmp t,bV h,by simp [zI]⟩
 have hf:=List.findIdx_lt_length_of_exists hex; have hg:=List.findIdx_getElem (w:=hf); have:ps[ps.findIdx (zI t)]? =some (.tmp t):=by
  rw[z12 hf]
  congr 1
  generalize ps[ps.findIdx (zI t)]=y at hg; cases y<;>simp [zI]at hg
  rw[hg]
 exact hu _ this

def St.lowT(st:St)(ps:List Operand):St:=st.setf (dY ps) (fun m=>if dY ps m=true∧(st.fl m).hold=true then .D else st.fl m)

theorem cC.lowT{g0:G}{w0:World}{st:St}{a:Act}{g:G}{w:World}(h:cC g0 w0 st a g w)(ps:List Operand):cC g0 w0 (st.lowT ps) a g w:=by
 refine h.setf rfl (fun _=>rfl) h.ok (fun _ _=>rfl) (fun _ _ h=>h) (fun _ h=>h) (fun m x v hx hv hf=> ?_) (fun i k xs b off hcx hc=> ?_) (fun i hi hR hf=> ?_)
 ·by_cases e:dY ps m=true∧(st.fl m).hold=true
  ·rw[z19 e]; exact hf.lo (κ':= .D) h.ok (at_isPlace hx) (by cases st.fl m<;>rfl)
  ·rw[z14 e]; exact hf
 ·by_cases e:dY ps (.s i k 0)=true∧(st.fl (.s i k 0)).hold=true
  ·rw[z19 e]; trivial
  ·rw[z14 e]; exact hc
 ·refine⟨fun e=>hf (by rw[z14 (by rw[e]; simp [K.hold])]; exact e),fun hh=> ?_⟩
  rw[z14 (by rw[hR]; simp)]; exact hh

theorem Ki{st:St}{ps:List Operand}{m:Loc}{x:T}(hx:st.at m=some x):(st.lowT ps).fl m=if dY ps m=true∧(st.fl m).hold=true then .D else st.fl m:=xX (f:=fun m=>if dY ps m=true∧(st.fl m).hold=true then K.D else st.fl m) rfl hx

def K.part(f:Bool):K→Bool
 | .S=>true
 | .N=>true
 | .F=> !f
 | .A _=> !f
 | .U _=>true
 | _=>false

def FZ(st:St):Operand→Nat→K
 | .tmp t,j=>st.fl (.s t 0 j)
 | .const v,j=>jF (bQ v) 0 j
 | _,_=> .D

theorem LF.part{g g':G}{w w':World}{κ:K}{l:Loc}{c:Value}{x:T}{f:Bool}(h:LF g w κ l c x)(hk:κ.part f=true)(hZ: ∀b,frz g w b→frz g' w' b∧w'.heap[b]? =w.heap[b]?){F:Nat→Prop}(hF:κ.hold=true→ ∀b,g.own b=l→F b∧w'.heap[b]? =w.heap[b]?):Ow (frz g' w') f w' none F c x:=by
 cases κ with
 | D=>simp [K.part]at hk
 | V=>simp [K.part]at hk
 | F=>
  have:f=false:=by simpa [K.part]using hk
  subst this; exact .frz _ _ _ rfl (Rd.mono hZ h)
 | A n=>
  have:f=false:=by simpa [K.part]using hk
  subst this; exact(Ow.sub h).mono id (fun _=>hZ) (hF rfl)
 | U n=>
  have h:Ow (frz g w) true w (iT n) (fun b=>g.own b=l) c x:=h
  exact h.any.mono (deep':=f) (by simp) (by simp) (hF rfl)
 | S=>exact h.2.ow h.1
 | N=>obtain⟨rfl,a,rfl⟩:=h; exact .nil _ _ _

section
variable {P:Program} {τ:TypeId→Option TI} {g0:G} {w0:World} {o:Oper} {st:St} {d:Nat}

def G.lit(g:G)(ps:List Operand)(L:Loc)(nb:Nat):G:=
 { β:=g.β,own:=fun b=>if b=nb then L else if dY ps (g.own b)=true then L else g.own b }

theorem Bh{v:V}{xs:List T}(h:aV v=some xs)(j:Nat):v.leaf 0 j=xs[j]? :=by
 unfold aV at h; split at h
 ·simp only[z10]at h; subst h; cases j<;>rfl
 ·simp only[z10]at h; subst h; rfl
 ·cases h

theorem Yc(hT:bE P τ){n:Nat}{t e:TypeId}{ei:TI}{parts:Array (Nat×Operand)}{ps:List Operand}{es:List (List T)}(f:Bool)(hd:o.dst=some d)(hn:d<st.n)(ho:o.op= .buildSlice t n parts)(hparts:parts.toList=ps.zipIdx.map fun p=>(p.2,p.1))(hlen:n=ps.length)
  (ht:tk τ t=some (.sl e))(he:τ e=some ei)(hes:ps.map (fun x=>aV (ev st.sl x))=es.map some)(hl: ∀e∈es,e.length=ei.size)(hsz:n*ei.size≤16777216)
  (hu: ∀(i i' t:Nat),ps[i]? =some (Operand.tmp t)→ps[i']? =some (Operand.tmp t)→i=i')
  (hk: ∀x∈ps, ∀j,j<ei.size→(FZ st x j).part f=true):
  pW P g0 w0 o st ((st.lowT ps).put d (.one (.c (.sl es))) (fun _ _=>if f then .U ei.size else .A ei.size)):=by
 intro a w ⟨g,hs⟩; obtain⟨info,de,z0,q1,q2,q3,q4,q5,q6,q7,q8,q9⟩:=hT.get he; obtain⟨dt,hdt,rfl⟩:=lX hT ht; have hzs:z0.cells.size=ei.size:=by
  have:=(kP q6).1; simp only[z55]at this; omega
 have hel:es.length=n:=by
  have:=congrArg List.length hes; simp only[z66]at this; omega
 have hpart: ∀(i:Nat) x e,ps[i]? =some x→es[i]? =some e→aV (ev st.sl x)=some e:=by
  intro i x e hx he; have:(ps.map (fun x=>aV (ev st.sl x)))[i]? =(es.map some)[i]? :=by rw[hes]
  rw[z30,z30,hx,he]at this
  exact z46 this
 have hpair: ∀(i:Nat) x,ps[i]? =some x→ ∃e,es[i]? =some e:=fun i x hx=>by
  have:=cR hx; exact⟨es[i]'(by omega),z12 (by omega)⟩
 have hcs: ∀(i:Nat) x e,ps[i]? =some x→es[i]? =some e→(a.eval x).cells.size=ei.size∧ ∀(j:Nat) z,e[j]? =some z→ ∃c,(a.eval x).cells[j]? =some c∧oQ c∧
   LF g w (FZ st x j) (match x with | .tmp t=> .s t 0 j | _=> .none) c z:=by
  intro i x e hx he; have hc:=hpart i x e hx he; have hle:=hl e (bV he); cases x with
  | tmp t=>
   obtain⟨k1,k2,_⟩:=iI (hs.slots t) hc; exact⟨by rw[show a.eval (.tmp t)=a.tmps.getD t undef from rfl,k1]; exact hle,fun j z hz=>k2 j z hz⟩
  | const v=>
   obtain⟨k1,k2,_⟩:=iI (vY g w (fun _ _=> .none) v) hc
   exact⟨by rw[show a.eval (.const v)=v from rfl,k1]; exact hle,fun j z hz=>k2 j z hz⟩
  | func f=>simp [ev,aV]at hc
  | global n=>simp [ev,aV]at hc
 let vs:List Value:=ps.map a.eval
 have hvs: ∀(i:Nat) x,ps[i]? =some x→vs[i]? =some (a.eval x):=fun i x hx=>by simp [vs,hx]
 obtain⟨r,f1,f2,_,f4⟩:=Mg ei.size vs 0 ((Array.range (n*info.size)).map ((if n*info.size=0 then(#[]:Array Value)else z0.cells)[· % (if n*info.size=0 then(#[]:Array Value)else z0.cells).size]!)) (fun v hv=>by
  obtain⟨x,hx,rfl⟩:=z50.1 hv; obtain⟨i,hi⟩:=z60 hx
  obtain⟨e,he⟩:=hpair i x hi; exact(hcs i x e hi he).1) (by simp [vs,q3,hlen])
 have hrsz:r.size=n*ei.size:=by rw[f2]; simp [q3]
 have hv:(execOp a.eval o).run P w= .ok (.value (.slice (some ⟨w.heap.size,0,none⟩) n n)) (w.alloc (.cells r e)):=by
  obtain⟨dst,op,ty,pos,after,guard⟩:=o; simp only at ho; subst ho; have hp2:(parts.map fun x=>(x.fst,a.eval x.snd)).toList=(vs.zipIdx 0).map fun p=>(p.2,p.1):=by
   rw[Array.toList_map,hparts]; simp [vs,List.zipIdx_map,Function.comp_def]
  have hnot: ¬ (n*info.size > 2 ^ 24):=by rw[q3]; omega
  simp only[execOp,Instr.buildSlice,Sem.run_bind,run_underlying hdt,Result.andThen_ok,sizeOf,typeInfo,run_program,q1,Sem.run_pure,z14 hnot,Sem.run_ite,zeroValue,q5]; rw[show(fun i=>some (i*ei.size,ei.size))=(fun i=>some (i*info.size,info.size))by rw[q3]]at f1
  by_cases h0:n*info.size=0
  ·rw[z19 h0]at f1 ⊢
   rw[hp2,f1]; rfl
  ·rw[z14 h0]at f1 ⊢
   rw[hp2,f1]; rfl
 refine⟨_,_,hv, .inl ⟨_,rfl,g.lit ps (.s d 0 0) w.heap.size, ?_⟩⟩
 rw[hd]; have hold: ∀b,b<w.heap.size→(w.alloc (.cells r e)).heap[b]? =w.heap[b]? :=rE w _; have hnew:(w.alloc (.cells r e)).heap[w.heap.size]? =some (.cells r e (0,0)):=heap_alloc_new w _; have hown: ∀b,b<w.heap.size→dY ps (g.own b)=false→(g.lit ps (.s d 0 0) w.heap.size).own b=g.own b:=by
  intro b hb hi; show(if b=w.heap.size then _ else if dY ps (g.own b)=true then _ else g.own b)=_
  rw[z14 (by omega),z14 (by rw[hi]; simp)]
 have hE:Evo g w (g.lit ps (.s d 0 0) w.heap.size) (w.alloc (.cells r e)) (fun l=>dY ps l=true):=⟨by simp,fun b hb hX=>⟨hown b hb (by simpa using hX),hold b hb⟩⟩
 have hZ: ∀b,frz g w b→frz (g.lit ps (.s d 0 0) w.heap.size) (w.alloc (.cells r e)) b∧(w.alloc (.cells r e)).heap[b]? =w.heap[b]? :=fun b hb=>⟨⟨by simp; have:=hb.1; omega,by rw[hown b hb.1 (by rw[hb.2]; rfl)]; exact hb.2⟩,hold b hb.1⟩
 have hok:GOk (g.lit ps (.s d 0 0) w.heap.size) (w.alloc (.cells r e)):=by
  refine⟨fun b hb=> ?_⟩
  by_cases eb:b=w.heap.size
  ·subst eb; simp
  ·have hb':(if b=w.heap.size then Loc.s d 0 0 else if dY ps (g.own b)=true then Loc.s d 0 0 else g.own b)≠ .none:=hb
   rw[z14 eb]at hb'; have:g.own b≠ .none:=by
    intro e2; rw[e2]at hb'; exact hb' (by rw[z14 (by simp [dY])])
   have:=hs.ok.own b this; simp; omega
 have hA: ∀b,all g w b→all (g.lit ps (.s d 0 0) w.heap.size) (w.alloc (.cells r e)) b∧(w.alloc (.cells r e)).heap[b]? =w.heap[b]? :=fun b hb=>⟨⟨by simp; have:=hb.1; omega,fun o=>by
  show(if b=w.heap.size then Loc.s d 0 0 else if dY ps (g.own b)=true then Loc.s d 0 0 else g.own b)≠ .obj o
  rw[z14 (by have:=hb.1; omega)]
  split
  ·simp
  ·exact hb.2 o⟩,hold b hb.1⟩
 have h1:=hs.lowT ps
 have hC:AM g w (g.lit ps (.s d 0 0) w.heap.size) (w.alloc (.cells r e)) (fun l=>dY ps l=true) (st.lowT ps):=
  ⟨hE,fun l hl=>⟨fun hf=>by rcases hf with h | h<;>(rw[h]at hl; simp [dY]at hl),(Loc.place_ne (CQ hl)).2.2⟩, .inl hA,rfl,rfl,rfl,hok⟩
 have hnmax:n≤maxLen:=by
  have h1:n≤n*ei.size:=Nat.le_mul_of_pos_right n q8; simp only[maxLen]; omega
 have hLnew:(g.lit ps (.s d 0 0) w.heap.size).own w.heap.size= .s d 0 0:=by
  show(if w.heap.size=w.heap.size then _ else _)=_
  rw[z19 rfl]
 have hOw:Ow (frz (g.lit ps (.s d 0 0) w.heap.size) (w.alloc (.cells r e))) f (w.alloc (.cells r e)) (some ei.size) (fun b=>(g.lit ps (.s d 0 0) w.heap.size).own b= .s d 0 0) (.slice (some ⟨w.heap.size,0,none⟩) n n) (.sl es):=by
  refine .sl _ _ w.heap.size n n ei.size r e es (fun k=>match g.own k with | .s t 0 j=>(tIdx ps t,j) | _=>(0,0)) (fun i j=>(r[i*ei.size+j]?).getD undef) (by simp) hLnew hnew hel (z39 _) hnmax (fun i e' he'=>hl e' (bV he')) hrsz
   (fun i e' j x he' hx=> ?_) (fun i e' j x he' hx=> ?_)
  all_goals
   have hj:j<ei.size:=by have:=cR hx; have:=hl e' (bV he'); omega
   have hlt:=cR he'; have hp:ps[i]? =some (ps[i]'(by omega)):=z12 (by omega)
   obtain⟨c1,c2⟩:=hcs i _ e' hp he'; obtain⟨c,c3,c4,c5⟩:=c2 j x hx; have hrc:r[i*ei.size+j]? =some c:=by
    have:=f4 i _ j (hvs i _ hp) hj; rw[z28]at this; rw[this]; exact c3
   rw[hrc]
  ·rfl
  ·simp only[z69]
   have hkp:=hk _ (bV hp) j hj; refine c5.part hkp hZ (fun hh b hb=> ?_)
   generalize hpe:ps[i]'(by omega)=x at hp hb hh
   cases x with
   | tmp t'=>
    have hb':g.own b= .s t' 0 j:=hb; have hbs:b<w.heap.size:=hs.ok.own b (by rw[hb']; simp)
    refine⟨⟨?_,by omega, ?_⟩,hold b hbs⟩
    ·show(if b=w.heap.size then _ else if dY ps (g.own b)=true then _ else g.own b)=_
     rw[z14 (by omega),hb',z19 (NW (bV hp))]
    ·simp only[hb']
     rw[UM hp (fun i' hi'=>hu i' i t' hi' hp)]
   | const v=>
    exfalso
    simp only[FZ,jF]at hh; revert hh
    split
    ·split<;>simp [K.hold]
    ·simp [K.hold]
   | func f=>simp [FZ,K.hold]at hh
   | global n=>simp [FZ,K.hold]at hh
 refine h1.put hC (fun _=>rfl) hn (fun l hkl ⟨y,hy⟩ _ hX=> ?_) ⟨⟨by simp,by simp⟩, ?_⟩ (fun h=>absurd rfl h)
 ·have hy':st.at l=some y:=hy
  rw[Ki hy']at hkl; by_cases hh:(st.fl l).hold=true
  ·rw[z19 ⟨hX,hh⟩]at hkl; simp [K.hold]at hkl
  ·rw[z14 (fun h=>hh h.2)]at hkl; exact hh hkl
 ·show LF _ _ (if f then .U ei.size else .A ei.size) (.s d 0 0) _ (.sl es)
  cases f with
  | true=>
   show Ow _ true _ (iT ei.size) _ _ _; rw[rC q8]; exact hOw
  | false=>exact hOw

theorem Um(hT:bE P τ){t e:TypeId}{ei:TI}{x y:Operand}{k k':IntKind}{n:Int}(hd:o.dst=some d)(hn:d<st.n)(ho:o.op= .makeSlice t x y)(ht:tk τ t=some (.sl e))(he:τ e=some ei)
  (hx:ev st.sl x= .one (.c (.int k n)))(hy:ev st.sl y= .one (.c (.int k' n)))(h0:0≤n)(h1:n≤maxLen)(hb:ei.bytes*n≤281474976710656):
  pW P g0 w0 o st (st.put d (.one (.c (.sl (List.replicate n.toNat ei.zero)))) (fun _ _=> .U ei.size)):=by
 intro a w ⟨g,hs⟩; obtain⟨info,de,z0,q1,q2,q3,q4,q5,q6,q7,q8,q9⟩:=hT.get he; obtain⟨dt,hdt,rfl⟩:=lX hT ht; obtain⟨ze,hz⟩:=kP q6; have hzs:z0.cells.size=ei.size:=by
  simp only[z55]at ze; omega
 have hmax:(maxLen:Int)≤9223372036854775807:=by simp only[maxLen]; omega
 have hv:(execOp a.eval o).run P w= .ok (.value (.slice (some ⟨w.heap.size,0,none⟩) n.toNat n.toNat)) (w.alloc (.cells (madeCells z0.cells (n.toNat*info.size)) e)):=by
  have ex:=hs.int hx; have ey:=hs.int hy; have hrun:=run_make (P:=P) w t e info z0 hdt q1 q5 k k' n n h0 (Vh _) (by rw[q4]; exact hb) (by omega)
  obtain⟨dst,op,ty,pos,after,guard⟩:=o; simp only at ho; subst ho; simp only[execOp,ex,ey,Sem.run_bind,hrun,Result.andThen_ok,Sem.run_pure]
 refine⟨_,_,hv, .inl ⟨_,rfl,{ β:=g.β,own:=fun b=>if b=w.heap.size then .s d 0 0 else g.own b }, ?_⟩⟩
 rw[hd]; generalize hw':w.alloc (.cells (madeCells z0.cells (n.toNat*info.size)) e)=w'; have hold: ∀b,b<w.heap.size→w'.heap[b]? =w.heap[b]? :=by rw[←hw']; exact rE w _
 have hnew:w'.heap[w.heap.size]? =some (.cells (madeCells z0.cells (n.toNat*info.size)) e (0,0)):=by rw[←hw']; exact heap_alloc_new w _
 have hsz':w'.heap.size=w.heap.size+1:=by rw[←hw']; simp
 have hown: ∀b,b<w.heap.size→(if b=w.heap.size then Loc.s d 0 0 else g.own b)=g.own b:=fun b hb=>z14 (by omega)
 have hC:AM g w { β:=g.β,own:=fun b=>if b=w.heap.size then .s d 0 0 else g.own b } w' (fun _=>False) st:=by
  refine⟨⟨by omega,fun b hb _=>⟨hown b hb,hold b hb⟩⟩,fun _ h=>h.elim, .inl fun b hb=>⟨⟨by have:=hb.1; omega,fun o=>by show(if b=w.heap.size then Loc.s d 0 0 else g.own b)≠_; rw[hown b hb.1]; exact hb.2 o⟩,hold b hb.1⟩,by rw[←hw']; rfl,by rw[←hw']; rfl,by rw[←hw']; rfl,⟨fun b hb=> ?_⟩⟩
  have hb':(if b=w.heap.size then Loc.s d 0 0 else g.own b)≠ .none:=hb
  by_cases e:b=w.heap.size
  ·omega
  ·rw[z14 e]at hb'
   have:=hs.ok.own b hb'; omega
 refine hs.put hC (fun _=>rfl) hn (fun _ _ _ _ h=>h) ⟨⟨by simp,by simp⟩, ?_⟩ (fun h=>absurd rfl h)
 show Ow _ true w' (iT ei.size) _ _ _; rw[rC q8]; refine .sl _ _ w.heap.size n.toNat n.toNat ei.size (madeCells z0.cells (n.toNat*info.size)) e _ (fun _=>(0,0)) (fun _ j=>z0.cells[j]!) (by simp) (by simp) hnew (by simp) (z39 _) (by omega) (fun i e' he'=> ?_) (by rw[size_madeCells,q3]) (fun i e' j x he' hx=> ?_) (fun i e' j x he' hx=> ?_)
 ·rw[z165]at he'
  split at he'<;>simp only[z10,reduceCtorEq]at he'
  subst he'; exact q7
 all_goals
  rw[z165]at he'
  split at he'<;>simp only[z10,reduceCtorEq]at he'
  rename_i hi; subst he'; have hj:j<ei.size:=by have:=cR hx; omega
  obtain⟨v,hv1,hv2⟩:=hz j x hx; have hzj:z0.cells[j]! =v:=by
   rw[z27]at hv1
   rw[getElem!_def,hv1]
 ·have hlt:=Fj hi hj
  have hm:(i*ei.size+j) % z0.cells.size=j:=by rw[hzs,Ta,Nat.mul_add_mod]; exact z97 hj
  simp only[madeCells,q3,Array.getElem?_map,Array.getElem?_range,hlt,if_true,z36,hm]
 ·rw[hzj]
  exact(rJ hv2).2 _ _ _ _ _

def tP(fs:List (Nat×Nat×Bool)):List T→List (Nat×V)→Option (List T)
 | cs,[]=>some cs
 | cs,(i,v)::r=>match fs[i]?,aV v with
  | some (off,size,_),some xs=>if xs.length=size∧off+size≤cs.length then tP fs (cs.take off++xs++cs.drop (off+xs.length)) r else none
  | _,_=>none

def Cd(fs:List (Nat×Nat×Bool)):(Nat→K)→List (Nat×(Nat→K))→Nat→K
 | κ,[]=>κ
 | κ,(i,q)::r=>match fs[i]? with
  | some (off,size,_)=>Cd fs (fun j=>if off≤j∧j<off+size then q (j - off)else κ j) r
  | none=>κ

def Cb(fs:List (Nat×Nat×Bool))(k:Nat)(ps:List (Nat×Operand)):Prop:= ∀p∈ps, ∀off size b,fs[p.1]? =some (off,size,b)→k<off∨off+size≤k

theorem Ee{g:G}{w:World}{fs:List (Nat×Nat×Bool)}{places:Array (Nat×Nat)}(hp: ∀(i off size:Nat) b,fs[i]? =some (off,size,b)→places[i]? =some (off,size)){ρ:Operand→Value}{ρV:Operand→V}{ρK:Operand→Nat→K}{lab:Nat→Loc}
  (hρ: ∀x xs (l:Nat→Nat→Loc),aV (ρV x)=some xs→RV g w (fun _=>ρK x) l (ρ x) (ρV x)):
  ∀(ps:List (Nat×Operand)) (cs:List T) (cv:Array Value) (κ:Nat→K) {rs:List T},tP fs cs (ps.map fun p=>(p.1,ρV p.2))=some rs→cv.size=cs.length→(∀(j:Nat) x,cs[j]? =some x→ ∃c,cv[j]? =some c∧oQ c∧LF g w (κ j) (lab j) c x)→
  ∃rv,Instr.fill (places[·]?) cv (ps.map fun p=>(p.1,ρ p.2))=some rv∧rv.size=rs.length∧(∀(j:Nat) x,rs[j]? =some x→ ∃c,rv[j]? =some c∧oQ c∧LF g w (Cd fs κ (ps.map fun p=>(p.1,ρK p.2)) j) (lab j) c x)∧
   (∀k,Cb fs k ps→rv[k]? =cv[k]? ∧rs[k]? =cs[k]?)∧
   ∀(p i off size j:Nat) b x,ps[p]? =some (i,x)→fs[i]? =some (off,size,b)→j<size→Cb fs (off+j) (ps.drop (p+1))→rv[off+j]? =sH (ρ x) 0 j∧rs[off+j]? =(ρV x).leaf 0 j
 | [],cs,cv,κ,rs,h,hsz,hc=>by
  simp only[Tb,tP,z10]at h; subst h; exact⟨cv,rfl,hsz,hc,fun _ _=>⟨rfl,rfl⟩,fun p i off size j b x hx=>by simp at hx⟩
 | (i,x)::r,cs,cv,κ,rs,h,hsz,hc=>by
  simp only[z52]at h; unfold tP at h; split at h
  ·rename_i off size b xs hf hxs
   split at h
   ·rename_i hle
    obtain⟨hl,hle⟩:=hle; subst hl; obtain⟨k1,k2,k3,k4,_⟩:=iI (hρ x xs (fun _ j=>lab (off+j)) hxs) hxs
    have hl2:(ρ x).cells.toList.length=xs.length:=by simpa using k1
    obtain⟨s1,s2⟩:=BZ off (ρ x).cells.toList 0 cv (by rw[hl2,hsz]; omega)
    have hfold:(ρ x).cells.zipIdx.foldl (fun cs (x:Value×Nat)=>cs.setIfInBounds (off+x.2) x.1) cv=((ρ x).cells.toList.zipIdx 0).foldl (fun cs (x:Value×Nat)=>cs.setIfInBounds (off+x.2) x.1) cv:=by
     rw[←Xj]; simp
    have hget: ∀k,((ρ x).cells.zipIdx.foldl (fun cs (x:Value×Nat)=>cs.setIfInBounds (off+x.2) x.1) cv)[k]? =if off≤k∧k<off+xs.length then(ρ x).cells[k - off]? else cv[k]? :=by
     intro k; rw[hfold,s2 k,hl2]; simp only[z75,z27]
    have hseg:=fun k=>sD cs xs off hle k
    obtain⟨rv,f1,f2,f3,f4,f5⟩:=Ee hp hρ r (cs.take off++xs++cs.drop (off+xs.length)) ((ρ x).cells.zipIdx.foldl (fun cs (x:Value×Nat)=>cs.setIfInBounds (off+x.2) x.1) cv) (fun j=>if off≤j∧j<off+xs.length then ρK x (j - off)else κ j) h
     (by rw[hfold,s1,hsz]; simp only[z17,z64,z77]; omega) (fun j y hy=>by
      rw[hseg]at hy; rw[hget]; by_cases hin:off≤j∧j<off+xs.length
      ·rw[z19 hin]at hy ⊢
       obtain⟨c,c1,c2,c3⟩:=k2 _ y hy; refine⟨c,c1,c2, ?_⟩
       rw[show off+(j - off)=j by omega]at c3
       rw[z19 hin]; exact c3
      ·rw[z14 hin]at hy ⊢
       obtain⟨c,c1,c2,c3⟩:=hc _ y hy; exact⟨c,c1,c2,by rw[z14 hin]; exact c3⟩)
    refine⟨rv, ?_,f2,fun j y hy=> ?_,fun k hk=> ?_,fun p i' off' size' j b' x' hx' hf' hj hfr=> ?_⟩
    ·simp only[z52,Instr.fill,hp i off xs.length b hf,k1]
     have hnot: ¬ (decide (off+xs.length > cv.size)=true):=by simp; omega
     simp only[ne_eq,not_true_eq_false,decide_false,z40,hnot]; exact f1
    ·simp only[z52,Cd,hf]
     exact f3 j y hy
    ·have h1:=f4 k (fun p hp=>hk p (z29 _ hp))
     have h2:=hk (i,x) z34 off xs.length b hf; rw[hget,hseg,z14 (by omega),z14 (by omega)]at h1
     exact h1
    ·cases p with
     | zero=>
      simp only[z24,z10,z41]at hx'
      obtain⟨rfl,rfl⟩:=hx'; rw[hf]at hf'; simp only[z10,z41]at hf'; obtain⟨rfl,rfl,rfl⟩:=hf'; have h1:=f4 (off+j) (by simpa using hfr)
      rw[hget,hseg,z19 (by omega),z19 (by omega),z82]at h1
      rw[h1.1,h1.2,k3 j hj,k4 j]; exact⟨rfl,rfl⟩
     | succ p=>
      simp only[z25]at hx'
      exact f5 p i' off' size' j b' x' hx' hf' hj (by simpa using hfr)
   ·cases h
  ·cases h

theorem Sn(hT:bE P τ){t:TypeId}{ti:TI}{fs:List (Nat×Nat×Bool)}{parts:Array (Nat×Operand)}{rs:List T}(M:List (Loc×Loc))(hd:o.dst=some d)(hn:d<st.n)(ho:o.op= .build t parts)(ht:τ t=some ti)(hk:ti.kind= .struct fs)
  (hr:tP fs ti.zero (parts.toList.map fun p=>(p.1,ev st.sl p.2))=some rs)
  (hM: ∀m∈M, ∃(p i off size j t':Nat) (b:Bool),parts.toList[p]? =some (i,Operand.tmp t')∧fs[i]? =some (off,size,b)∧j<size∧Cb fs (off+j) (parts.toList.drop (p+1))∧m=(.s t' 0 j, .s d 0 (off+j))∧t'≠d∧ ∃y,st.at (.s t' 0 j)=some y):
  pW P g0 w0 o st ((st.put d (.one (.ag rs)) (fun _=>Cd fs (Dr ti.zero) (parts.toList.map fun p=>(p.1,opK st p.2 0)))).mvs M):=by
 intro a w ⟨g,hs⟩; obtain⟨info,dt,z,q1,q2,q3,q4,q5,q6,q7,q8,q9⟩:=hT.get ht; obtain⟨gs,hgs,hlen,hfld⟩:=Ea hT (s:=t) (fs:=fs) (by unfold tk; rw[ht]; simp [hk])
 obtain⟨e,hz⟩:=kP q6; let places:Array (Nat×Nat):=gs.map fun f=>(f.offset,((P.info? f.type).map (·.size)).getD 0)
 have hp: ∀(i off size:Nat) b,fs[i]? =some (off,size,b)→places[i]? =some (off,size):=by
  intro i off size b hf; obtain⟨gf,inf,h1,h2,h3,h4,_⟩:=hfld i _ hf; simp [places,h1,h3,h2,h4]
 have hmapM:(gs.mapM fun f=>(do pure (f.offset, ←sizeOf f.type):Sem (Nat×Nat))).run P w= .ok places w:=by
  have gen: ∀(l:List Field),(∀f∈l, ∃inf,P.info? f.type=some inf)→(l.mapM fun f=>(do pure (f.offset, ←sizeOf f.type):Sem (Nat×Nat))).run P w= .ok (l.map fun f=>(f.offset,((P.info? f.type).map (·.size)).getD 0)) w:=by
   intro l; induction l with
   | nil=>intro _; rfl
   | cons f r ih=>
    intro h; obtain⟨inf,hi⟩:=h f z34; have hsz:(sizeOf f.type).run P w= .ok inf.size w:=by simp [sizeOf,typeInfo,hi]
    rw[List.mapM_cons]; simp only[Sem.run_bind,hsz,Result.andThen_ok,Sem.run_pure]; rw[ih (fun x hx=>h x (z29 _ hx))]
    simp [hi]
  have h:=gen gs.toList (fun f hf=>by
   obtain⟨i,hi⟩:=z60 hf
   have hlt:i<fs.length:=by have:=cR hi; rw[←hlen]; simpa using this
   obtain⟨gf,inf,h1,_,h3,_⟩:=hfld i _ (z12 hlt)
   rw[←z27,hi]at h1
   cases h1; exact⟨inf,h3⟩)
  rw[z155]; simp only[Sem.run_map,h,Result.andThen_ok]; congr 1
  apply Nw
  simp [places]
 obtain⟨rv,f1,f2,f3,_,f5⟩:=Ee (g:=g) (w:=w) (lab:=fun j=> .s d 0 j) hp (ρ:=a.eval) (ρV:=ev st.sl) (ρK:=fun x=>opK st x 0) (fun x xs l hc=>by
  have h1:=hs.ev_rv x l; cases hv:ev st.sl x with
  | one y=>rw[hv]at h1; exact h1
  | tup ws=>rw[hv]at hc; simp [aV]at hc) parts.toList ti.zero z.cells (Dr ti.zero) hr (by simpa using e) (fun j x hx=>by
  obtain⟨v,hv,hc⟩:=hz j x hx; obtain⟨c1,c2⟩:=rJ hc; refine⟨v,by simpa using hv,(c1 (fun _=>False) w).not_agg, ?_⟩
  unfold Dr kM; rw[hx]; simp only; by_cases hsc:scal x=true
  ·rw[z19 hsc]; exact⟨hsc,c1 _ _⟩
  ·rw[z14 hsc]; exact Bg hc (by simpa using hsc))
 have hv:(execOp a.eval o).run P w= .ok (.value (.agg rv)) w:=by
  obtain⟨dst,op,ty,pos,after,guard⟩:=o; simp only at ho; subst ho; have hp2:(parts.map fun x=>(x.fst,a.eval x.snd)).toList=parts.toList.map fun p=>(p.1,a.eval p.2):=by simp
  simp only[execOp,Instr.build,Sem.run_bind,zeroValue,typeInfo,run_program,Result.andThen_ok,q1,Sem.run_pure,q5,run_underlying hgs]; rw[hmapM]; simp only[Result.andThen_ok]; rw[hp2,f1]; rfl
 refine⟨_,w,hv, .inl ⟨_,rfl, ?_⟩⟩
 rw[hd]; have hd':d<a.tmps.size:=by rw[hs.size]; exact hn
 have h1:=hs.set hn (u:= .agg rv) (r:= .one (.ag rs)) (κ:=fun _=>Cd fs (Dr ti.zero) (parts.toList.map fun p=>(p.1,opK st p.2 0))) ⟨rv,rfl,f2,f3⟩ (fun h=>absurd rfl h)
 obtain⟨g',_,h2⟩:=h1.mvs M (fun m hm=>by
  obtain⟨p,i,off,size,j,t',b,e1,e2,e3,e4,rfl,e6,y,hy⟩:=hM m hm; obtain⟨v1,v2⟩:=f5 p i off size j b _ e1 e2 e3 e4; have e7:(st.put d (.one (.ag rs)) (fun _=>Cd fs (Dr ti.zero) (parts.toList.map fun p=>(p.1,opK st p.2 0)))).at (.s t' 0 j)=st.at (.s t' 0 j):=at_put (by simp [aX,e6])
  refine⟨rfl,rfl,by simp [e6], ?_,⟨y,by rw[e7]; exact hy⟩, ?_⟩
  ·rw[oZ,e7]
   exact v2
  ·rw[Ar (l:= .s t' 0 j) hd' (by simp [aX,e6])]
   simp only[vAt]; rw[Act.put_getD a d _ _ hd',z19 rfl]; exact v1)
 exact⟨g',h2⟩
end
end Go.Own

namespace Go.Own
open Go.RowKit

structure St.le (t s:St):Prop where
 n:t.n=s.n
 sl: ∀i,t.sl i= .one .junk∨t.sl i=s.sl i
 ob: ∀o,t.ob o=none∨t.ob o=s.ob o
 fl: ∀l x,t.at l=some x→(s.fl l).lo (t.fl l)=true
 cp: ∀i k xs,(t.sl i).comp k=some (.cp xs)→(s.fl (.s i k 0)).lo (t.fl (.s i k 0))=true
 pl: ∀i,aI (t.sl i)≠ .none→t.fl (.s i 0 0)≠ .D→s.fl (.s i 0 0)≠ .D∧ ∀y,s.at (aI (t.sl i))=some y→t.at (aI (t.sl i))=s.at (aI (t.sl i))∧(t.fl (aI (t.sl i))).hold=true

theorem cC.relax{g0:G}{w0:World}{s t:St}{a:Act}{g:G}{w:World}(h:cC g0 w0 s a g w)(hle:t.le s):cC g0 w0 t a g w:=by
 refine⟨h.framed,h.ok,by rw[hle.n]; exact h.size,h.defers,fun i=> ?_,fun o cells hc=> ?_,fun i hi hf=> ?_,h.bp,by rw[hle.n]; exact h.nle⟩
 ·rcases hle.sl i with e | e
  ·rw[e]; trivial
  ·have hs:=h.slots i
   have hat: ∀k j x,(t.sl i).leaf k j=some x→t.at (.s i k j)=some x:=fun k j x hx=>hx
   have hcp:=hle.cp i; rw[e]at hat hcp ⊢; exact hs.map (fun _=>rfl) (fun k j x u hx hu _ hf=>hf.lo h.ok rfl (hle.fl _ _ (hat k j x hx))) (fun k xs hx b off hc=>hc.lo (hcp k xs hx))
 ·rcases hle.ob o with e | e
  ·rw[e]at hc; cases hc
  ·have hc':s.ob o=some cells:=by rw[←e]; exact hc
   obtain⟨arr,ty,h1,h2,h3,h4⟩:=h.obs o cells hc'; refine⟨arr,ty,h1,h2,h3,fun j x hx=> ?_⟩
   obtain⟨c,c1,c2,c3⟩:=h4 j x hx; refine⟨c,c1,c2,c3.lo h.ok rfl (hle.fl _ x ?_)⟩
   rw[St.at_oc,hc]; exact hx
 ·obtain⟨p1,p23⟩:=hle.pl i hi hf
  rcases hle.sl i with e | e
  ·rw[e]at hi; exact absurd rfl hi
  ·rw[e]at hi p23 ⊢
   obtain⟨q1,q2⟩:=h.pls i hi p1; obtain⟨y,hy⟩:=q2.root hi; obtain⟨p2,p3⟩:=p23 y hy; refine⟨p3, ?_⟩
   exact q2.congr rfl p2 (fun _ _ _ _ _ _ _ h=>h)

theorem Sim.relax{g0:G}{w0:World}{s t:St}{a:Act}{w:World}(h:Sim g0 w0 s a w)(hle:t.le s):Sim g0 w0 t a w:=by
 obtain⟨g,h⟩:=h; exact⟨g,h.relax hle⟩

theorem pW.relax{P:Program}{g0:G}{w0:World}{o:Oper}{st s t:St}(h:pW P g0 w0 o st s)(hle:t.le s):pW P g0 w0 o st t:=by
 intro a w hs; obtain⟨r,w',h1,h2⟩:=h a w hs; refine⟨r,w',h1, ?_⟩
 rcases h2 with⟨v,e,h2⟩ | ⟨e,h2⟩
 ·exact .inl ⟨v,e,h2.relax hle⟩
 ·exact .inr ⟨e,h2.relax hle⟩

def mvK:List (Loc×Loc)→(Loc→K)→Loc→K
 | [],f=>f
 | (a,b)::r,f=>mvK r (fun m=>if m=b then f a else if m=a then(f a).cp else f m)

theorem YW(M:List (Loc×Loc)): ∀(st:St),(st.mvs M).sl=st.sl:=by
 induction M with
 | nil=>intro st; rfl
 | cons m r ih=>intro st; exact(ih _).trans rfl

theorem YX(M:List (Loc×Loc)): ∀(st:St),(st.mvs M).ob=st.ob:=by
 induction M with
 | nil=>intro st; rfl
 | cons m r ih=>intro st; exact(ih _).trans rfl

theorem YY(M:List (Loc×Loc)): ∀(st:St),(st.mvs M).n=st.n:=by
 induction M with
 | nil=>intro st; rfl
 | cons m r ih=>intro st; exact(ih _).trans rfl

theorem Py(M:List (Loc×Loc)): ∀ {f f':Loc→K} {l:Loc},f l=f' l→(∀m∈M,f m.1=f' m.1∧f m.2=f' m.2)→mvK M f l=mvK M f' l:=by
 induction M with
 | nil=>intro f f' l h _; exact h
 | cons m r ih=>
  intro f f' l h hM; obtain⟨a,b⟩:=m; have ha:f a=f' a:=(hM (a,b) z34).1; have key: ∀m,f m=f' m→(if m=b then f a else if m=a then(f a).cp else f m)=(if m=b then f' a else if m=a then(f' a).cp else f' m):=fun m hm=>by rw[ha,hm]
  exact ih (key l h) (fun m' hm'=>by
   obtain⟨h1,h2⟩:=hM m' (z29 _ hm'); exact⟨key _ h1,key _ h2⟩)

theorem YZ(M:List (Loc×Loc)): ∀ {st:St} {l:Loc} {x:T},st.at l=some x→(∀m∈M,(∃y,st.at m.1=some y)∧(∃y,st.at m.2=some y))→(∀m∈M,m.1≠ .none∧m.2≠ .none)→(st.mvs M).fl l=mvK M st.fl l:=by
 induction M with
 | nil=>intro st l x _ _ _; rfl
 | cons m r ih=>
  intro st l x hx hM hn; obtain⟨a,b⟩:=m; have hn1:=hn (a,b) z34; have hR:(fun m=>decide (m=a)||decide (m=b)) Loc.none=false:=by simp [Ne.symm hn1.1,Ne.symm hn1.2]
  have hfl: ∀m y,st.at m=some y→(st.mv a b).fl m=(if m=b then st.fl a else if m=a then(st.fl a).cp else st.fl m):=fun m y hy=>xX hR hy
  rw[St.mvs,ih (st:=st.mv a b) (x:=x) hx (fun m' hm'=>hM m' (z29 _ hm')) (fun m' hm'=>hn m' (z29 _ hm'))]
  refine Py r (hfl l x hx) (fun m' hm'=> ?_)
  obtain⟨⟨y1,h1⟩,⟨y2,h2⟩⟩:=hM m' (z29 _ hm'); exact⟨hfl _ y1 h1,hfl _ y2 h2⟩

theorem LU(M:List (Loc×Loc)): ∀ {st:St} {i k j:Nat},(∀m∈M,aI (st.sl i)≠m.1∧aI (st.sl i)≠m.2)→(∀m∈M,Loc.s i k j≠m.1∧Loc.s i k j≠m.2)→(st.mvs M).fl (.s i k j)=st.fl (.s i k j):=by
 induction M with
 | nil=>intro st i k j _ _; rfl
 | cons m r ih=>
  intro st i k j h1 h2; obtain⟨a,b⟩:=m; rw[St.mvs,ih (st:=st.mv a b) (fun m' hm'=>h1 m' (z29 _ hm')) (fun m' hm'=>h2 m' (z29 _ hm'))]
  obtain⟨e1,e2⟩:=h1 (a,b) z34; obtain⟨e3,e4⟩:=h2 (a,b) z34; simp only at e1 e2 e3 e4; simp [St.mv,St.setf,e1,e2,e3,e4]

theorem Uj(M:List (Loc×Loc)): ∀ {f:Loc→K} {l:Loc},(∀m∈M,l≠m.1∧l≠m.2)→mvK M f l=f l:=by
 induction M with
 | nil=>intro f l _; rfl
 | cons m r ih=>
  intro f l h; obtain⟨a,b⟩:=m; obtain⟨e1,e2⟩:=h (a,b) z34; simp only at e1 e2; rw[mvK,ih (fun m' hm'=>h m' (z29 _ hm')),z14 e2,z14 e1]

end Go.Own

namespace Go.Own
open Go.RowKit

structure D where
  sl:Nat→V
  ob:Vz

def D.put(x:D)(d:Nat)(v:V):D:= { x with sl:=fun i=>if i=d then v else x.sl i }
def D.setO(x:D)(o:Nat)(cs:List T):D:= { x with ob:=fun o'=>if o'=o then some cs else x.ob o' }
def D.at(x:D)(l:Loc):Option T:=atL x.sl x.ob l

def bX:W→W→Bool
  | .junk, .junk=>false
  | .c x, .c y=>tY x y
  | .ag xs, .ag ys=>fY xs ys
  | .ptr o p, .ptr o' p'=>Nat.beq o o'&&Nat.beq p p'
  | .cp xs, .cp ys=>fY xs ys
  | .pp l p _ j, .pp l' p' _ j'=>decide (l=l')&&Nat.beq p.length p'.length&&Nat.beq j j'
  | .al l p, .al l' p'=>decide (l=l')&&Nat.beq p.length p'.length
  | .nilp, .nilp=>true
  | .nilp, .ptr _ _=>true
  | .nilp, .cp _=>true
  | .ifc _, .ifc _=>true
  | .fn f cs, .fn f' cs'=>Nat.beq f f'&&decide (cs=cs')
  | _,_=>false
def nJ:List W→List W→Bool
  | [],[]=>true
  | x::xs,y::ys=>bX x y&&nJ xs ys
  | _,_=>false
def fits:V→V→Bool
  | .one x, .one y=>bX x y
  | .tup xs, .tup ys=>nJ xs ys
  | _,_=>false

structure FA where
  n:Nat
  sh:List V
  obs:List (Nat×List T)
  al:List Nat:=[]
  tk:List Nat:=[]
  dp:List Nat:=[]
  keep:List (Nat×List Nat):=[]
  fz:List Nat:=[]
  nw:List Nat:=[]
  n0:Option Nat:=none
  io:Option Nat:=none
  ioa:List Nat:=[]
  mks:List (Nat×List (Nat×Nat)):=[]
  lb:Option (List (List (List K))×List (List K)×Bool):=none

def dK{α:Type}(i:Nat):List (Nat×α)→Option α
  | []=>none
  | (j,a)::r=>bif Nat.beq i j then some a else dK i r

def FA.shOf(F:FA)(i:Nat):V:=match F.sh[i]? with | some v=>v | none=> .one .junk
def FA.obOf(F:FA)(o:Nat):List T:=match dK o F.obs with | some v=>v | none=> []

structure B where
  sl:List (Nat×List (List K))
  ob:List (Nat×List K)

def CU(κ:List (List K))(k j:Nat):Option K:=match κ[k]? with | some r=>r[j]? | none=>none
def B.get(b:B):Loc→Option K
  | .s i k j=>match dK i b.sl with | some κ=>CU κ k j | none=>none
  | .oc o j=>match dK o b.ob with | some r=>r[j]? | none=>none
  | _=>none
def B.kd(b:B)(l:Loc):K:=match b.get l with | some q=>q | none=> .D
def B.has(b:B)(i:Nat):Bool:=(dK i b.sl).isSome
def B.hasO(b:B)(o:Nat):Bool:=(dK o b.ob).isSome
def B.hasL(b:B):Loc→Bool
  | .s i _ _=>b.has i
  | .oc o _=>b.hasO o
  | _=>false

def B.S(n:Nat)(b:B)(x:D):St:=
  { n:=n
    sl:=fun i=>if b.has i then x.sl i else .one .junk
    ob:=fun o=>if b.hasO o then x.ob o else none
    fl:=b.kd }

structure Ag (F:FA) (b:B) (x:D):Prop where
  sl: ∀i,b.has i=true→x.sl i= .tup []∨fits (x.sl i) (F.shOf i)=true
  ob: ∀o,b.hasO o=true→ ∃cs,x.ob o=some cs∧fY cs (F.obOf o)=true

theorem AG{α β:Type}(f:Nat→α→β)(i:Nat): ∀l:List (Nat×α),dK i (l.map fun p=>(p.1,f p.1 p.2))=(dK i l).map (f i)
  | []=>rfl
  | (j,a)::r=>by
    simp only[z52,dK]; cases h:Nat.beq i j with
    | true=>have:=z16 h; subst this; rfl
    | false=>exact AG f i r

theorem fN{α:Type}(p:Nat→Bool)(i:Nat): ∀l:List (Nat×α),dK i (l.filter fun q=>p q.1)=if p i=true then dK i l else none
  | []=>by simp [dK]
  | (j,a)::r=>by
    simp only[List.filter_cons]; by_cases hj:p j=true
    · simp only[z19 hj,dK]
      cases h:Nat.beq i j with
      | true=>have:=z16 h; subst this; simp [hj]
      | false=>simpa using fN p i r
    · simp only[z14 hj,dK]
      rw[fN p i r]; cases h:Nat.beq i j with
      | true=>have:=z16 h; subst this; simp [hj]
      | false=>rfl

def wK(f:Nat→K→K):Nat→List K→List K
  | _,[]=> []
  | j,q::r=>f j q::wK f (j+1) r
def tS(f:Nat→Nat→K→K):Nat→List (List K)→List (List K)
  | _,[]=> []
  | k,q::r=>wK (f k) 0 q::tS f (k+1) r

theorem Bb(f:Nat→K→K): ∀(l:List K) (j0 j:Nat),(wK f j0 l)[j]? =(l[j]?).map (f (j0+j))
  | [],_,_=>by simp [wK]
  | q::r,j0,0=>by simp [wK]
  | q::r,j0,j+1=>by simp only[wK,z25]; rw[Bb f r (j0+1) j]; congr 2; omega

theorem EX(f:Nat→Nat→K→K): ∀(l:List (List K)) (k0 k:Nat),(tS f k0 l)[k]? =(l[k]?).map (fun r=>wK (f (k0+k)) 0 r)
  | [],_,_=>by simp [tS]
  | q::r,k0,0=>by simp [tS]
  | q::r,k0,k+1=>by simp only[tS,z25]; rw[EX f r (k0+1) k]; congr 2; funext; congr 2; omega

theorem Js(f:Nat→Nat→K→K)(κ:List (List K))(k j:Nat):CU (tS f 0 κ) k j=(CU κ k j).map (f k j):=by
  simp only[CU,EX,z28]; cases κ[k]? with
  | none=>rfl
  | some r=>simp only[z36,Bb,z28]

def B.mapK(f:Loc→K→K)(b:B):B:=
  { sl:=b.sl.map fun p=>(p.1,tS (fun k j=>f (.s p.1 k j)) 0 p.2),ob:=b.ob.map fun p=>(p.1,wK (fun j=>f (.oc p.1 j)) 0 p.2) }

theorem Ha(f:Loc→K→K)(b:B)(l:Loc):(b.mapK f).get l=(b.get l).map (f l):=by
  cases l with
  | s i k j=>
    simp only[B.get,B.mapK]; rw[AG (fun i κ=>tS (fun k j=>f (.s i k j)) 0 κ)]
    cases dK i b.sl with
    | none=>rfl
    | some κ=>simp only[z36,Js]
  | oc o j=>
    simp only[B.get,B.mapK]; rw[AG (fun o r=>wK (fun j=>f (.oc o j)) 0 r)]
    cases dK o b.ob with
    | none=>rfl
    | some r=>simp only[z36,Bb,z28]
  | _=>rfl

theorem MO(f:Loc→K→K)(b:B)(i:Nat):(b.mapK f).has i=b.has i:=by
  simp only[B.has,B.mapK]; rw[AG (fun i κ=>tS (fun k j=>f (.s i k j)) 0 κ)]
  cases dK i b.sl<;>rfl

theorem JH(f:Loc→K→K)(b:B)(o:Nat):(b.mapK f).hasO o=b.hasO o:=by
  simp only[B.hasO,B.mapK]; rw[AG (fun o r=>wK (fun j=>f (.oc o j)) 0 r)]
  cases dK o b.ob<;>rfl

theorem PC(f:Loc→K→K)(b:B)(l:Loc):(b.mapK f).kd l=match b.get l with | some q=>f l q | none=> .D:=by
  simp only[B.kd,Ha]; cases b.get l<;>rfl

def B.filt(p:Nat→Bool)(b:B):B:= { b with sl:=b.sl.filter fun q=>p q.1 }
theorem fP(p:Nat→Bool)(b:B)(i:Nat):(b.filt p).has i=(p i&&b.has i):=by
  simp only[B.has,B.filt]; rw[fN p i b.sl]; cases p i<;>simp
theorem Aa(p:Nat→Bool)(b:B)(o:Nat):(b.filt p).hasO o=b.hasO o:=rfl
theorem AL(p:Nat→Bool)(b:B)(l:Loc):(b.filt p).get l=match l with | .s i _ _=>if p i=true then b.get l else none | _=>b.get l:=by
  cases l with
  | s i k j=>
    simp only[B.get,B.filt]; rw[fN p i b.sl]; by_cases h:p i=true
    · rw[z19 h,z19 h]
    · rw[z14 h,z14 h]
  | _=>rfl

theorem gU{p:Nat→Bool}{b:B}{i k j:Nat}(h:p i=true):(b.filt p).kd (.s i k j)=b.kd (.s i k j):=by
  simp only[B.kd,AL,z19 h]
theorem Gr{p:Nat→Bool}{b:B}{o j:Nat}:(b.filt p).kd (.oc o j)=b.kd (.oc o j):=by
  simp only[B.kd,AL]

def RN(f:Nat→K):Nat→List T→List K
  | _,[]=> []
  | j,_::r=>f j::RN f (j+1) r
def BQ(f:Nat→K):W→List K
  | .ag xs=>RN f 0 xs
  | _=> [f 0]
def Au(f:Nat→Nat→K):Nat→List W→List (List K)
  | _,[]=> []
  | k,x::r=>BQ (f k) x::Au f (k+1) r
def qM(v:V)(f:Nat→Nat→K):List (List K):=match v with
  | .one w=> [BQ (f 0) w]
  | .tup ws=>Au f 0 ws

theorem Ck(f:Nat→K): ∀(l:List T) (j0 j:Nat),(RN f j0 l)[j]? =if j<l.length then some (f (j0+j))else none
  | [],_,_=>by simp [RN]
  | _::r,j0,0=>by simp [RN]
  | _::r,j0,j+1=>by
    simp only[RN,z25,z51]
    rw[Ck f r (j0+1) j,show j0+1+j=j0+(j+1)by omega]
    by_cases h:j<r.length
    · rw[z19 h,z19 (by omega)]
    · rw[z14 h,z14 (by omega)]

theorem zH(f:Nat→Nat→K): ∀(l:List W) (k0 k:Nat),(Au f k0 l)[k]? =(l[k]?).map (BQ (f (k0+k)))
  | [],_,_=>by simp [Au]
  | x::r,k0,0=>by simp [Au]
  | x::r,k0,k+1=>by simp only[Au,z25]; rw[zH f r (k0+1) k,show k0+1+k=k0+(k+1)by omega]

theorem Ac{xs ys:List T}(h:fY xs ys=true):xs.length=ys.length:=(tF h).1

theorem Gk{x y:W}(h:bX x y=true)(f:Nat→K)(j:Nat):(∀t,x.leaf j=some t→(BQ f y)[j]? =some (f j))∧(∀q,(BQ f y)[j]? =some q→q=f j):=by
  have h1: ∀z:W,(∀ys,z≠ .ag ys)→BQ f z=[f 0]:=by intro z hz; cases z<;>first | rfl | exact absurd rfl (hz _)
  have h2: ∀q,[f 0][j]? =some q→q=f j:=by
    intro q hq; cases j with
    | zero=>simpa using hq.symm
    | succ j=>simp at hq
  refine⟨fun t ht=> ?_,fun q hq=> ?_⟩
  · cases x with
    | c a=>
      cases y<;>simp [bX]at h
      cases j with
      | zero=>rfl
      | succ j=>simp [W.leaf]at ht
    | ag xs=>
      cases y<;>simp [bX]at h
      simp only[BQ,Ck,z28]; rw[z19]; rw[←Ac h]; exact cR ht
    | _=>simp [W.leaf]at ht
  · by_cases ha: ∃ys,y= .ag ys
    · obtain⟨ys,rfl⟩:=ha
      simp only[BQ,Ck,z28]at hq; split at hq<;>simp at hq
      exact hq.symm
    · rw[h1 y (fun ys e=>ha ⟨ys,e⟩)]at hq
      exact h2 q hq

theorem Bc: ∀ {xs ys:List W},nJ xs ys=true→ ∀ {k:Nat} {x:W},xs[k]? =some x→ ∃y,ys[k]? =some y∧bX x y=true
  | [],_,_,_,_,h=>by simp at h
  | x::xs,[],h,_,_,_=>by simp [nJ]at h
  | x::xs,y::ys,h,0,_,hk=>by
    simp only[nJ,z7]at h; simp only[z24,z10]at hk
    subst hk; exact⟨y,rfl,h.1⟩
  | x::xs,y::ys,h,k+1,_,hk=>by
    simp only[nJ,z7]at h; simp only[z25]at hk ⊢
    exact Bc h.2 hk

theorem CP{v s:V}(h:fits v s=true)(f:Nat→Nat→K){k j:Nat}{x:T}(hx:v.leaf k j=some x):CU (qM s f) k j=some (f k j):=by
  cases v with
  | one w=>
    cases s with
    | tup ws=>simp [fits]at h
    | one y=>
      cases k with
      | succ k=>simp [V.leaf]at hx
      | zero=>simp only[CU,qM,z24]; exact(Gk h (f 0) j).1 x hx
  | tup ws=>
    cases s with
    | one y=>simp [fits]at h
    | tup ys=>
      simp only[V.leaf,z22]at hx; obtain⟨w,hw,hx⟩:=hx; obtain⟨y,hy,hf⟩:=Bc h hw; simp only[CU,qM,zH,z28,hy,z36]; exact(Gk hf (f k) j).1 x hx

theorem Me{xs:List T}{y:W}(h:bX (.cp xs) y=true): ∃ys,y= .cp ys:=by cases y<;>simp [bX]at h; exact⟨_,rfl⟩

theorem Gl{v s:V}(h:fits v s=true)(f:Nat→Nat→K){k:Nat}{xs:List T}(hx:v.comp k=some (.cp xs)):CU (qM s f) k 0=some (f k 0):=by
  cases v with
  | one w=>
    cases s with
    | tup ws=>simp [fits]at h
    | one y=>
      cases k with
      | succ k=>simp [V.comp]at hx
      | zero=>
        simp only[V.comp,z10]at hx; subst hx; obtain⟨ys,rfl⟩:=Me h; rfl
  | tup ws=>
    cases s with
    | one y=>simp [fits]at h
    | tup ys=>
      simp only[V.comp]at hx; obtain⟨y,hy,hf⟩:=Bc h hx; obtain⟨zs,rfl⟩:=Me hf; simp only[CU,qM,zH,z28,hy,z36]; rfl

theorem eP{v s:V}(h:fits v s=true):aI v=aI s:=by
  cases v with
  | tup ws=>cases s with
    | one y=>simp [fits]at h
    | tup ys=>rfl
  | one w=>
    cases s with
    | tup ws=>simp [fits]at h
    | one y=>
      cases w<;>cases y<;>simp [fits,bX]at h<;>first | rfl | exact h.1 | exact h.1.1

theorem Jw{v s:V}(h:fits v s=true)(f:Nat→Nat→K)(hr:aI v≠ .none):CU (qM s f) 0 0=some (f 0 0):=by
  rw[eP h]at hr; cases s with
  | tup ws=>exact absurd rfl hr
  | one y=>cases y<;>first | rfl | exact absurd rfl hr
end Go.Own

namespace Go.Own
open Go.RowKit

theorem dR(q:K):q.lo q=true:=by cases q<;>simp [K.lo]
theorem Ik(q:K):q.lo .D=true:=by cases q<;>rfl
theorem lo_cp{a b:K}(h:a.lo b=true):a.cp.lo b.cp=true:=by
 cases a<;>cases b<;>simp_all [K.lo,K.cp]

structure Low (n:Nat) (b:B) (x:D) (s:St):Prop where
 n:s.n=n
 sl: ∀i,b.has i=true→s.sl i=x.sl i
 ob: ∀o,b.hasO o=true→s.ob o=x.ob o
 fl: ∀l t,b.hasL l=true→x.at l=some t→(s.fl l).lo (b.kd l)=true
 cp: ∀i k xs,b.has i=true→(x.sl i).comp k=some (.cp xs)→(s.fl (.s i k 0)).lo (b.kd (.s i k 0))=true
 al: ∀i,b.has i=true→aI (x.sl i)≠ .none→b.kd (.s i 0 0)≠ .D→s.fl (.s i 0 0)≠ .D

theorem Low.self(n:Nat)(b:B)(x:D):Low n b x (b.S n x):=
 ⟨rfl,fun i h=>by simp only[B.S]; rw[z19 h],fun o h=>by simp only[B.S]; rw[z19 h],fun _ _ _ _=>dR _,fun _ _ _ _ _=>dR _,fun _ _ _ h=>h⟩

theorem TT{b:B}{l:Loc}(h:b.hasL l=false):b.kd l= .D:=by
 cases l with
 | s i k j=>
  simp only[B.hasL,B.has,z144,z88]at h; simp only[B.kd,B.get,h]
 | oc o j=>
  simp only[B.hasL,B.hasO,z144,z88]at h; simp only[B.kd,B.get,h]
 | _=>rfl

theorem S_at{n:Nat}{b:B}{x:D}{l:Loc}{t:T}(h:(b.S n x).at l=some t):b.hasL l=true∧x.at l=some t:=by
 cases l with
 | s i k j=>
  simp only[St.at,atL,B.S]at h; by_cases e:b.has i=true
  ·rw[z19 e]at h; exact⟨e,h⟩
  ·rw[z14 e]at h
   cases k with
   | zero=>simp [V.leaf,W.leaf]at h
   | succ k=>simp [V.leaf]at h
 | oc o j=>
  simp only[St.at,atL,B.S]at h; by_cases e:b.hasO o=true
  ·rw[z19 e]at h; exact⟨e,h⟩
  ·rw[z14 e]at h; simp at h
 | _=>simp [St.at,atL]at h

theorem KW{n:Nat}{b:B}{x:D}{l:Loc}(h:b.hasL l=true):(b.S n x).at l=x.at l:=by
 cases l with
 | s i k j=>have h:b.has i=true:=h; simp only[St.at,D.at,atL,B.S]; rw[z19 h]
 | oc o j=>have h:b.hasO o=true:=h; simp only[St.at,D.at,atL,B.S]; rw[z19 h]
 | _=>cases h

def B.nrm(F:FA)(b:B):B:=b.filt fun i=>match aI (F.shOf i)with | .none=>true | l=>b.hasL l&&(b.kd l).hold

theorem Ag.filt{F:FA}{b:B}{x:D}(h:Ag F b x)(p:Nat→Bool):Ag F (b.filt p) x:=
 ⟨fun i hi=>h.sl i (by rw[fP]at hi; simp only[z7]at hi; exact hi.2),h.ob⟩

theorem Ag.nrm{F:FA}{b:B}{x:D}(h:Ag F b x):Ag F (b.nrm F) x:=h.filt _

theorem Ag.leaf_root{F:FA}{b:B}{x:D}(hA:Ag F b x){i k j:Nat}{t:T}(hi:b.has i=true)(hx:(x.sl i).leaf k j=some t):aI (F.shOf i)= .none:=by
 rcases hA.sl i hi with e | e
 ·rw[e]at hx
  cases k with
  | zero=>simp [V.leaf,W.leaf]at hx
  | succ k=>simp [V.leaf]at hx
 ·rw[←eP e]
  cases hv:x.sl i with
  | tup ws=>rfl
  | one w=>
   cases k with
   | zero=>cases w<;>first | rfl | (rw[hv]at hx; simp [V.leaf,W.leaf]at hx)
   | succ k=>rw[hv]at hx; simp [V.leaf]at hx

def Lw(F:FA)(b:B)(i:Nat):Bool:=match aI (F.shOf i)with | .none=>true | l=>b.hasL l&&(b.kd l).hold

theorem yU(F:FA)(b:B):b.nrm F=b.filt (Lw F b):=rfl

theorem EE{F:FA}{b:B}{i:Nat}(h:aI (F.shOf i)= .none):Lw F b i=true:=by simp only[Lw,h]
theorem Px{F:FA}{b:B}{i:Nat}(h:aI (F.shOf i)≠ .none)(hp:Lw F b i=true):b.hasL (aI (F.shOf i))=true∧(b.kd (aI (F.shOf i))).hold=true:=by
 unfold Lw at hp; split at hp
 ·rename_i e; exact absurd e h
 ·simpa using hp

theorem Low.le{F:FA}{n:Nat}{b:B}{x:D}{s:St}(hA:Ag F b x)(h:Low n b x s):((b.nrm F).S n x).le s:=by
 have hhas: ∀i,(b.nrm F).has i=true→b.has i=true∧Lw F b i=true:=fun i hi=>by
  rw[yU,fP]at hi; simpa [and_comm]using hi
 have hhasO: ∀o,(b.nrm F).hasO o=b.hasO o:=fun o=>rfl
 have hkd: ∀i k j,Lw F b i=true→(b.nrm F).kd (.s i k j)=b.kd (.s i k j):=fun i k j hp=>by rw[yU]; exact gU hp
 refine⟨h.n.symm,fun i=> ?_,fun o=> ?_,fun l t ht=> ?_,fun i k xs hx=> ?_,fun i hi hf=> ?_⟩
 ·simp only[B.S]
  by_cases e:(b.nrm F).has i=true
  ·rw[z19 e]; exact .inr (h.sl i (hhas i e).1).symm
  ·rw[z14 e]; exact .inl rfl
 ·simp only[B.S]
  by_cases e:(b.nrm F).hasO o=true
  ·rw[z19 e]; exact .inr (h.ob o (by rw[←hhasO]; exact e)).symm
  ·rw[z14 e]; exact .inl rfl
 ·obtain⟨h1,h2⟩:=S_at ht
  show(s.fl l).lo ((b.nrm F).kd l)=true; cases l with
  | s i k j=>
   obtain⟨q1,q2⟩:=hhas i h1; rw[hkd i k j q2]; exact h.fl _ t q1 h2
  | oc o j=>exact h.fl (.oc o j) t h1 h2
  | _=>exact Ik _
 ·simp only[B.S]at hx
  by_cases e:(b.nrm F).has i=true
  ·rw[z19 e]at hx
   obtain⟨q1,q2⟩:=hhas i e; show(s.fl (.s i k 0)).lo ((b.nrm F).kd (.s i k 0))=true; rw[hkd i k 0 q2]; exact h.cp i k xs q1 hx
  ·rw[z14 e]at hx
   cases k<;>simp [V.comp]at hx
 ·simp only[B.S]at hi
  by_cases e:(b.nrm F).has i=true
  ·rw[z19 e]at hi
   obtain⟨q1,q2⟩:=hhas i e; have hf':b.kd (.s i 0 0)≠ .D:=by rw[←hkd i 0 0 q2]; exact hf
   have hsl:((b.nrm F).S n x).sl i=x.sl i:=by simp only[B.S]; rw[z19 e]
   have hroot:aI (x.sl i)=aI (F.shOf i):=by
    rcases hA.sl i q1 with e2 | e2
    ·rw[e2]at hi; exact absurd rfl hi
    ·exact eP e2
   obtain⟨r1,r2⟩:=Px (by rw[←hroot]; exact hi) q2
   rw[←hroot]at r1 r2; rw[hsl]; refine⟨h.al i q1 hi hf',fun y hy=> ?_⟩
   generalize hl:aI (x.sl i)=l at r1 r2 hy; cases l with
   | s i' k' j'=>
    have h1:b.has i'=true:=r1; have hy':(x.sl i').leaf k' j'=some y:=by rw[←h.sl i' h1]; exact hy
    have h2:Lw F b i'=true:=EE (hA.leaf_root h1 hy'); have h3:(b.nrm F).has i'=true:=by rw[yU,fP,h1,h2]; rfl
    refine⟨?_, ?_⟩
    ·rw[KW (show(b.nrm F).hasL (.s i' k' j')=true from h3),St.at_s,h.sl i' h1]; rfl
    ·show((b.nrm F).kd (.s i' k' j')).hold=true
     rw[hkd i' k' j' h2]; exact r2
   | oc o' j'=>
    refine⟨?_,r2⟩
    rw[KW (show(b.nrm F).hasL (.oc o' j')=true from r1),St.at_oc,h.ob o' r1]; rfl
   | _=>simp [B.hasL]at r1
  ·rw[z14 e]at hi; exact absurd rfl hi
end Go.Own
