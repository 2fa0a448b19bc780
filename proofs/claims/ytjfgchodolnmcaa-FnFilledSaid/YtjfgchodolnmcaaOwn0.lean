/- A calculus for runs on plain data (part 1): whoever runs code on data, with its owners checked, runs the program. No conditions. -/
import Derived.Below
import Derived.Laws.AppendOwn
import Derived.Laws.BytesString
import Derived.Laws.Cells
import Derived.Laws.Entries
import Derived.Laws.MakeOwn
import Derived.Laws.OwnMore
import Derived.Laws.Pointers
import Derived.Laws.Rows
import Derived.Laws.Slices
import Derived.Laws.Small
import Derived.Laws.Strings
import Derived.Laws.StructEq
import Derived.Lib.AppendStr
import Derived.Orders
set_option linter.unusedVariables false
set_option linter.unusedSimpArgs false
set_option linter.unnecessarySimpa false
namespace Go.Own
abbrev z7 := @Bool.and_eq_true
abbrev z8 := @Option.bind_some
abbrev z9 := @decide_eq_false
abbrev z10 := @Option.some.injEq
abbrev z11 := @decide_eq_true
abbrev z12 := @cond_false
abbrev z13 := @if_neg
abbrev z14 := @List.getElem?_eq_getElem
abbrev z15 := @List.all_eq_true
abbrev z16 := @Nat.eq_of_beq_eq_true
abbrev z17 := @cond_true
abbrev z18 := @Option.bind_eq_some_iff
abbrev z19 := @if_pos
abbrev z20 := @List.getElem?_cons_zero
abbrev z21 := @List.length_singleton
abbrev z22 := @Option.map_eq_some_iff
abbrev z23 := @List.getElem?_cons_succ
abbrev z24 := @List.mem_of_getElem?
abbrev z25 := @List.mem_cons_of_mem
abbrev z26 := @Array.getElem?_toList
abbrev z27 := @List.length_nil
abbrev z28 := @decide_eq_true_eq
abbrev z29 := @List.mem_cons_self
abbrev z30 := @List.length_append
abbrev z31 := @Array.getElem?_eq_some_iff
abbrev z32 := @Nat.zero_add
abbrev z33 := @Nat.le_of_ble_eq_true
abbrev z34 := @Bool.not_true
abbrev z35 := @Option.map_some
abbrev z36 := @List.getElem?_map
abbrev z37 := @Bool.not_eq_true'
abbrev z38 := @List.length_take
abbrev z39 := @decide_eq_false_iff_not
abbrev z40 := @Array.mem_toList_iff
abbrev z41 := @Nat.le_trans
abbrev z42 := @Nat.beq_refl
abbrev z43 := @List.length_cons
abbrev z44 := @Bool.true_and
abbrev z45 := @Nat.mul_le_mul_right
abbrev z46 := @Option.some.inj
abbrev z47 := @Array.length_toList
abbrev z48 := @Prod.mk.injEq
abbrev z49 := @List.map_congr_left
abbrev z50 := @Bool.or_eq_true
abbrev z51 := @List.mem_map
abbrev z52 := @Bool.false_eq_true
abbrev z53 := @Nat.le_refl
abbrev z54 := @Bool.false_or
abbrev z55 := @Array.getD_eq_getD_getElem?
abbrev z56 := @List.getElem?_drop
abbrev z57 := @List.mem_range
abbrev z58 := @Bool.or_eq_false_iff
abbrev z59 := @List.countP_eq_length_filter
abbrev z60 := @Nat.lt_of_lt_of_le
abbrev z61 := @List.map_cons
abbrev z62 := @List.getElem?_append_right
abbrev z63 := @Option.getD_some
abbrev z64 := @List.mem_singleton
abbrev z65 := @List.length_drop
abbrev z66 := @Array.getElem?_eq_getElem
abbrev z67 := @List.getElem?_append_left
abbrev z68 := @Int.toNat_natCast
abbrev z69 := @Nat.add_zero
abbrev z70 := @List.getElem?_eq_none
abbrev z71 := @List.length_eq_zero_iff
abbrev z72 := @List.getElem?_of_mem
abbrev z73 := @List.getElem?_take
abbrev z74 := @List.mem_filter
abbrev z75 := @List.take_append_drop
abbrev z76 := @Bool.not_false
abbrev z77 := @Nat.add_sub_cancel_left
abbrev z78 := @List.mem_append
abbrev z79 := @Array.all_eq_true_iff_forall_mem
abbrev z80 := @List.getD_eq_getElem?_getD
abbrev z81 := @Nat.add_mul
abbrev z82 := @List.append_assoc
abbrev z83 := @Option.isNone_iff_eq_none
abbrev z84 := @List.getElem?_toArray
abbrev z85 := @Nat.succ_mul
abbrev z86 := @List.cons_append
abbrev z87 := @Bool.and_false
abbrev z88 := @List.size_toArray
abbrev z89 := @List.length_map
abbrev z90 := @List.append_nil
abbrev z91 := @List.getElem?_set_self
abbrev z92 := @Bool.not_eq_true
abbrev z93 := @List.take_length
abbrev z94 := @Bool.and_self
abbrev z95 := @List.getElem?_eq_some_iff
abbrev z96 := @List.mem_of_mem_take
abbrev z97 := @Array.getElem?_setIfInBounds_ne
abbrev z98 := @List.mem_cons
abbrev z99 := @Nat.testBit_two_pow
abbrev NJ := @List.all_cons
abbrev RX := @List.take_succ_cons
abbrev z102 := @List.eq_nil_of_length_eq_zero
abbrev TT := @List.filter_eq_nil_iff
abbrev LD := @Nat.zero_le
abbrev NI := @Nat.lt_or_ge
abbrev z106 := @Array.getElem?_setIfInBounds_self_of_lt
abbrev TS := @Array.getElem?_modify
abbrev TR := @Nat.ble_eq_true_of_le
abbrev Ph := @List.nil_append
abbrev Ni := @Bool.and_true
abbrev TQ := @List.range_eq_range'
abbrev Pg := @List.take_zero
abbrev Pf := @Nat.testBit_or
abbrev z114 := @List.mem_of_find?_eq_some
abbrev RU := @List.not_mem_nil
abbrev TP := @List.getElem?_range
abbrev z117 := @Array.size_setIfInBounds
abbrev LC := @Array.ext'
abbrev RT := @Option.map_none
abbrev Pe := @Nat.add_assoc
abbrev TO := @Array.foldl_toList
abbrev RS := @List.length_set
abbrev TN := @List.any_eq_false
abbrev TM := @Nat.add_sub_of_le
abbrev z125 := @List.eq_nil_iff_forall_not_mem
abbrev z126 := @Array.mem_of_getElem?
abbrev TL := @beq_self_eq_true
abbrev z128 := @List.getElem?_set_ne
abbrev RR := @List.any_cons
abbrev TJ := @Bool.eq_iff_iff
abbrev TH := @List.foldl_cons
abbrev Pd := @Int.le_refl
abbrev z133 := @List.drop_succ_cons
abbrev z134 := @Option.isSome_eq_false_iff
abbrev RQ := @Nat.sub_self
abbrev RO := @List.map_nil
abbrev z137 := @List.set_cons_zero
abbrev z138 := @List.set_cons_succ
abbrev z139 := @List.filter_append
abbrev z140 := @Array.mapM_eq_mapM_toList
abbrev TG := @List.nodup_nil
abbrev z142 := @List.drop_eq_getElem_cons
abbrev z143 := @List.mem_take_iff_getElem
abbrev TF := @Bool.and_assoc
abbrev z145 := @List.getElem?_zip_eq_some
abbrev z146 := @Classical.not_not
abbrev z147 := @Array.getElem?_replicate
abbrev z148 := @List.mem_range'_1
abbrev z149 := @Bool.eq_false_or_eq_true
abbrev z150 := @Option.isSome_iff_exists
abbrev z151 := @List.nodup_append
abbrev NH := @true_and
abbrev z153 := @Nat.le_mul_of_pos_right
abbrev z154 := @List.getElem?_replicate
abbrev z155 := @List.filter_cons_of_pos
abbrev z156 := @List.getElem_mem
abbrev z157 := @List.any_eq_true
abbrev z158 := @List.zipIdx_cons
abbrev z159 := @List.range'_succ
abbrev z160 := @Option.getD_none
abbrev z161 := @Array.getElem?_eq_none
abbrev TE := @List.map_map
abbrev z163 := @List.cons.injEq
abbrev z164 := @Array.getElem?_append
abbrev z165 := @Nat.sub_zero
end Go.Own
namespace Go.Own
open Go.RowKit

inductive T where
 | int (k:IntKind) (n:Int)
 | bool (b:Bool)
 | np
 | str (s:List UInt8)
 | sl (es:List (List T))
 | hole

inductive Loc where
 | none
 | ext
 | s (i k j:Nat)
 | obj (o:Nat)
 | oc (o j:Nat)
 deriving DecidableEq

inductive W where
 | junk
 | c (x:T)
 | ag (xs:List T)
 | ptr (o off:Nat)
 | cp (xs:List T)
 | pp (l:Loc) (p:List (Nat×Nat)) (i j:Nat)
 | al (l:Loc) (p:List (Nat×Nat))
 | nilp
 | ifc (isNil:Bool)
 | fn (f:FuncId) (caps:List (Nat×Nat))

inductive V where
 | one (w:W)
 | tup (ws:List W)

inductive K where
 | D | V | F | A (s:Nat) | U (s:Nat) | S | N
 deriving DecidableEq

def K.hold:K→Bool
 | .A _=>true
 | .U _=>true
 | _=>false

structure G where
 β:Nat→Nat
 own:Nat→Loc

abbrev Rg:=Nat→Option (List T)

def scal:T→Bool
 | .sl _=>false
 | .hole=>false
 | _=>true

inductive Rd (P:Nat→Prop) (w:World):Value→T→Prop
 | hole (v:Value) (h1: ∀cs,v≠ .agg cs) (h2: ∀vs,v≠ .tuple vs):Rd P w v .hole
 | int (k:IntKind) (n:Int):Rd P w (.int k n) (.int k n)
 | bool (b:Bool):Rd P w (.bool b) (.bool b)
 | np:Rd P w (.pointer none) .np
 | str (s:ByteArray):Rd P w (.string s) (.str s.data.toList)
 | nil (a:Option Addr) (cap:Nat):Rd P w (.slice a 0 cap) (.sl [])
 | sl (b off len cap s:Nat) (es:List (List T)) (cs:Nat→Nat→Value) (hl:es.length=len) (hc:len≤cap) (hs: ∀(i:Nat) (e:List T),es[i]? =some e→e.length=s) (hP:P b)
   (hm: ∀(i:Nat) (e:List T) (j:Nat) (x:T),es[i]? =some e→e[j]? =some x→w.cell? ⟨b,off+i*s+j,none⟩=some (cs i j))
   (hr: ∀(i:Nat) (e:List T) (j:Nat) (x:T),es[i]? =some e→e[j]? =some x→Rd P w (cs i j) x):Rd P w (.slice (some ⟨b,off,none⟩) len cap) (.sl es)

theorem bV{w w':World}{b k:Nat}(h:w'.heap[b]? =w.heap[b]?):w'.cell? ⟨b,k,none⟩=w.cell? ⟨b,k,none⟩:=by simp [World.cell?,h]

theorem Rd.mono{P P':Nat→Prop}{w w':World}(hP: ∀b,P b→P' b∧w'.heap[b]? =w.heap[b]?){v:Value}{x:T}(h:Rd P w v x):Rd P' w' v x:=by
 induction h with
 | hole v h1 h2=>exact .hole v h1 h2
 | int k n=>exact .int k n
 | bool b=>exact .bool b
 | np=>exact .np
 | str s=>exact .str s
 | nil a cap=>exact .nil a cap
 | sl b off len cap s es cs hl hc hs hPb hm hr ih=>
  exact .sl b off len cap s es cs hl hc hs (hP b hPb).1 (fun i e j x h1 h2=>(bV (hP b hPb).2).trans (hm i e j x h1 h2)) ih

theorem Rd.weaken{P P':Nat→Prop}{w:World}(hP: ∀b,P b→P' b){v:Value}{x:T}(h:Rd P w v x):Rd P' w v x:=h.mono fun b hb=>⟨hP b hb,rfl⟩

theorem Rd.scal{P P':Nat→Prop}{w w':World}{v:Value}{x:T}(h:Rd P w v x)(hx:scal x=true):Rd P' w' v x:=by
 cases h with
 | hole=>cases hx
 | int k n=>exact .int k n
 | bool b=>exact .bool b
 | np=>exact .np
 | str s=>exact .str s
 | nil a cap=>cases hx
 | sl=>cases hx

theorem Rd.not_agg{P:Nat→Prop}{w:World}{v:Value}{x:T}(h:Rd P w v x):(∀cs,v≠ .agg cs)∧ ∀vs,v≠ .tuple vs:=by
 cases h with
 | hole v h1 h2=>exact⟨h1,h2⟩
 | _=>exact⟨(by intro _ e; cases e),(by intro _ e; cases e)⟩

inductive Ow (Z:Nat→Prop) (deep:Bool) (w:World):Option Nat→(Nat→Prop)→Value→T→Prop
 | hole (t:Option Nat) (F:Nat→Prop) (v:Value) (h1: ∀cs,v≠ .agg cs) (h2: ∀vs,v≠ .tuple vs):Ow Z deep w t F v .hole
 | int (t:Option Nat) (F:Nat→Prop) (k:IntKind) (n:Int):Ow Z deep w t F (.int k n) (.int k n)
 | bool (t:Option Nat) (F:Nat→Prop) (b:Bool):Ow Z deep w t F (.bool b) (.bool b)
 | np (t:Option Nat) (F:Nat→Prop):Ow Z deep w t F (.pointer none) .np
 | str (t:Option Nat) (F:Nat→Prop) (s:ByteArray):Ow Z deep w t F (.string s) (.str s.data.toList)
 | nil (t:Option Nat) (F:Nat→Prop) (a:Option Addr):Ow Z deep w t F (.slice a 0 0) (.sl [])
 | frz (F:Nat→Prop) (v:Value) (x:T) (hd:deep=false) (h:Rd Z w v x):Ow Z deep w none F v x
 | sl (t:Option Nat) (F:Nat→Prop) (b len cap s:Nat) (arr:Array Value) (ty:TypeId) (es:List (List T)) (own:Nat→Nat×Nat) (cs:Nat→Nat→Value) (ht: ∀s0,t=some s0→s=s0) (hb:F b) (hh:w.heap[b]? =some (.cells arr ty (0,0))) (hl:es.length=len)
   (hc:len≤cap) (hcap:cap≤maxLen) (hs: ∀(i:Nat) (e:List T),es[i]? =some e→e.length=s) (ha:arr.size=cap*s)
   (hm: ∀(i:Nat) (e:List T) (j:Nat) (x:T),es[i]? =some e→e[j]? =some x→arr[i*s+j]? =some (cs i j))
   (hr: ∀(i:Nat) (e:List T) (j:Nat) (x:T),es[i]? =some e→e[j]? =some x→Ow Z deep w none (fun k=>F k∧k≠b∧own k=(i,j)) (cs i j) x):Ow Z deep w t F (.slice (some ⟨b,0,none⟩) len cap) (.sl es)

theorem Ow.mono{Z Z':Nat→Prop}{deep deep':Bool}{w w':World}{t:Option Nat}{F:Nat→Prop}{v:Value}{x:T}(h:Ow Z deep w t F v x)(hd:deep=false→deep'=false)(hZ:deep=false→ ∀b,Z b→Z' b∧w'.heap[b]? =w.heap[b]?):
  ∀ {F':Nat→Prop},(∀b,F b→F' b∧w'.heap[b]? =w.heap[b]?)→Ow Z' deep' w' t F' v x:=by
 induction h with
 | hole t F v h1 h2=>intro F' _; exact .hole t F' v h1 h2
 | int t F k n=>intro F' _; exact .int t F' k n
 | bool t F b=>intro F' _; exact .bool t F' b
 | np t F=>intro F' _; exact .np t F'
 | str t F s=>intro F' _; exact .str t F' s
 | nil t F a=>intro F' _; exact .nil t F' a
 | frz F v x h0 h=>intro F' _; exact .frz F' v x (hd h0) (h.mono (hZ h0))
 | sl t F b len cap s arr ty es own cs ht hb hh hl hc hcap hs ha hm hr ih=>
  intro F' hF; exact .sl t F' b len cap s arr ty es own cs ht (hF b hb).1 ((hF b hb).2.trans hh) hl hc hcap hs ha hm (fun i e j x h1 h2=>ih i e j x h1 h2 (fun k hk=>⟨⟨(hF k hk.1).1,hk.2⟩,(hF k hk.1).2⟩))

theorem bX(w:World)(b k:Nat)(arr:Array Value)(ty:TypeId)(fz:Nat×Nat)(h:w.heap[b]? =some (.cells arr ty fz)):w.cell? ⟨b,k,none⟩=arr[k]? :=by simp [World.cell?,h]

theorem Ow.rd{Z:Nat→Prop}{deep:Bool}{w:World}{t:Option Nat}{F:Nat→Prop}{v:Value}{x:T}(h:Ow Z deep w t F v x): ∀ {P:Nat→Prop},(∀b,F b→P b)→(∀b,Z b→P b)→Rd P w v x:=by
 induction h with
 | hole t F v h1 h2=>intro P _ _; exact .hole v h1 h2
 | int t F k n=>intro P _ _; exact .int k n
 | bool t F b=>intro P _ _; exact .bool b
 | np t F=>intro P _ _; exact .np
 | str t F s=>intro P _ _; exact .str s
 | nil t F a=>intro P _ _; exact .nil a 0
 | frz F v x h0 h=>intro P _ hZ; exact h.weaken hZ
 | sl t F b len cap s arr ty es own cs ht hb hh hl hc hcap hs ha hm hr ih=>
  intro P hF hZ; exact .sl b 0 len cap s es cs hl hc hs (hF b hb) (fun i e j x h1 h2=>by rw[z32,bX w b _ arr ty (0,0) hh]; exact hm i e j x h1 h2) (fun i e j x h1 h2=>ih i e j x h1 h2 (fun k hk=>hF k hk.1) hZ)

theorem Ow.sub{Z:Nat→Prop}{deep:Bool}{w:World}{n:Nat}{F:Nat→Prop}{v:Value}{x:T}(h:Ow Z deep w (some n) F v x):Ow Z deep w none F v x:=by
 cases h with
 | hole t F v h1 h2=>exact .hole none _ v h1 h2
 | int t F k n=>exact .int none _ k n
 | bool t F b=>exact .bool none _ b
 | np t F=>exact .np none _
 | str t F s=>exact .str none _ s
 | nil t F a=>exact .nil none _ a
 | sl t F b len cap s arr ty es own cs ht hb hh hl hc hcap hs ha hm hr=>exact .sl none _ b len cap s arr ty es own cs (by simp) hb hh hl hc hcap hs ha hm hr

theorem Ow.any{Z:Nat→Prop}{deep:Bool}{w:World}{t:Option Nat}{F:Nat→Prop}{v:Value}{x:T}(h:Ow Z deep w t F v x):Ow Z deep w none F v x:=by
 cases t with
 | none=>exact h
 | some n=>exact h.sub
theorem Rd.ow{P Z:Nat→Prop}{deep:Bool}{w w':World}{t:Option Nat}{F:Nat→Prop}{v:Value}{x:T}(h:Rd P w v x)(hx:Own.scal x=true):Ow Z deep w' t F v x:=by
 cases h with
 | hole=>cases hx
 | int k n=>exact .int t F k n
 | bool b=>exact .bool t F b
 | np=>exact .np t F
 | str s=>exact .str t F s
 | nil a cap=>cases hx
 | sl=>cases hx

def frz(g:G)(w:World)(b:Nat):Prop:=b<w.heap.size∧g.own b= .none
def all(g:G)(w:World)(b:Nat):Prop:=b<w.heap.size∧ ∀o,g.own b≠ .obj o

def Loc.place:Loc→Bool
 | .s _ _ _=>true
 | .oc _ _=>true
 | _=>false

theorem Loc.place_ne{l:Loc}(h:l.place=true):l≠ .none∧l≠ .ext∧ ∀o,l≠ .obj o:=by
 cases l<;>first | (simp [Loc.place]at h; done) | exact⟨by simp,by simp,by simp⟩

theorem frz.all{g:G}{w:World}{b:Nat}(h:frz g w b):all g w b:=⟨h.1,fun o e=>by rw[h.2]at e; cases e⟩

def gC:Nat→Option Nat
 | 0=>none
 | s+1=>some (s+1)
theorem oI{s:Nat}(h:0<s):gC s=some s:=by
 cases s with
 | zero=>omega
 | succ s=>rfl
def LF(g:G)(w:World)(κ:K)(l:Loc)(v:Value)(x:T):Prop:=
 match κ with
 | .D=>scal x=true→Rd (fun _=>False) w v x
 | .V=>Rd (all g w) w v x
 | .F=>Rd (frz g w) w v x
 | .A s=>Ow (frz g w) false w (some s) (fun b=>g.own b=l) v x
 | .U s=>Ow (frz g w) true w (gC s) (fun b=>g.own b=l) v x
 | .S=>scal x=true∧Rd (fun _=>False) w v x
 | .N=>x= .sl []∧ ∃a,v= .slice a 0 0

structure GOk (g:G) (w:World):Prop where
 own: ∀b,g.own b≠ .none→b<w.heap.size

theorem LF.scal{g g':G}{w w':World}{κ κ':K}{l l':Loc}{v:Value}{x:T}(h:LF g w κ l v x)(hx:Own.scal x=true)(hn:κ'≠ .N:=by simp):LF g' w' κ' l' v x:=by
 have h1:Rd (fun _=>False) w v x:=by
  cases κ with
  | D=>exact h hx
  | V=>exact Rd.scal h hx
  | F=>exact Rd.scal h hx
  | A n=>exact(Ow.rd h (P:=fun _=>True) (fun _ _=>trivial) (fun _ _=>trivial)).scal hx
  | U n=>exact(Ow.rd h (P:=fun _=>True) (fun _ _=>trivial) (fun _ _=>trivial)).scal hx
  | S=>exact h.2
  | N=>obtain⟨rfl,_⟩:=h; cases hx
 cases κ' with
 | D=>exact fun _=>h1.scal hx
 | V=>exact Rd.scal h1 hx
 | F=>exact Rd.scal h1 hx
 | A n=>exact h1.ow hx
 | U n=>exact h1.ow hx
 | S=>exact⟨hx,h1.scal hx⟩
 | N=>exact absurd rfl hn

theorem LF.rd{g:G}{w:World}{κ:K}{l:Loc}{v:Value}{x:T}(hok:GOk g w)(hl:l.place=true)(h:LF g w κ l v x)(hk:κ≠ .D):Rd (all g w) w v x:=by
 have hF: ∀b,g.own b=l→all g w b:=fun b hb=>⟨hok.own b (fun e=>(Loc.place_ne hl).1 (hb.symm.trans e)),fun o e=>(Loc.place_ne hl).2.2 o (hb.symm.trans e)⟩
 cases κ with
 | D=>exact absurd rfl hk
 | V=>exact h
 | F=>exact Rd.weaken (fun b hb=>hb.all) h
 | A n=>exact Ow.rd h hF (fun b hb=>hb.all)
 | U n=>exact Ow.rd h hF (fun b hb=>hb.all)
 | S=>exact h.2.scal h.1
 | N=>obtain⟨rfl,a,rfl⟩:=h; exact .nil _ _

def K.cp:K→K
 | .D=> .D
 | .V=> .V
 | .F=> .F
 | .A _=> .V
 | .U _=> .V
 | .S=> .S
 | .N=> .N

theorem LF.cp{g:G}{w:World}{κ:K}{l l':Loc}{v:Value}{x:T}(hok:GOk g w)(hl:l.place=true)(h:LF g w κ l v x):LF g w κ.cp l' v x:=by
 cases κ with
 | D=>exact h
 | V=>exact h
 | F=>exact h
 | A n=>exact h.rd hok hl (by simp)
 | U n=>exact h.rd hok hl (by simp)
 | S=>exact h
 | N=>exact h

structure Evo (g:G) (w:World) (g':G) (w':World) (X:Loc→Prop):Prop where
 size:w.heap.size≤w'.heap.size
 keep: ∀b,b<w.heap.size→ ¬ X (g.own b)→g'.own b=g.own b∧w'.heap[b]? =w.heap[b]?

theorem Evo.refl(g:G)(w:World)(X:Loc→Prop):Evo g w g w X:=⟨z53 _,fun _ _ _=>⟨rfl,rfl⟩⟩
theorem Evo.mono{g g':G}{w w':World}{X Y:Loc→Prop}(h:Evo g w g' w' X)(hX: ∀l,X l→Y l):Evo g w g' w' Y:=⟨h.size,fun b hb hy=>h.keep b hb (fun hx=>hy (hX _ hx))⟩
theorem Evo.trans{g0 g1 g2:G}{w0 w1 w2:World}{X:Loc→Prop}(h:Evo g0 w0 g1 w1 X)(k:Evo g1 w1 g2 w2 X):Evo g0 w0 g2 w2 X:=by
 refine⟨z41 h.size k.size,fun b hb hx=> ?_⟩
 obtain⟨h1,h2⟩:=h.keep b hb hx; obtain⟨k1,k2⟩:=k.keep b (z60 hb h.size) (by rw[h1]; exact hx)
 exact⟨k1.trans h1,k2.trans h2⟩

theorem LF.evo{g g':G}{w w':World}{X:Loc→Prop}{κ:K}{l:Loc}{v:Value}{x:T}(hE:Evo g w g' w' X)(hok:GOk g w)(hl:l≠ .none)(hn: ¬ X .none)(ho:κ.hold=true→ ¬ X l)(hV:κ= .V→ ∀b,all g w b→all g' w' b∧w'.heap[b]? =w.heap[b]?)
  (h:LF g w κ l v x):LF g' w' κ l v x:=by
 have hZ: ∀b,frz g w b→frz g' w' b∧w'.heap[b]? =w.heap[b]? :=fun b hb=>by
  obtain⟨h1,h2⟩:=hE.keep b hb.1 (by rw[hb.2]; exact hn)
  exact⟨⟨z60 hb.1 hE.size,h1.trans hb.2⟩,h2⟩
 have hF: ¬ X l→ ∀b,g.own b=l→g'.own b=l∧w'.heap[b]? =w.heap[b]? :=fun hx b hb=>by
  have hb2:b<w.heap.size:=hok.own b (fun e=>hl (hb.symm.trans e))
  obtain⟨h1,h2⟩:=hE.keep b hb2 (by rw[hb]; exact hx)
  exact⟨h1.trans hb,h2⟩
 cases κ with
 | D=>exact fun hx=>(h hx).scal hx
 | V=>exact Rd.mono (hV rfl) h
 | F=>exact Rd.mono hZ h
 | A n=>exact Ow.mono h id (fun _=>hZ) (hF (ho rfl))
 | U n=>exact Ow.mono h id (fun _=>hZ) (hF (ho rfl))
 | S=>exact⟨h.1,h.2.scal h.1⟩
 | N=>exact h

theorem LF.moved{g g':G}{w:World}{κ:K}{l l':Loc}{v:Value}{x:T}(hF: ∀b,g.own b=l→g'.own b=l')(hZ: ∀b,g.own b= .none→g'.own b= .none)(hA: ∀b,all g w b→all g' w b)(h:LF g w κ l v x):LF g' w κ l' v x:=by
 have hZ': ∀b,frz g w b→frz g' w b∧w.heap[b]? =w.heap[b]? :=fun b hb=>⟨⟨hb.1,hZ b hb.2⟩,rfl⟩
 cases κ with
 | D=>exact h
 | V=>exact Rd.weaken hA h
 | F=>exact Rd.mono hZ' h
 | A n=>exact Ow.mono h id (fun _=>hZ') (fun b hb=>⟨hF b hb,rfl⟩)
 | U n=>exact Ow.mono h id (fun _=>hZ') (fun b hb=>⟨hF b hb,rfl⟩)
 | S=>exact h
 | N=>exact h

theorem LF.freeze{g g':G}{w:World}{κ:K}{l l':Loc}{v:Value}{x:T}(hok:GOk g w)(hl:l≠ .none)(hk:κ≠ .D∧κ≠ .V)(hF: ∀b,g.own b=l→g'.own b= .none)(hZ: ∀b,g.own b= .none→g'.own b= .none)(h:LF g w κ l v x):LF g' w .F l' v x:=by
 have hF': ∀b,g.own b=l→frz g' w b:=fun b hb=>⟨hok.own b (fun e=>hl (hb.symm.trans e)),hF b hb⟩
 have hZ': ∀b,frz g w b→frz g' w b:=fun b hb=>⟨hb.1,hZ b hb.2⟩
 cases κ with
 | A n=>exact Ow.rd h hF' hZ'
 | U n=>exact Ow.rd h hF' hZ'
 | F=>exact Rd.weaken hZ' h
 | S=>exact Rd.scal h.2 h.1
 | N=>obtain⟨rfl,a,rfl⟩:=h; exact .nil _ _
 | D=>simp at hk
 | V=>simp at hk
end Go.Own

namespace Go.Own
open Go.RowKit

inductive TK where
  | other | int (k:IntKind) | bool | str | ptr | ifc | sl (e:TypeId) | arr (n:Nat) (e:TypeId)
  | struct (fs:List (Nat×Nat×Bool))
structure TI where
  agg:Bool
  size:Nat
  bytes:Nat
  zero:List T
  kind:TK
  cmp:Bool:=false

def vQ:Value→Option T
  | .int k n=>some (.int k n)
  | .bool b=>some (.bool b)
  | .string s=>some (.str s.data.toList)
  | .slice none 0 0=>some (.sl [])
  | .pointer none=>some .np
  | _=>none

def uM:List Value→Option (List T)
  | []=>some []
  | v::r=>match vQ v,uM r with
    | some x,some xs=>some (x::xs)
    | _,_=>none

def bG:Value→V
  | .agg cs=>match uM cs.toList with | some xs=> .one (.ag xs) | none=> .one .junk
  | .pointer none=> .one .nilp
  | .nilIface=> .one (.ifc true)
  | v=>match vQ v with | some x=> .one (.c x) | none=> .one .junk

def PX(P:Program):TK→TypeDesc→Prop
  | .other,_=>True
  | .int k,d=>d= .int k
  | .bool,d=>d= .bool
  | .str,d=>d= .string
  | .ptr,d=> ∃e,d= .pointer e
  | .ifc,d=> ∃ms,d= .interface ms
  | .sl e,d=>d= .slice e
  | .arr n e,d=>d= .array n e
  | .struct fs,d=> ∃gs,d= .struct gs∧gs.size=fs.length∧ ∀(j:Nat) f,fs[j]? =some f→ ∃g i,gs[j]? =some g∧g.offset=f.1∧P.info? g.type=some i∧i.size=f.2.1∧f.2.1≠0∧
      f.2.2=(match P.underlying g.type with | some (.struct _)=>true | some (.array _ _)=>true | _=>false)∧(P.underlying g.type).isSome

def CmpOk(P:Program)(t:TypeId)(zs:List T):Prop:=P.eqGuardType P.depth t=false∧P.stoodInHeld t=false∧ ∃gs,P.underlying t=some (.struct gs)∧gs.size=zs.length∧ ∀(j:Nat) g,gs[j]? =some g→g.name≠ "_" ∧g.offset=j∧
  (match zs[j]? with | some (.int k _)=>P.underlying g.type=some (.int k) | some (.bool _)=>P.underlying g.type=some .bool | some (.str _)=>P.underlying g.type=some .string | _=>False)
def aY(P:Program)(τ:TypeId→Option TI):Prop:= ∀t i,τ t=some i→ ∃info d z,P.info? t=some info∧P.underlying t=some d∧info.size=i.size∧info.bytes=i.bytes∧info.zero=some z∧
  uM z.cells.toList=some i.zero∧i.zero.length=i.size∧0<i.size∧i.agg=(match d with | .struct _=>true | .array _ _=>true | _=>false)∧PX P i.kind d∧(i.cmp=true→CmpOk P t i.zero)

def tk(τ:TypeId→Option TI)(t:TypeId):Option TK:=(τ t).map (fun i=>i.kind)

def ev(sl:Nat→V):Operand→V
  | .tmp t=>sl t
  | .const v=>bG v
  | .func f=> .one (.fn f [])
  | .global _=> .one .junk

theorem oL{v:Value}{x:T}(h:vQ v=some x):(∀P w,Rd P w v x)∧(∀Z d w t F,Ow Z d w t F v x):=by
  unfold vQ at h; split at h<;>simp only[z10,reduceCtorEq]at h<;>subst h
  · exact⟨fun _ _=> .int _ _,fun _ _ _ _ _=> .int _ _ _ _⟩
  · exact⟨fun _ _=> .bool _,fun _ _ _ _ _=> .bool _ _ _⟩
  · exact⟨fun _ _=> .str _,fun _ _ _ _ _=> .str _ _ _⟩
  · exact⟨fun _ _=> .nil _ _,fun _ _ _ _ _=> .nil _ _ _⟩
  · exact⟨fun _ _=> .np,fun _ _ _ _ _=> .np _ _⟩

theorem gK: ∀ {l:List Value} {xs:List T},uM l=some xs→l.length=xs.length∧ ∀(j:Nat) x,xs[j]? =some x→ ∃v,l[j]? =some v∧vQ v=some x
  | [],xs,h=>by simp only[uM,z10]at h; subst h; simp
  | v::r,xs,h=>by
    simp only[uM]at h; split at h
    · rename_i x xs' h1 h2
      simp only[z10]at h; subst h; obtain⟨e,g⟩:=gK h2; refine⟨by simp [e],fun j y hy=> ?_⟩
      cases j with
      | zero=>simp only[z20,z10]at hy; subst hy; exact⟨v,by simp,h1⟩
      | succ j=>simp only[z23]at hy ⊢; exact g j y hy
    · cases h

def NZ(op:BinOp)(k:IntKind)(a b:Int):Option T:=
  match op with
  | .add=>some (.int k (k.wrap (a+b)))
  | .sub=>some (.int k (k.wrap (a - b)))
  | .mul=>some (.int k (k.wrap (a*b)))
  | .quo=>if b=0 then none else some (.int k (k.wrap (a.tdiv b)))
  | .rem=>if b=0 then none else some (.int k (a.tmod b))
  | .and=>some (.int k (bits .and k a b))
  | .or=>some (.int k (bits .or k a b))
  | .xor=>some (.int k (bits .xor k a b))
  | .eql=>some (.bool (decide (a=b)))
  | .neq=>some (.bool !decide (a=b))
  | .lss=>some (.bool (decide (a<b)))
  | .leq=>some (.bool (decide (a≤b)))
  | .gtr=>some (.bool (decide (b<a)))
  | .geq=>some (.bool (decide (b≤a)))
  | _=>none

def Km(x y:List UInt8):Bool:=Op.bytesLess x y

def Rj(op:BinOp)(x y:List UInt8):Option T:=
  match op with
  | .add=>if x.length+y.length≤9223372036854775807 then some (.str (x++y))else none
  | .eql=>some (.bool (decide (x=y)))
  | .neq=>some (.bool !decide (x=y))
  | .lss=>some (.bool (Km x y))
  | .leq=>some (.bool (Km x y||decide (x=y)))
  | .gtr=>some (.bool !(Km x y||decide (x=y)))
  | .geq=>some (.bool !(Km x y))
  | _=>none

def Hq(op:BinOp)(b:Bool):Option T:=
  match op with
  | .eql=>some (.bool b)
  | .neq=>some (.bool !b)
  | _=>none

def eqT:T→T→Option Bool
  | .int k a, .int k' b=>if k=k' then some (decide (a=b))else none
  | .bool a, .bool b=>some (a == b)
  | .str a, .str b=>some (decide (a=b))
  | _,_=>none
def JI:List T→List T→Option Bool
  | [],[]=>some true
  | x::r,y::q=>match eqT x y,JI r q with
    | some a,some b=>some (a&&b)
    | _,_=>none
  | _,_=>none

def cmpZ(τ:TypeId→Option TI)(t:TypeId):Option (List T):=match τ t with
  | some i=>bif i.cmp then some i.zero else none
  | none=>none
def NN(τ:TypeId→Option TI)(op:BinOp)(t:TypeId)(x y:V):Option T:=
  match x,y with
  | .one (.c (.int k a)), .one (.c (.int k' b))=>
    match op with
    | .shl=>if 0≤b then some (.int k (k.wrap (a*2 ^ min b.toNat k.bits)))else none
    | .shr=>if 0≤b then some (.int k (a.fdiv (2 ^ min b.toNat k.bits)))else none
    | _=>if k=k' then NZ op k a b else none
  | .one (.c (.str a)), .one (.c (.str b))=>Rj op a b
  | .one (.c (.bool a)), .one (.c (.bool b))=>match tk τ t with | some .bool=>Hq op (a == b) | _=>none
  | .one .nilp, .one .nilp=>match tk τ t with | some .ptr=>Hq op true | _=>none
  | .one (.cp _), .one .nilp=>match tk τ t with | some .ptr=>Hq op false | _=>none
  | .one (.ptr _ _), .one .nilp=>match tk τ t with | some .ptr=>Hq op false | _=>none
  | .one (.ifc b), .one (.ifc true)=>match tk τ t with | some .ifc=>Hq op b | _=>none
  | .one (.ag xs), .one (.ag ys)=>match cmpZ τ t with
    | some zs=>(match JI xs zs,JI xs ys with | some _,some b=>Hq op b | _,_=>none)
    | none=>none
  | _,_=>none

def RP(P:Nat→Prop)(β:Nat→Nat)(w:World)(v:Value):V→Prop
  | .one (.c x)=>Rd P w v x
  | .one (.ptr o off)=>v= .pointer (some ⟨β o,off,none⟩)
  | .one (.cp xs)=> ∃b off,v= .pointer (some ⟨b,off,none⟩)∧P b∧ ∀(j:Nat) x,xs[j]? =some x→ ∃c,w.cell? ⟨b,off+j,none⟩=some c∧Rd P w c x
  | .one .nilp=>v= .pointer none
  | .one (.ag xs)=> ∃cs:Array Value,v= .agg cs∧ ∀(j:Nat) x,xs[j]? =some x→scal x=true→ ∃c,cs[j]? =some c∧Rd P w c x
  | .one (.ifc b)=>if b then v= .nilIface else ∃d u,v= .iface d u
  | _=>True

theorem tA{P:Nat→Prop}{β:Nat→Nat}{w:World}{v:Value}{k:IntKind}{n:Int}(h:RP P β w v (.one (.c (.int k n)))):v= .int k n:=by have h:Rd P w v _:=h; cases h; rfl
theorem Hx{P:Nat→Prop}{β:Nat→Nat}{w:World}{v:Value}{b:Bool}(h:RP P β w v (.one (.c (.bool b)))):v= .bool b:=by have h:Rd P w v _:=h; cases h; rfl
theorem DI{P:Nat→Prop}{β:Nat→Nat}{w:World}{v:Value}{s:List UInt8}(h:RP P β w v (.one (.c (.str s)))): ∃a:ByteArray,v= .string a∧a.data.toList=s:=by have h:Rd P w v _:=h; cases h; exact⟨_,rfl,rfl⟩

theorem jI{P:Program}{τ:TypeId→Option TI}(hT:aY P τ){t:TypeId}{k:TK}(h:tk τ t=some k): ∃d,P.underlying t=some d∧PX P k d:=by
  obtain⟨i,hi,rfl⟩:=z22.1 h; obtain⟨_,d,_,_,h2,_,_,_,_,_,_,_,h9,_⟩:=hT t i hi; exact⟨d,h2,h9⟩

theorem iM{P:Program}{w:World}{op:BinOp}{t:TypeId}{xo yo:Operand}{x y:Value}(h:(∀cs,x≠ .agg cs)∧x≠ .nilIface):(eqGuard op t xo yo x y).run P w= .ok () w:=by
  have e:eqGuard op t xo yo x y=pure ():=by
    cases x<;>first | exact absurd rfl (h.1 _) | exact absurd rfl h.2 | (unfold eqGuard; cases op<;>rfl)
  rw[e]; rfl

theorem MN(a b:List UInt8):(a == b)=decide (a=b):=by
  rw[TJ]; simp

theorem Ip{P:Program}{w:World}{t:TypeId}{ms:Array (String×TypeId)}{x:Value}{b:Bool}(n:Nat)(hd:P.underlying t=some (.interface ms))(hx:(x= .nilIface∧b=true)∨(∃d u,x= .iface d u)∧b=false):(Op.equalIn (n+1) t x .nilIface).run P w= .ok b w:=by
  rcases hx with⟨rfl,rfl⟩ | ⟨⟨d,u,rfl⟩,rfl⟩<;>simp only[Op.equalIn,Sem.run_bind,run_underlying hd,Result.andThen_ok,Sem.run_pure]

theorem Kf{α:Type}{b:Bool}{a c:α}(h:(bif b then some a else none)=some c):b=true∧a=c:=by
  cases b with
  | true=>exact⟨rfl,z46 h⟩
  | false=>cases h
theorem Qz{P:Program}{Q:Nat→Prop}{w:World}{d:Nat}{ty:TypeId}{c c':Value}{x y z:T}{r q:Bool}(hx:Rd Q w c x)(hy:Rd Q w c' y)(hz:eqT x z=some q)(h:eqT x y=some r)
    (hu:match(some z:Option T)with | some (.int k _)=>P.underlying ty=some (.int k) | some (.bool _)=>P.underlying ty=some .bool | some (.str _)=>P.underlying ty=some .string | _=>False):(Op.equalIn (d+1) ty c c').run P w= .ok r w∧(∀b,(isAgg ty).run P w= .ok b w→b=false)∧(isAgg ty).run P w= .ok false w:=by
  have ha: ∀dd,P.underlying ty=some dd→(∀fs,dd≠ .struct fs)→(∀n e,dd≠ .array n e)→(isAgg ty).run P w= .ok false w:=fun dd h1 h2 h3=>by
    simp only[isAgg,Sem.run_bind,run_underlying h1,Result.andThen_ok]; cases dd<;>first | rfl | exact absurd rfl (h2 _) | exact absurd rfl (h3 _ _)
  have fin:(isAgg ty).run P w= .ok false w→(∀b,(isAgg ty).run P w= .ok b w→b=false)∧(isAgg ty).run P w= .ok false w:=fun h=>⟨fun b hb=>by rw[h]at hb; cases hb; rfl,h⟩
  cases x<;>cases z<;>simp only[eqT,reduceCtorEq]at hz<;>cases y<;>simp only[eqT,reduceCtorEq]at h
  · rename_i k a k1 a1 k2 a2
    split at hz<;>cases hz
    split at h<;>cases h
    rename_i e1 e2; subst e1 e2; cases hx; cases hy; exact⟨by rw[run_equalIn_int w d ty k k a a2 hu]; rfl,fin (ha _ hu (by simp) (by simp))⟩
  · cases h
    cases hx; cases hy; exact⟨run_equalIn_bool' w d ty _ _ hu,fin (ha _ hu (by simp) (by simp))⟩
  · cases h
    cases hx; cases hy; refine⟨?_,fin (ha _ hu (by simp) (by simp))⟩
    rw[run_equalIn_string w d ty _ _ hu,ByteArray.toList_eq,ByteArray.toList_eq,MN]
theorem MJ{P:Program}{Q:Nat→Prop}{w:World}{d:Nat}{cs ds:Array Value}{gs:Array Field}{zs:List T}(hg: ∀(j:Nat) g,gs[j]? =some g→g.name≠ "_" ∧g.offset=j∧
    (match zs[j]? with | some (.int k _)=>P.underlying g.type=some (.int k) | some (.bool _)=>P.underlying g.type=some .bool | some (.str _)=>P.underlying g.type=some .string | _=>False)):
    ∀(l:List Field) (xs ys us:List T) (j:Nat) (r q:Bool),(∀k,l[k]? =gs[j+k]?)→us=zs.drop j→l.length=us.length→JI xs us=some q→JI xs ys=some r→(∀(k:Nat) x,xs[k]? =some x→scal x=true→ ∃c,cs[j+k]? =some c∧Rd Q w c x)→(∀(k:Nat) x,ys[k]? =some x→scal x=true→ ∃c,ds[j+k]? =some c∧Rd Q w c x)→
      (Op.eqFields (d+1) cs ds l).run P w= .ok r w
  | [],xs,ys,us,j,r,q,_,_,hl,h1,h2,_,_=>by
    have:us=[]:=z71.1 (by simpa using hl.symm)
    subst this; cases xs with
    | cons x xs=>simp [JI]at h1
    | nil=>
      cases ys with
      | cons y ys=>simp [JI]at h2
      | nil=>simp only[JI,z10]at h2; subst h2; rfl
  | f::l,xs,ys,us,j,r,q,hf,hu,hl,h1,h2,hx,hy=>by
    cases us with
    | nil=>simp at hl
    | cons u us=>
    cases xs with
    | nil=>simp [JI]at h1
    | cons x xs=>
    cases ys with
    | nil=>simp [JI]at h2
    | cons y ys=>
    simp only[JI]at h1 h2; split at h1<;>try cases h1
    rename_i q1 q2 e1 e2; split at h2<;>try cases h2
    rename_i r1 r2 e3 e4; have hz:zs[j]? =some u:=by
      have:=congrArg (·[0]?) hu
      simpa using this.symm
    obtain⟨g1,g2,g3⟩:=hg j f (by have:=hf 0; simpa using this.symm)
    rw[hz]at g3; have sx:scal x=true:=by cases x<;>cases u<;>simp [eqT]at e1<;>rfl
    have sy:scal y=true:=by cases x<;>cases y<;>simp [eqT]at e3<;>rfl
    obtain⟨c,c1,c2⟩:=hx 0 x rfl sx; obtain⟨c',c3,c4⟩:=hy 0 y rfl sy; obtain⟨k1,_,k3⟩:=Qz (P:=P) (d:=d) c2 c4 e1 e3 g3; have hp1:(part f.type cs f.offset).run P w= .ok c w:=by
      rw[g2]; simp only[part,Sem.run_bind,k3,Result.andThen_ok]; rw[show cs[j]? =some c from c1]; rfl
    have hp2:(part f.type ds f.offset).run P w= .ok c' w:=by
      rw[g2]; simp only[part,Sem.run_bind,k3,Result.andThen_ok]; rw[show ds[j]? =some c' from c3]; rfl
    have ih:=MJ (d:=d) hg l xs ys us (j+1) r2 q2 (fun k=>by have:=hf (k+1); rw[show j+1+k=j+(k+1)by omega]; simpa using this) (by
      have:=congrArg List.tail hu; rw[List.tail_drop]at this; simpa using this) (by simpa using hl) e2 e4 (fun k x hk sx=>by rw[show j+1+k=j+(k+1)by omega]; exact hx (k+1) x hk sx) (fun k x hk sx=>by rw[show j+1+k=j+(k+1)by omega]; exact hy (k+1) x hk sx)
    simp only[Op.eqFields]; rw[z19 g1]; simp only[Sem.run_bind,hp1,hp2,k1,Result.andThen_ok]; cases r1 with
    | false=>rfl
    | true=>exact ih

theorem RJ{P:Program}{τ:TypeId→Option TI}(hT:aY P τ){Q:Nat→Prop}{β:Nat→Nat}{w:World}{op:BinOp}{t:TypeId}{x y:Value}{X Y:V}{r:T}(h:NN τ op t X Y=some r)
    (hx:RP Q β w x X)(hy:RP Q β w y Y)(xo yo:Operand)(hyo:Y= .one (.ifc true)→ ∃c,yo= .const c): ∃v,(do eqGuard op t xo yo x y; binOp op t x y:Sem Value).run P w= .ok v w∧scal r=true∧Rd (fun _=>False) w v r:=by
  unfold NN at h; split at h
  · rename_i k a k' b
    have e1:=tA hx; have e2:=tA hy; subst e1 e2; have hg:=iM (P:=P) (w:=w) (op:=op) (t:=t) (xo:=xo) (yo:=yo) (x:= .int k a) (y:= .int k' b) (by simp)
    simp only[Sem.run_bind,hg,Result.andThen_ok]; split at h
    · split at h<;>simp only[z10,reduceCtorEq]at h
      rename_i hb; subst h; exact⟨_,by simp [binOp,Op.shift,Int.not_lt.2 hb],rfl, .int _ _⟩
    · split at h<;>simp only[z10,reduceCtorEq]at h
      rename_i hb; subst h; exact⟨_,by simp [binOp,Op.shift,Int.not_lt.2 hb],rfl, .int _ _⟩
    · rename_i n1 n2
      split at h
      · rename_i hk
        subst hk; cases op<;>simp only[NZ,z10,reduceCtorEq]at h
        all_goals first
          | exact absurd rfl (by first | exact n1 | exact n2)
          | skip
        all_goals first
          | (subst h
             first
               | exact⟨_,by simp only[binOp,ne_eq,not_true_eq_false,if_false,Op.intArith]; rfl,rfl, .int _ _⟩
               | (refine⟨_, ?_,rfl, .bool _⟩; simp only[binOp,ne_eq,not_true_eq_false,if_false,Op.intCmp]; first | rfl | (simp only[Sem.run_pure]; congr 2; first | rfl | (rw[TJ]; simp) | (simp [bne]; rfl))))
          | (split at h
             · cases h
             · rename_i hb
               simp only[z10]at h; subst h; exact⟨_,by simp only[binOp,ne_eq,not_true_eq_false,if_false,Op.intDiv,z13 hb]; rfl,rfl, .int _ _⟩)
      · cases h
  · rename_i a b
    obtain⟨a,rfl,rfl⟩:=DI hx; obtain⟨b,rfl,rfl⟩:=DI hy; have hg:=iM (P:=P) (w:=w) (op:=op) (t:=t) (xo:=xo) (yo:=yo) (x:= .string a) (y:= .string b) (by simp)
    simp only[Sem.run_bind,hg,Result.andThen_ok]; cases op<;>simp only[Rj,z10,reduceCtorEq]at h
    case add=>
      split at h
      · rename_i hle
        simp only[z10]at h; subst h; have h2: ¬ (((a.size+b.size:Nat):Int) > IntKind.i64.max):=by
          have:IntKind.i64.max=9223372036854775807:=by decide
          have e1:a.data.toList.length=a.size:=z47; have e2:b.data.toList.length=b.size:=z47; rw[this]; omega
        refine⟨.string (a++b),by simp only[binOp,Op.stringOp,z13 h2,Sem.run_pure],rfl, ?_⟩
        have e:(a++b).data.toList=a.data.toList++b.data.toList:=by simp
        rw[←e]; exact .str _
      · cases h
    all_goals
      subst h; refine⟨_, ?_,rfl, .bool _⟩
      simp only[binOp,Op.stringOp,Sem.run_pure,ByteArray.toList_eq,MN,Km]
  · rename_i a b
    have e1:=Hx hx; have e2:=Hx hy; subst e1 e2; have hg:=iM (P:=P) (w:=w) (op:=op) (t:=t) (xo:=xo) (yo:=yo) (x:= .bool a) (y:= .bool b) (by simp)
    simp only[Sem.run_bind,hg,Result.andThen_ok]; split at h
    · rename_i hk
      obtain⟨d,hd,rfl⟩:=jI hT hk; cases op<;>simp only[Hq,z10,reduceCtorEq]at h
      · subst h; exact⟨_,run_eql_bool w t a b hd,rfl, .bool _⟩
      · subst h; exact⟨_,run_neq_bool w t a b hd,rfl, .bool _⟩
    · cases h
  · have e1:x= .pointer none:=hx
    have e2:y= .pointer none:=hy; subst e1 e2; have hg:=iM (P:=P) (w:=w) (op:=op) (t:=t) (xo:=xo) (yo:=yo) (x:= .pointer none) (y:= .pointer none) (by simp)
    simp only[Sem.run_bind,hg,Result.andThen_ok]; split at h
    · rename_i hk
      obtain⟨d,hd,e,rfl⟩:=jI hT hk; have hp:P.underlying t=some (.pointer (P.pointee t)):=by unfold Program.pointee; rw[hd]
      cases op<;>simp only[Hq,z10,reduceCtorEq]at h
      · subst h; exact⟨_,run_eql_pointer_nil w t _ hp,rfl, .bool _⟩
      · subst h; exact⟨_,run_neq_pointer_nil w t _ hp,rfl, .bool _⟩
    · cases h
  · obtain⟨bb,off,e1,_⟩:=hx
    have e2:y= .pointer none:=hy; subst e1 e2; have hg:=iM (P:=P) (w:=w) (op:=op) (t:=t) (xo:=xo) (yo:=yo) (x:= .pointer (some ⟨bb,off,none⟩)) (y:= .pointer none) (by simp)
    simp only[Sem.run_bind,hg,Result.andThen_ok]; split at h
    · rename_i hk
      obtain⟨d,hd,e,rfl⟩:=jI hT hk; have hp:P.underlying t=some (.pointer (P.pointee t)):=by unfold Program.pointee; rw[hd]
      cases op<;>simp only[Hq,z10,reduceCtorEq]at h
      · subst h; exact⟨_,run_eql_pointer_nil w t _ hp,rfl, .bool _⟩
      · subst h; exact⟨_,run_neq_pointer_nil w t _ hp,rfl, .bool _⟩
    · cases h
  · have e1:x= .pointer (some _):=hx
    have e2:y= .pointer none:=hy; subst e1 e2; rename_i o off; have hg:=iM (P:=P) (w:=w) (op:=op) (t:=t) (xo:=xo) (yo:=yo) (x:= .pointer (some ⟨β o,off,none⟩)) (y:= .pointer none) (by simp)
    simp only[Sem.run_bind,hg,Result.andThen_ok]; split at h
    · rename_i hk
      obtain⟨d,hd,e,rfl⟩:=jI hT hk; have hp:P.underlying t=some (.pointer (P.pointee t)):=by unfold Program.pointee; rw[hd]
      cases op<;>simp only[Hq,z10,reduceCtorEq]at h
      · subst h; exact⟨_,run_eql_pointer_nil w t _ hp,rfl, .bool _⟩
      · subst h; exact⟨_,run_neq_pointer_nil w t _ hp,rfl, .bool _⟩
    · cases h
  · rename_i b
    have e2:y= .nilIface:=hy; subst e2; obtain⟨c,rfl⟩:=hyo rfl; split at h
    · rename_i hk
      obtain⟨d,hd,ms,rfl⟩:=jI hT hk; have hg:(eqGuard op t xo (.const c) x .nilIface).run P w= .ok () w:=by
        cases b with
        | true=>
          have e1:x= .nilIface:=by simpa [RP]using hx
          subst e1; rw[eqGuard_nil_constR]; rfl
        | false=>
          obtain⟨d,u,e1⟩: ∃d u,x= .iface d u:=by simpa [RP]using hx
          subst e1; rw[eqGuard_at_iface]; rfl
      simp only[Sem.run_bind,hg,Result.andThen_ok]; have hq:(Op.equal t x .nilIface).run P w= .ok b w:=by
        refine Ip 9999 hd (?_)
        cases b with
        | true=>exact .inl ⟨by simpa [RP]using hx,rfl⟩
        | false=>exact .inr ⟨by simpa [RP]using hx,rfl⟩
      have hb: ∀(op:BinOp),(binOp .eql t x .nilIface).run P w= .ok (.bool b) w∧(binOp .neq t x .nilIface).run P w= .ok (.bool !b) w:=by
        intro _; have e1:x= .nilIface∨ ∃d u,x= .iface d u:=by
          cases b with
          | true=>exact .inl (by simpa [RP]using hx)
          | false=>exact .inr (by simpa [RP]using hx)
        rcases e1 with rfl | ⟨d,u,rfl⟩<;>(constructor<;>simp only[binOp,Sem.run_bind,hq,Result.andThen_ok,Sem.run_pure])
      cases op<;>simp only[Hq,z10,reduceCtorEq]at h
      · subst h; exact⟨_,(hb .add).1,rfl, .bool _⟩
      · subst h; exact⟨_,(hb .add).2,rfl, .bool _⟩
    · cases h
  · rename_i xs ys
    obtain⟨cs,rfl,hc⟩:=hx; obtain⟨ds,rfl,hd⟩:=hy; unfold cmpZ at h; split at h
    · rename_i zs hz
      split at hz<;>try cases hz
      rename_i i hi; obtain⟨hb,hz⟩:=Kf hz; subst hz; split at h<;>try cases h
      rename_i q b e1 e2; obtain⟨_,_,_,_,_,_,_,_,_,_,_,_,_,hcmp⟩:=hT t i hi; obtain⟨m1,m2,gs,m3,m4,m5⟩:=hcmp hb; have hfo:P.fieldsOf t=gs:=by unfold Program.fieldsOf; rw[m3]
      have he:(Op.equalIn 10000 t (.agg cs) (.agg ds)).run P w= .ok b w:=by
        rw[run_equalIn_agg w 9999 t cs ds (by rw[hfo]; exact m3) m2,hfo]
        exact MJ (d:=9998) m5 gs.toList xs ys i.zero 0 b q (fun k=>by rw[z32,z26]) rfl (by simpa using m4) e1 e2 (fun k x hk sx=>by rw[z32]; exact hc k x hk sx) (fun k x hk sx=>by rw[z32]; exact hd k x hk sx)
      cases op<;>simp only[Hq,z10,reduceCtorEq]at h
      · subst h
        refine⟨.bool b, ?_,rfl, .bool _⟩
        simp only[Sem.run_bind,run_eqGuard_agg w .eql t xo yo cs ds m1,Result.andThen_ok,run_eql_struct,he]
      · subst h
        refine⟨.bool (!b), ?_,rfl, .bool _⟩
        simp only[Sem.run_bind,run_eqGuard_agg w .neq t xo yo cs ds m1,Result.andThen_ok,run_neq_struct,he]
    · cases h
  · cases h
end Go.Own

namespace Go.Own
open Go.RowKit

def DV:List V→Option (List (Nat×Nat))
 | []=>some []
 | .one (.ptr o off)::r=>(DV r).map ((o,off):: ·)
 | _::_=>none

def tE:V→Option Int
 | .one (.c (.int _ n))=>some n
 | _=>none

def mI(ρ:Operand→V)(len:Nat)(lo hi max:Option Operand):Option (Nat×Nat):=
 match max with
 | none=>
  (match hi with | none=>some (len:Int) | some h=>tE (ρ h)).bind fun h=>
  (match lo with | none=>some (0:Int) | some l=>tE (ρ l)).bind fun l=>
  if 0≤l∧l≤h∧h≤(len:Int)then some (l.toNat,h.toNat)else none
 | some m=>match hi with
  | none=>none
  | some h=>
   (tE (ρ m)).bind fun m=>(tE (ρ h)).bind fun h=>
   (match lo with | none=>some (0:Int) | some l=>tE (ρ l)).bind fun l=>
   if 0≤l∧l≤h∧h≤m∧m≤(len:Int)then some (l.toNat,h.toNat)else none

def Ba:List (List T)→Option (List UInt8)
 | []=>some []
 | [.int .u8 n]::r=>if 0≤n∧n<256 then(Ba r).map (UInt8.ofNat n.toNat:: ·)else none
 | _=>none

def gL(τ:TypeId→Option TI)(ρ:Operand→V)(o:Op):Option T:=
 match o with
 | .binOp op t x y _=>NN τ op t (ρ x) (ρ y)
 | .unOp op _ x=>match op,ρ x with
  | .not, .one (.c (.bool b))=>some (.bool !b)
  | .neg, .one (.c (.int k n))=>some (.int k (k.wrap (0 - n)))
  | _,_=>none
 | .convert s d x=>match tk τ s,tk τ d,ρ x with
  | some _,some (.int k), .one (.c (.int _ n))=>some (.int k (k.wrap n))
  | some (.sl e),some .str, .one (.c (.sl es))=>match tk τ e with
   | some (.int .u8)=>(Ba es).map .str
   | _=>none
  | some .str,some .str, .one (.c (.str s))=>some (.str s)
  | _,_,_=>none
 | .index t x i=>match tk τ t,ρ x,ρ i with
  | some .str, .one (.c (.str s)), .one (.c (.int _ n))=>if 0≤n then(s[n.toNat]?).map fun b=> .int .u8 (b.toNat:Int)else none
  | _,_,_=>none
 | .slice t x lo hi max=>match tk τ t,ρ x with
  | some .str, .one (.c (.str s))=>if max.isSome then none else(mI ρ s.length lo hi none).map fun r=> .str ((s.drop r.1).take (r.2 - r.1))
  | some (.sl e), .one (.c (.sl es))=>(τ e).bind fun ei=>if es.all (fun x=>x.length == ei.size)then(mI ρ es.length lo hi max).map fun r=> .sl ((es.drop r.1).take (r.2 - r.1))else none
  | _,_=>none
 | .call c=>match c.callee,c.args.toList,c.argTypes.toList with
  | .builtin .len,[x],[t]=>match tk τ t,ρ x with
   | some .str, .one (.c (.str s))=>some (.int .i64 s.length)
   | some (.sl _), .one (.c (.sl es))=>some (.int .i64 es.length)
   | _,_=>none
  | .builtin .max,[x,y],_=>match ρ x,ρ y with
   | .one (.c (.int k a)), .one (.c (.int _ b))=>some (.int k (if b > a then b else a))
   | _,_=>none
  | .builtin .min,[x,y],_=>match ρ x,ρ y with
   | .one (.c (.int k a)), .one (.c (.int _ b))=>some (.int k (if b<a then b else a))
   | _,_=>none
  | _,_,_=>none
 | _=>none

theorem iS(b off n:Nat):(⟨b,off,none⟩:Addr).add n=⟨b,off+n,none⟩:=by
 unfold Addr.add; split
 ·rename_i h; subst h; rfl
 ·rfl

theorem zN{P:Program}{Q:Nat→Prop}{β:Nat→Nat}{w:World}{ρ:Operand→Value}{ρV:Operand→V}{isSlice:Bool}{len cap:Nat}{lo hi max:Option Operand}{l h:Nat}
  (hρ: ∀x,lo=some x∨hi=some x∨max=some x→RP Q β w (ρ x) (ρV x))(e:mI ρV len lo hi max=some (l,h))(hcap:len≤cap):
  l≤h∧h≤len∧ ∃m,h≤m∧m≤cap∧(max=none→m=cap)∧(Instr.sliceBounds isSlice len cap (lo.map ρ) (hi.map ρ) (max.map ρ)).run P w= .ok (l,h,m) w:=by
 have hint: ∀x (n:Int),(lo=some x∨hi=some x∨max=some x)→tE (ρV x)=some n→ ∃k,ρ x= .int k n:=by
  intro x n hm hx; have:=hρ x hm; unfold tE at hx; split at hx
  ·rename_i k m heq
   simp only[z10]at hx; subst hx; rw[heq]at this; exact⟨k,tA this⟩
  ·cases hx
 unfold mI at e; split at e
 ·simp only[z18]at e
  obtain⟨hv,h1,lv,h2,e⟩:=e; split at e
  ·rename_i hc
   simp only[z10,z48]at e; obtain⟨rfl,rfl⟩:=e; refine⟨by omega,by omega,cap,by omega,z53 _,fun _=>rfl, ?_⟩
   have hh:hv≤(cap:Int):=by omega
   have h0:0≤hv:=by omega
   have hl:lv≤((hv.toNat:Nat):Int):=by omega
   cases lo with
   | none=>
    simp only[z10]at h2; subst h2; cases hi with
    | none=>simp only[z10]at h1; subst h1; simp [Instr.sliceBounds]
    | some hx=>
     obtain⟨k,hk⟩:=hint hx hv (by simp) h1
     simp [Instr.sliceBounds,Instr.sliceBound,hk,asIntOf,h0,hh]
   | some lx=>
    obtain⟨k2,hk2⟩:=hint lx lv (by simp) h2
    cases hi with
    | none=>
     simp only[z10]at h1; subst h1; have hl':lv≤(len:Int):=by omega
     simp [Instr.sliceBounds,Instr.sliceBound,hk2,asIntOf,hc.1,hl']
    | some hx=>
     obtain⟨k,hk⟩:=hint hx hv (by simp) h1
     simp only[Instr.sliceBounds,Instr.sliceBound,z35,RT,hk,hk2,asIntOf,h0,hh,hc.1,and_self,if_true,Sem.run_bind,Sem.run_pure,Result.andThen_ok,hl]
  ·cases e
 ·rename_i mx
  split at e
  ·cases e
  ·rename_i hx
   simp only[z18]at e; obtain⟨mv,h0,hv,h1,lv,h2,e⟩:=e; split at e
   ·rename_i hc
    simp only[z10,z48]at e; obtain⟨rfl,rfl⟩:=e; refine⟨by omega,by omega,mv.toNat,by omega,by omega,fun h=>by(cases h), ?_⟩
    obtain⟨k0,hk0⟩:=hint mx mv (by simp) h0
    obtain⟨k1,hk1⟩:=hint hx hv (by simp) h1
    have c1:0≤mv:=by omega
    have c2:mv≤(cap:Int):=by omega
    have c3:0≤hv:=by omega
    have c4:hv≤((mv.toNat:Nat):Int):=by omega
    have c5:lv≤((hv.toNat:Nat):Int):=by omega
    cases lo with
    | none=>
     simp only[z10]at h2; subst h2; cases isSlice<;>simp only[Instr.sliceBounds,Instr.sliceBound,z35,RT,hk0,hk1,asIntOf,c1,c2,c3,c4,and_self,if_true,Sem.run_bind,Sem.run_pure,Result.andThen_ok,Int.toNat_zero]
    | some lx=>
     obtain⟨k2,hk2⟩:=hint lx lv (by simp) h2
     cases isSlice<;>simp only[Instr.sliceBounds,Instr.sliceBound,z35,hk0,hk1,hk2,asIntOf,c1,c2,c3,c4,c5,hc.1,and_self,if_true,Sem.run_bind,Sem.run_pure,Result.andThen_ok]
   ·cases e

theorem kV{P:Program}{τ:TypeId→Option TI}(hT:aY P τ){t:TypeId}{i:TI}(h:τ t=some i): ∃info,P.info? t=some info∧info.size=i.size∧0<i.size:=by
 obtain⟨info,d,z,h1,_,h3,_,_,_,_,h4,_⟩:=hT t i h; exact⟨info,h1,h3,h4⟩

theorem EY{P:Nat→Prop}{β:Nat→Nat}{w:World}{v:Value}{es:List (List T)}(h:Rd P w v (.sl es)){n:Nat}{e:List T}(hn:es[n]? =some e){size:Nat}(hs:e.length=size)(h0:0<size):
  ∃b off len cap,v= .slice (some ⟨b,off,none⟩) len cap∧len=es.length∧RP P β w (.pointer (some ⟨b,off+n*size,none⟩)) (.one (.cp e)):=by
 cases h with
 | nil a cap=>simp at hn
 | sl b off len cap s _ cs hl hc hs2 hP hm hr=>
  have hs3:=hs2 n _ hn; have:s=size:=by omega
  subst this; exact⟨b,off,len,cap,rfl,hl.symm,b,off+n*s,rfl,hP,fun j x hx=>⟨cs n j,hm n _ j x hn hx,hr n _ j x hn hx⟩⟩

theorem JT{P:Nat→Prop}{w:World}{a:Option Addr}{len cap:Nat}{es:List (List T)}(h:Rd P w (.slice a len cap) (.sl es)){l k m size:Nat}(hl:l≤k)(hk:k≤es.length)(hkm:k≤m)(hm':m≤cap)
  (hs: ∀x∈es,x.length=size):len=es.length∧len≤cap∧Rd P w (.slice (if m=l then a else a.map (·.add (l*size))) (k - l) (m - l)) (.sl ((es.drop l).take (k - l))):=by
 cases h with
 | nil a cap=>
  simp only[z27]at hk; have h1:l=0:=by omega
  have h2:k=0:=by omega
  subst h1 h2; refine⟨rfl,LD _, ?_⟩
  simp only[List.drop_nil,List.take_nil,RQ]; exact .nil _ _
 | sl b off _ _ s _ cs hl2 hc hs2 hP hm hr=>
  refine⟨hl2.symm,hc, ?_⟩
  by_cases e:k - l=0
  ·rw[e,Pg]; exact .nil _ _
  ·have hne:m≠l:=by omega
   rw[z13 hne]; simp only[z35,iS]; have hs3:s=size:=by
    have h0:0<es.length:=by omega
    have h1:=hs2 0 es[0] (z14 h0)
    have h2:=hs es[0] (z156 h0); omega
   subst hs3; have hget: ∀(i:Nat) (e:List T),((es.drop l).take (k - l))[i]? =some e→es[l+i]? =some e:=by
    intro i e he; rw[z73]at he
    split at he
    ·rwa[z56]at he
    ·cases he
   refine .sl b (off+l*s) (k - l) (m - l) s _ (fun i j=>cs (l+i) j) ?_ (by omega) (fun i e he=>hs2 _ e (hget i e he)) hP (fun i e j x he hx=> ?_) (fun i e j x he hx=>hr _ e j x (hget i e he) hx)
   ·simp only[z38,z65]; omega
   ·have:=hm _ e j x (hget i e he) hx
    have ea:off+l*s+i*s+j=off+(l+i)*s+j:=by rw[z81]; omega
    rw[ea]; exact this

theorem IP{P:Nat→Prop}{w:World}{v:Value}{es:List (List T)}(h:Rd P w v (.sl es)): ∃a cap,v= .slice a es.length cap∧es.length≤cap:=by
 cases h with
 | nil a cap=>exact⟨_,_,rfl,LD _⟩
 | sl b off _ _ s _ cs hl2 hc=>subst hl2; exact⟨_,_,rfl,hc⟩

theorem CW: ∀ {es:List (List T)} {s:List UInt8},Ba es=some s→es=s.map (fun b=> [.int .u8 (b.toNat:Int)])
 | [],s,h=>by simp only[Ba,z10]at h; subst h; rfl
 | e::r,s,h=>by
  unfold Ba at h; split at h
  ·rename_i heq; cases heq
  ·rename_i n r' heq
   cases heq; split at h
   ·rename_i hn
    obtain⟨q,hq,rfl⟩:=z22.1 h; rw[CW hq]; have:((UInt8.ofNat n.toNat).toNat:Int)=n:=by
     rw[UInt8.toNat_ofNat']; omega
    rw[z61,this]
   ·cases h
  ·cases h

def HK:Op→Bool
 | .slice _ _ _ _ _=>true
 | _=>false

theorem OK{P:Program}{τ:TypeId→Option TI}(hT:aY P τ){Q:Nat→Prop}{β:Nat→Nat}{w:World}{ρ:Operand→Value}{ρV:Operand→V}(o:Oper)(hρ: ∀x∈o.op.operands,RP Q β w (ρ x) (ρV x))
  (hc2: ∀op t x y u,o.op= .binOp op t x y u→ρV y= .one (.ifc true)→ ∃c,y= .const c){r:T}(h:gL τ ρV o.op=some r):
  ∃v,(execOp ρ o).run P w= .ok (.value v) w∧Rd Q w v r∧(HK o.op=true∨scal r=true):=by
 obtain⟨dst,op,type,pos,after,guard⟩:=o; simp only at h hρ hc2; unfold gL at h; split at h
 ·-- binOp
  rename_i bop t x y yt; obtain⟨v,hv,hs,hr⟩:=RJ hT h (hρ x (by simp [Op.operands])) (hρ y (by simp [Op.operands])) x y (fun e=>hc2 _ _ _ _ _ rfl e)
  exact⟨v,by simp only[execOp,Sem.run_bind,hv,Result.andThen_ok,Sem.run_pure],hr.scal hs, .inr hs⟩
 ·-- unOp
  rename_i uop t x; have h1:=hρ x (by simp [Op.operands])
  split at h
  ·rename_i b heq
   simp only[z10]at h; subst h; rw[heq]at h1; have e:=Hx h1; exact⟨.bool !b,by simp only[execOp,e]; rfl, .bool _, .inr rfl⟩
  ·rename_i k n heq
   simp only[z10]at h; subst h; rw[heq]at h1; have e:=tA h1; exact⟨.int k (k.wrap (0 - n)),by simp only[execOp,e]; rfl, .int _ _, .inr rfl⟩
  ·cases h
 ·-- convert
  rename_i s d x; have h1:=hρ x (by simp [Op.operands])
  split at h
  ·rename_i ks k _ n hs hd heq
   simp only[z10]at h; subst h; obtain⟨ds,hds,_⟩:=jI hT hs; obtain⟨dd,hdd,rfl⟩:=jI hT hd; rw[heq]at h1; have e:=tA h1; refine⟨.int k (k.wrap n), ?_, .int _ _, .inr rfl⟩
   simp only[execOp,e,convert,Sem.run_bind,run_underlying hds,run_underlying hdd,Result.andThen_ok,Conv.intToInt,Sem.run_pure]
  ·rename_i e es hs hd heq
   split at h
   ·rename_i hke
    obtain⟨q,hq,rfl⟩:=z22.1 h; obtain⟨ds,hds,rfl⟩:=jI hT hs; obtain⟨dd,hdd,rfl⟩:=jI hT hd; obtain⟨de,hde,rfl⟩:=jI hT hke; rw[heq]at h1; have hrd:Rd Q w (ρ x) (.sl es):=h1; have hes:=CW hq; obtain⟨a,cap,e1,_⟩:=IP hrd; have hlen:es.length=q.length:=by rw[hes]; simp
    suffices hsuf:(Conv.bytesToString (.slice a es.length cap)).run P w= .ok (.string ⟨q.toArray⟩) w by
     refine⟨.string ⟨q.toArray⟩, ?_,by simpa using Rd.str (P:=Q) (w:=w) ⟨q.toArray⟩, .inr rfl⟩
     simp only[execOp,e1,Sem.run_bind,run_convert_bytes_string w s d e a es.length cap hds hde hdd,hsuf,Result.andThen_ok,Sem.run_pure]
    cases a with
    | none=>
     rw[e1]at hrd; generalize hn:es.length=n at hrd; cases hrd with
     | nil=>
      have:q=[]:=by cases q with | nil=>rfl | cons a r=>rw[hes]at hn; simp at hn
      subst this; rfl
    | some ad=>
     have hload:(loadCells ad es.length).run P w= .ok ((q.map fun b=>(b.toNat:Int)).map (Value.int .u8)).toArray w:=by
      rw[e1]at hrd; generalize hn:es.length=n at hrd; cases hrd with
      | nil=>
       have:q=[]:=by cases q with | nil=>rfl | cons a r=>rw[hes]at hn; simp at hn
       subst this; simp [loadCells,loadCellsFrom]
      | sl b off _ _ s1 _ cs hl hc' hs2 hP hm hr=>
       have hrun:=run_loadCells_list (P:=P) w ⟨b,off,none⟩ ((q.map fun b=>(b.toNat:Int)).map (Value.int .u8)) (fun j v hv=>by
        rw[TE,z36]at hv
        obtain⟨c,hc1,rfl⟩:=z22.1 hv; have he:es[j]? =some [.int .u8 (c.toNat:Int)]:=by rw[hes,z36,hc1]; rfl
        have e2:s1=1:=(hs2 j _ he).symm; subst e2; have h3:=hm j _ 0 _ he rfl; have h4:=hr j _ 0 _ he rfl; rw[iS]; rw[Nat.mul_one,z69]at h3; rw[h3]; generalize cs j 0=z at h4; cases h4; rfl)
       simpa [←hlen,hn]using hrun
     rw[run_bytesToString w ad es.length cap _ hload]; congr 2
     have hfold: ∀(l:List UInt8) (acc:ByteArray),((l.map fun b=>(b.toNat:Int)).foldl (fun r n=>r.push (UInt8.ofNat n.toNat)) acc)=⟨acc.data++l.toArray⟩:=by
      intro l; induction l with
      | nil=>intro acc; simp
      | cons a r ih=>
       intro acc; rw[z61,TH,ih]; simp [ByteArray.push]
     rw[hfold]; have:ByteArray.empty.data= #[]:=rfl; rw[this,Array.empty_append]
   ·cases h
  ·rename_i s' hs hd heq
   simp only[z10]at h; subst h; obtain⟨ds,hds,rfl⟩:=jI hT hs; obtain⟨dd,hdd,rfl⟩:=jI hT hd; rw[heq]at h1; obtain⟨a,e,rfl⟩:=DI h1; refine⟨.string a, ?_, .str _, .inr rfl⟩
   simp only[execOp,e,convert,Sem.run_bind,run_underlying hds,run_underlying hdd,Result.andThen_ok,Sem.run_pure]
  ·cases h
 ·-- index
  rename_i t x i; have h1:=hρ x (by simp [Op.operands])
  have h2:=hρ i (by simp [Op.operands])
  split at h
  ·rename_i s k n hs heq heqi
   split at h
   ·rename_i h0
    obtain⟨b,hb,rfl⟩:=z22.1 h; obtain⟨d,hd,rfl⟩:=jI hT hs; rw[heq]at h1; rw[heqi]at h2; obtain⟨a,e1,rfl⟩:=DI h1; have e2:=tA h2; refine⟨.int .u8 (b.toNat:Int), ?_, .int _ _, .inr rfl⟩
    have hlt:n.toNat<a.size:=by
     rcases NI n.toNat a.data.toList.length with h3 | h3
     ·simpa using h3
     ·rw[z70 h3]at hb; cases hb
    have hg:a[n.toNat]? =some b:=by
     rw[getElem?_pos a n.toNat hlt]
     rw[z26]at hb
     have hlt':n.toNat<a.data.size:=hlt; rw[z66 hlt']at hb
     exact hb
    simp only[execOp,Instr.index,e1,e2,asIntOf,Sem.run_bind,Sem.run_pure,Result.andThen_ok,run_underlying hd,h0,if_true,hg]
   ·cases h
  ·cases h
 ·-- slice
  rename_i t x lo hi mx; have h1:=hρ x (by simp [Op.operands])
  split at h
  ·rename_i s hs heq
   split at h
   ·cases h
   ·rename_i hmx
    have hmx':mx=none:=by cases mx with | none=>rfl | some m=>simp at hmx
    subst hmx'; obtain⟨⟨l,u⟩,hb,rfl⟩:=z22.1 h; obtain⟨d,hd,rfl⟩:=jI hT hs; rw[heq]at h1; obtain⟨a,e1,rfl⟩:=DI h1; have hlen:a.data.toList.length=a.size:=z47; rw[hlen]at hb; obtain⟨b1,b2,m,b3,b4,_,hrun⟩:=zN (P:=P) (isSlice:=false) (fun y hy=>hρ y (by rcases hy with rfl | rfl | hy<;>simp_all [Op.operands])) hb (z53 _)
    refine⟨.string (a.extract l u), ?_, ?_, .inl rfl⟩
    ·simp only[RT]at hrun
     simp only[execOp,Instr.sliceAt,Instr.slice,e1,Sem.run_bind,Sem.run_pure,Result.andThen_ok,run_underlying hd,RT,Option.isSome_none,z52,if_false,hrun]
    ·have e:(a.extract l u).data.toList=(a.data.toList.drop l).take (u - l):=by simp [ByteArray.data_extract]
     rw[←e]; exact .str _
  ·rename_i e es hs heq
   obtain⟨ei,he,h⟩:=z18.1 h; split at h
   ·rename_i hall
    obtain⟨⟨l,u⟩,hb,rfl⟩:=z22.1 h; obtain⟨d,hd,rfl⟩:=jI hT hs; obtain⟨info,hinfo,hsz,_⟩:=kV hT he; rw[heq]at h1; have hrd:Rd Q w (ρ x) (.sl es):=h1; obtain⟨a,cap,e1,hcap⟩:=IP hrd; rw[e1]at hrd; obtain⟨b1,b2,m,b3,b4,_,hrun⟩:=zN (P:=P) (isSlice:=true) (fun y hy=>hρ y (by rcases hy with rfl | rfl | rfl<;>simp [Op.operands])) hb hcap
    obtain⟨_,_,hr⟩:=JT hrd (l:=l) (k:=u) (m:=m) b1 b2 b3 b4 (size:=ei.size) (fun y hy=>by simpa using z15.1 hall y hy)
    refine⟨.slice (if m=l then a else a.map (·.add (l*ei.size))) (u - l) (m - l), ?_,hr, .inl rfl⟩
    simp only[execOp,Instr.sliceAt,Instr.slice,e1,Sem.run_bind,Sem.run_pure,Result.andThen_ok,run_underlying hd,hrun,sizeOf,typeInfo,run_program,hinfo,hsz]
   ·cases h
  ·cases h
 ·-- call
  rename_i cl; obtain⟨callee,args,ats⟩:=cl; simp only at h; split at h
  ·-- len
   rename_i x t ha ht; have ha':args= #[x]:=by cases args; simp_all
   have ht':ats= #[t]:=by cases ats; simp_all
   subst ha' ht'; have h1:=hρ x (by simp [Op.operands,Call.operands])
   split at h
   ·rename_i s hs heq
    simp only[z10]at h; subst h; obtain⟨d,hd,rfl⟩:=jI hT hs; rw[heq]at h1; obtain⟨a,e1,rfl⟩:=DI h1; have hlen:a.data.toList.length=a.size:=z47; rw[hlen]; refine⟨.int .i64 a.size, ?_, .int _ _, .inr rfl⟩
    simp [execOp,resolve,invoke,builtin,Builtin.len_,e1,run_underlying hd,goInt]
   ·rename_i e es hs heq
    simp only[z10]at h; subst h; obtain⟨d,hd,rfl⟩:=jI hT hs; rw[heq]at h1; obtain⟨a,cap,e1,_⟩:=IP h1; refine⟨.int .i64 es.length, ?_, .int _ _, .inr rfl⟩
    simp [execOp,resolve,invoke,builtin,Builtin.len_,e1,run_underlying hd,goInt]
   ·cases h
  ·-- max
   rename_i ts x y ha; have ha':args= #[x,y]:=by cases args; simp_all
   subst ha'; have h1:=hρ x (by simp [Op.operands,Call.operands])
   have h2:=hρ y (by simp [Op.operands,Call.operands])
   split at h
   ·rename_i k a _ b heq heq2
    simp only[z10]at h; subst h; rw[heq]at h1; rw[heq2]at h2; have e1:=tA h1; have e2:=tA h2; refine⟨_, ?_, .int _ _, .inr rfl⟩
    simp [execOp,resolve,invoke,builtin,e1,e2,run_max_int2]
   ·cases h
  ·-- min
   rename_i ts x y ha; have ha':args= #[x,y]:=by cases args; simp_all
   subst ha'; have h1:=hρ x (by simp [Op.operands,Call.operands])
   have h2:=hρ y (by simp [Op.operands,Call.operands])
   split at h
   ·rename_i k a _ b heq heq2
    simp only[z10]at h; subst h; rw[heq]at h1; rw[heq2]at h2; have e1:=tA h1; have e2:=tA h2; refine⟨_, ?_, .int _ _, .inr rfl⟩
    simp [execOp,resolve,invoke,builtin,e1,e2,run_min_int2]
   ·cases h
  ·cases h
 ·cases h
end Go.Own

namespace Go.Own
open Go.RowKit

structure St where
  n:Nat
  sl:Nat→V
  ob:Rg
  fl:Loc→K

def W.leaf:W→Nat→Option T
  | .c x,0=>some x
  | .ag xs,j=>xs[j]?
  | _,_=>none
def V.leaf:V→Nat→Nat→Option T
  | .one w,0,j=>w.leaf j
  | .tup ws,k,j=>(ws[k]?).bind (·.leaf j)
  | _,_,_=>none
def atL(sl:Nat→V)(ob:Rg):Loc→Option T
  | .s i k j=>(sl i).leaf k j
  | .oc o j=>(ob o).bind (·[j]?)
  | _=>none
def St.at(st:St)(l:Loc):Option T:=atL st.sl st.ob l

def FT:Value→Nat→Option Value
  | .agg cs,j=>cs[j]?
  | v,0=>some v
  | _,_=>none
def pR:Value→Nat→Nat→Option Value
  | .tuple vs,k,j=>(vs[k]?).bind (FT · j)
  | v,0,j=>FT v j
  | _,_,_=>none
def vAt(tmps:Array Value)(β:Nat→Nat)(w:World):Loc→Option Value
  | .s i k j=>pR (tmps.getD i undef) k j
  | .oc o j=>w.cell? ⟨β o,j,none⟩
  | _=>none

def mL(v:Value):Prop:=(∀cs,v≠ .agg cs)∧ ∀vs,v≠ .tuple vs

def CpR(g:G)(w:World)(κ:K)(b off:Nat)(xs:List T):Prop:=
  match κ with
  | .D=>True
  | .F=>frz g w b∧ ∀(j:Nat) x,xs[j]? =some x→ ∃c,w.cell? ⟨b,off+j,none⟩=some c∧Rd (frz g w) w c x
  | .V=>all g w b∧ ∀(j:Nat) x,xs[j]? =some x→ ∃c,w.cell? ⟨b,off+j,none⟩=some c∧Rd (all g w) w c x
  | _=>False

def RW(g:G)(w:World)(κ:Nat→K)(l:Nat→Loc)(v:Value):W→Prop
  | .c x=>mL v∧LF g w (κ 0) (l 0) v x
  | .ag xs=> ∃cs:Array Value,v= .agg cs∧cs.size=xs.length∧ ∀(j:Nat) x,xs[j]? =some x→ ∃c,cs[j]? =some c∧mL c∧LF g w (κ j) (l j) c x
  | .ptr o off=>v= .pointer (some ⟨g.β o,off,none⟩)
  | .cp xs=> ∃b off,v= .pointer (some ⟨b,off,none⟩)∧CpR g w (κ 0) b off xs
  | .nilp=>v= .pointer none
  | .ifc b=>if b then v= .nilIface else ∃d u,v= .iface d u
  | .fn f caps=>v= .func (.func f) #[] (caps.map fun c=>Value.pointer (some ⟨g.β c.1,c.2,none⟩)).toArray
  | _=>True

def RV(g:G)(w:World)(κ:Nat→Nat→K)(l:Nat→Nat→Loc)(v:Value):V→Prop
  | .one x=>RW g w (κ 0) (l 0) v x
  | .tup ws=> ∃vs:Array Value,v= .tuple vs∧vs.size=ws.length∧ ∀(k:Nat) x,ws[k]? =some x→ ∃u,vs[k]? =some u∧RW g w (κ k) (l k) u x

inductive Pl (w:World):Value→T→List (Nat×Nat)→Value→T→Prop
  | nil (v:Value) (x:T):Pl w v x [] v x
  | cons (b off len cap:Nat) (es:List (List T)) (e:List T) (c:Value) (y:T) (i j:Nat) (p:List (Nat×Nat)) (v':Value) (x':T) (he:es[i]? =some e) (hy:e[j]? =some y)
      (hc:w.cell? ⟨b,off+i*e.length+j,none⟩=some c) (h:Pl w c y p v' x'):Pl w (.slice (some ⟨b,off,none⟩) len cap) (.sl es) ((i,j)::p) v' x'

def aH:V→Loc
  | .one (.al l _)=>l
  | .one (.pp l _ _ _)=>l
  | _=> .none

def Dy(st:St)(tmps:Array Value)(β:Nat→Nat)(w:World)(v:Value):V→Prop
  | .one (.al l p)=> ∃v0 x0 x',vAt tmps β w l=some v0∧st.at l=some x0∧Pl w v0 x0 p v x'
  | .one (.pp l p i j)=> ∃v0 x0 b off len cap es e,vAt tmps β w l=some v0∧st.at l=some x0∧Pl w v0 x0 p (.slice (some ⟨b,off,none⟩) len cap) (.sl es)∧es[i]? =some e∧v= .pointer (some ⟨b,off+i*e.length+j,none⟩)
  | _=>True

def par:Nat:=1000000

def nT(l:Loc):Prop:=l= .none∨l= .ext

structure oO (g0:G) (w0:World) (g:G) (w:World):Prop where
  os:w.os=w0.os
  tape:w.tape=w0.tape
  output:w.output=w0.output
  evo:Evo g0 w0 g w (fun l=> ¬ nT l)

structure bM (g0:G) (w0:World) (st:St) (a:Act) (g:G) (w:World):Prop where
  framed:oO g0 w0 g w
  ok:GOk g w
  size:a.tmps.size=st.n
  defers:a.defers=[]
  slots: ∀i,RV g w (fun k j=>st.fl (.s i k j)) (fun k j=> .s i k j) (a.tmps.getD i undef) (st.sl i)
  obs: ∀o cells,st.ob o=some cells→ ∃arr ty,w.heap[g.β o]? =some (.cells arr ty (0,0))∧arr.size=cells.length∧g.own (g.β o)= .obj o∧
    ∀(j:Nat) x,cells[j]? =some x→ ∃c,arr[j]? =some c∧mL c∧LF g w (st.fl (.oc o j)) (.oc o j) c x
  pls: ∀i,aH (st.sl i)≠ .none→st.fl (.s i 0 0)≠ .D→(st.fl (aH (st.sl i))).hold=true∧Dy st a.tmps g.β w (a.tmps.getD i undef) (st.sl i)
  bp: ∀o,par≤o→g.β o=g0.β o
  nle:st.n≤par

def Sim(g0:G)(w0:World)(st:St)(a:Act)(w:World):Prop:= ∃g,bM g0 w0 st a g w

theorem oO.refl(g:G)(w:World):oO g w g w:=⟨rfl,rfl,rfl,Evo.refl _ _ _⟩
theorem oO.trans{g0 g1 g2:G}{w0 w1 w2:World}(h:oO g0 w0 g1 w1)(k:oO g1 w1 g2 w2):oO g0 w0 g2 w2:=⟨k.os.trans h.os,k.tape.trans h.tape,k.output.trans h.output,h.evo.trans k.evo⟩

theorem St.at_s(st:St)(i k j:Nat):st.at (.s i k j)=(st.sl i).leaf k j:=rfl
theorem St.at_oc(st:St)(o j:Nat):st.at (.oc o j)=(st.ob o).bind (·[j]?):=rfl

theorem gB{v:Value}(h:mL v):FT v 0=some v∧pR v 0 0=some v:=by
  cases v<;>first | exact⟨rfl,rfl⟩ | exact absurd rfl (h.1 _) | exact absurd rfl (h.2 _)

theorem RW.leaf{g:G}{w:World}{κ:Nat→K}{l:Nat→Loc}{v:Value}{x:W}{j:Nat}{t:T}(h:RW g w κ l v x)(hl:x.leaf j=some t): ∃u,FT v j=some u∧pR v 0 j=some u∧mL u∧LF g w (κ j) (l j) u t:=by
  cases x with
  | c y=>
    cases j with
    | zero=>
      simp only[W.leaf,z10]at hl; subst hl; exact⟨v,(gB h.1).1,(gB h.1).2,h.1,h.2⟩
    | succ j=>simp [W.leaf]at hl
  | ag xs=>
    obtain⟨cs,rfl,h2,h3⟩:=h; obtain⟨c,hc,hn,hr⟩:=h3 j t hl; exact⟨c,hc,hc,hn,hr⟩
  | _=>simp [W.leaf]at hl

theorem RV.leaf{g:G}{w:World}{κ:Nat→Nat→K}{l:Nat→Nat→Loc}{v:Value}{x:V}{k j:Nat}{t:T}(h:RV g w κ l v x)(hl:x.leaf k j=some t): ∃u,pR v k j=some u∧mL u∧LF g w (κ k j) (l k j) u t:=by
  cases x with
  | one x=>
    cases k with
    | zero=>
      obtain⟨u,_,hu,hn,hr⟩:=RW.leaf h hl; exact⟨u,hu,hn,hr⟩
    | succ k=>simp [V.leaf]at hl
  | tup ws=>
    obtain⟨vs,rfl,h2,h3⟩:=h; simp only[V.leaf,z18]at hl; obtain⟨y,hy,hl⟩:=hl; obtain⟨u,hu,hR⟩:=h3 k y hy; obtain⟨u2,hu2,_,hn,hr⟩:=RW.leaf hR hl; exact⟨u2,by simp [pR,hu,hu2],hn,hr⟩

theorem bM.get{g0:G}{w0:World}{st:St}{a:Act}{g:G}{w:World}(h:bM g0 w0 st a g w){l:Loc}{x:T}(hx:st.at l=some x): ∃v,vAt a.tmps g.β w l=some v∧mL v∧LF g w (st.fl l) l v x:=by
  cases l with
  | none=>simp [St.at,atL]at hx
  | ext=>simp [St.at,atL]at hx
  | obj o=>simp [St.at,atL]at hx
  | s i k j=>exact(h.slots i).leaf hx
  | oc o j=>
    simp only[St.at,atL,z18]at hx; obtain⟨cells,hc,hx⟩:=hx; obtain⟨arr,ty,h1,h2,h3,h4⟩:=h.obs o cells hc; obtain⟨c,c1,c2,c3⟩:=h4 j x hx; exact⟨c,by simp only[vAt]; rw[bX w _ j arr ty _ h1]; exact c1,c2,c3⟩

theorem FN{st:St}{l:Loc}{x:T}(hx:st.at l=some x):l≠ .none∧l≠ .ext∧ ∀o,l≠ .obj o:=by
  cases l<;>first | (simp [St.at,atL]at hx; done) | exact⟨by simp,by simp,by simp⟩

theorem at_isPlace{st:St}{l:Loc}{x:T}(hx:st.at l=some x):l.place=true:=by
  cases l<;>first | (simp [St.at,atL]at hx; done) | rfl

theorem CpR.evo{g g':G}{w w':World}{X:Loc→Prop}{κ:K}{b off:Nat}{xs:List T}(hE:Evo g w g' w' X)(hn: ¬ X .none)(hV:κ= .D∨κ= .F∨ ∀b,all g w b→all g' w' b∧w'.heap[b]? =w.heap[b]?)(h:CpR g w κ b off xs):CpR g' w' κ b off xs:=by
  have hZ: ∀b,frz g w b→frz g' w' b∧w'.heap[b]? =w.heap[b]? :=fun b hb=>by
    obtain⟨h1,h2⟩:=hE.keep b hb.1 (by rw[hb.2]; exact hn)
    exact⟨⟨z60 hb.1 hE.size,h1.trans hb.2⟩,h2⟩
  have key:(∀b,all g w b→all g' w' b∧w'.heap[b]? =w.heap[b]?)→(all g w b∧ ∀(j:Nat) x,xs[j]? =some x→ ∃c,w.cell? ⟨b,off+j,none⟩=some c∧Rd (all g w) w c x)→
      (all g' w' b∧ ∀(j:Nat) x,xs[j]? =some x→ ∃c,w'.cell? ⟨b,off+j,none⟩=some c∧Rd (all g' w') w' c x):=by
    rintro hq ⟨h1,h2⟩
    refine⟨(hq b h1).1,fun j x hx=> ?_⟩
    obtain⟨c,hc,hr⟩:=h2 j x hx; exact⟨c,(bV (hq b h1).2).trans hc,hr.mono hq⟩
  cases κ with
  | D=>trivial
  | F=>
    obtain⟨h1,h2⟩:=h; refine⟨(hZ b h1).1,fun j x hx=> ?_⟩
    obtain⟨c,hc,hr⟩:=h2 j x hx; exact⟨c,(bV (hZ b h1).2).trans hc,hr.mono hZ⟩
  | V=>exact key (by simpa using hV) h
  | A n=>exact h.elim
  | U n=>exact h.elim
  | S=>exact h.elim
  | N=>exact h.elim

structure wT (g:G) (w:World) (g':G) (w':World) (X:Loc→Prop) (st:St):Prop where
  evo:Evo g w g' w' X
  X: ∀l,X l→ ¬ nT l∧ ∀o,l≠ .obj o
  V:(∀b,all g w b→all g' w' b∧w'.heap[b]? =w.heap[b]?)∨ ∀l,st.fl l≠ .V
  os:w'.os=w.os
  tape:w'.tape=w.tape
  output:w'.output=w.output
  ok:GOk g' w'

theorem wT.none{g g':G}{w w':World}{X:Loc→Prop}{st:St}(h:wT g w g' w' X st): ¬ X .none:=fun hx=>(h.X _ hx).1 (.inl rfl)
theorem wT.framed{g g':G}{w w':World}{X:Loc→Prop}{st:St}(h:wT g w g' w' X st):oO g w g' w':=⟨h.os,h.tape,h.output,h.evo.mono fun l hl=>(h.X l hl).1⟩

theorem wT.lf{g g':G}{w w':World}{X:Loc→Prop}{st:St}(h:wT g w g' w' X st)(hok:GOk g w){l:Loc}{v:Value}{x:T}(hl:l≠ .none)(hx:(st.fl l).hold=true→ ¬ X l)(hf:LF g w (st.fl l) l v x):LF g' w' (st.fl l) l v x:=by
  refine LF.evo h.evo hok hl h.none hx (fun hV=> ?_) hf
  rcases h.V with h1 | h1
  · exact h1
  · exact absurd hV (h1 l)

theorem RW.calm{g g':G}{w w':World}{X:Loc→Prop}{st:St}(h:wT g w g' w' X st)(hok:GOk g w)(hβ: ∀o,g'.β o=g.β o){i k:Nat}(hX: ∀j,(st.fl (.s i k j)).hold=true→ ¬ X (.s i k j)){v:Value}{x:W}(hr:RW g w (fun j=>st.fl (.s i k j)) (fun j=> .s i k j) v x):
    RW g' w' (fun j=>st.fl (.s i k j)) (fun j=> .s i k j) v x:=by
  cases x with
  | c y=>exact⟨hr.1,h.lf hok (by simp) (hX 0) hr.2⟩
  | ag xs=>
    obtain⟨cs,h1,h2,h3⟩:=hr; refine⟨cs,h1,h2,fun j y hy=> ?_⟩
    obtain⟨c,c1,c2,c3⟩:=h3 j y hy; exact⟨c,c1,c2,h.lf hok (by simp) (hX j) c3⟩
  | ptr o off=>simp only[RW]at hr ⊢; rw[hβ]; exact hr
  | cp xs=>
    obtain⟨b,off,h1,h2⟩:=hr; refine⟨b,off,h1, ?_⟩
    have hc: ∀κ,κ=st.fl (.s i k 0)→CpR g w κ b off xs→CpR g' w' κ b off xs:=by
      intro κ hκ h2; rcases h.V with hV | hV
      · exact h2.evo h.evo h.none (.inr (.inr hV))
      · cases κ with
        | D=>trivial
        | F=>exact h2.evo h.evo h.none (.inr (.inl rfl))
        | V=>exact absurd hκ.symm (hV (.s i k 0))
        | A n=>exact h2.elim
        | U n=>exact h2.elim
        | S=>exact h2.elim
        | N=>exact h2.elim
    exact hc _ rfl h2
  | nilp=>exact hr
  | ifc b=>exact hr
  | fn f caps=>simp only[RW]at hr ⊢; simp only[hβ]; exact hr
  | _=>trivial

theorem RV.calm{g g':G}{w w':World}{X:Loc→Prop}{st:St}(h:wT g w g' w' X st)(hok:GOk g w)(hβ: ∀o,g'.β o=g.β o){i:Nat}(hX: ∀k j,(st.fl (.s i k j)).hold=true→ ¬ X (.s i k j)){v:Value}{x:V}(hr:RV g w (fun k j=>st.fl (.s i k j)) (fun k j=> .s i k j) v x):
    RV g' w' (fun k j=>st.fl (.s i k j)) (fun k j=> .s i k j) v x:=by
  cases x with
  | one x=>exact RW.calm h hok hβ (hX 0) hr
  | tup ws=>
    obtain⟨vs,h1,h2,h3⟩:=hr; refine⟨vs,h1,h2,fun k x hx=> ?_⟩
    obtain⟨u,hu,hR⟩:=h3 k x hx; exact⟨u,hu,RW.calm h hok hβ (hX k) hR⟩

theorem Rd.pl{P:Nat→Prop}{w w':World}{v:Value}{x:T}(h:Rd P w v x)(hs: ∀b,P b→w'.heap[b]? =w.heap[b]?): ∀ {p:List (Nat×Nat)} {v':Value} {x':T},Pl w v x p v' x'→Pl w' v x p v' x':=by
  induction h with
  | sl b off len cap s es cs hl hc hss hP hm hr ih=>
    intro p v' x' hp; cases hp with
    | nil=>exact .nil _ _
    | cons b off len cap es e c y i j p v' x' he hy hc h=>
      have e1:=hss i e he; have h1:=hm i e j y he hy; rw[e1]at hc; rw[h1]at hc; cases hc; exact .cons b off len cap es e _ y i j p v' x' he hy (by rw[e1,bV (hs b hP)]; exact h1) (ih i e j y he hy h)
  | nil a cap=>
    intro p v' x' hp; cases hp with
    | nil=>exact .nil _ _
    | cons b off len cap es e c y i j p v' x' he hy hc h=>simp at he
  | _=>
    intro p v' x' hp; cases hp with
    | nil=>exact .nil _ _

theorem Ow.pl{Z:Nat→Prop}{deep:Bool}{w w':World}{t:Option Nat}{F:Nat→Prop}{v:Value}{x:T}(h:Ow Z deep w t F v x)(hZ: ∀b,Z b→w'.heap[b]? =w.heap[b]?):(∀b,F b→w'.heap[b]? =w.heap[b]?)→ ∀ {p:List (Nat×Nat)} {v':Value} {x':T},Pl w v x p v' x'→Pl w' v x p v' x':=by
  induction h with
  | frz F v x hd h=>intro _ p v' x' hp; exact h.pl hZ hp
  | sl t F b len cap s arr ty es own cs ht hb hh hl hc hcap hs ha hm hr ih=>
    intro hF p v' x' hp; cases hp with
    | nil=>exact .nil _ _
    | cons _ off len cap es e c y i j p v' x' he hy hc h=>
      have e1:=hs i e he; have h1:=hm i e j y he hy; rw[z32,e1,bX w b _ arr ty _ hh,h1]at hc; cases hc; exact .cons b 0 len cap es e _ y i j p v' x' he hy (by rw[z32,e1,bV (hF b hb),bX w b _ arr ty _ hh]; exact h1) (ih i e j y he hy (fun k hk=>hF k hk.1) h)
  | nil t F a=>
    intro _ p v' x' hp; cases hp with
    | nil=>exact .nil _ _
    | cons b off len cap es e c y i j p v' x' he hy hc h=>simp at he
  | _=>
    intro _ p v' x' hp; cases hp with
    | nil=>exact .nil _ _

theorem Act.put_getD(a:Act)(d:Nat)(u:Value)(i:Nat)(hd:d<a.tmps.size):(a.put (some d) u).tmps.getD i undef=if i=d then u else a.tmps.getD i undef:=by
  simp only[Act.put,z55]; by_cases h:i=d
  · subst h
    rw[z19 rfl,z106 hd]; rfl
  · rw[z13 h,z97 (Ne.symm h)]

def aS(d:Nat):Loc→Bool
  | .s i _ _=>i == d
  | _=>false

def St.put(st:St)(d:Nat)(r:V)(κ:Nat→Nat→K):St:=
  { n:=st.n
    sl:=fun i=>if i=d then r else st.sl i
    ob:=st.ob
    fl:=fun l=>match l with
      | .s i k j=>if i=d then κ k j else if k=0∧j=0∧aS d (aH (st.sl i))=true then .D else st.fl (.s i k j)
      | l=>st.fl l }

theorem RN{g:G}{w:World}{κ κ':Nat→Nat→K}{l l':Nat→Nat→Loc}{v:Value}{x:V}(hx:aH x≠ .none):RV g w κ l v x=RV g w κ' l' v x:=by
  cases x with
  | one x=>cases x<;>first | rfl | exact absurd rfl hx
  | tup ws=>exact absurd rfl hx

theorem In(d:Nat):aS d .none=false:=rfl

theorem yB{a:Act}{d:Nat}{u:Value}(hd:d<a.tmps.size){β:Nat→Nat}{w:World}{l:Loc}(hl:aS d l=false):vAt (a.put (some d) u).tmps β w l=vAt a.tmps β w l:=by
  cases l with
  | s i k j=>
    have:i≠d:=by intro e; subst e; simp [aS]at hl
    simp only[vAt]; rw[Act.put_getD a d u i hd,z13 this]
  | _=>rfl

theorem at_put{st:St}{d:Nat}{r:V}{κ:Nat→Nat→K}{l:Loc}(hl:aS d l=false):(st.put d r κ).at l=st.at l:=by
  cases l with
  | s i k j=>
    have:i≠d:=by intro e; subst e; simp [aS]at hl
    simp only[St.at,atL,St.put,z13 this]
  | _=>rfl

theorem Dy.congr{st st':St}{tmps tmps':Array Value}{β β':Nat→Nat}{w w':World}{v:Value}{x:V}(h:Dy st tmps β w v x)(h1:vAt tmps' β' w' (aH x)=vAt tmps β w (aH x))(h2:st'.at (aH x)=st.at (aH x))
    (h3: ∀v0 x0 p v' x',vAt tmps β w (aH x)=some v0→st.at (aH x)=some x0→Pl w v0 x0 p v' x'→Pl w' v0 x0 p v' x'):Dy st' tmps' β' w' v x:=by
  cases x with
  | tup ws=>trivial
  | one x=>
    cases x with
    | al l p=>
      obtain⟨v0,x0,x',e1,e2,e3⟩:=h; exact⟨v0,x0,x',h1.trans e1,h2.trans e2,h3 _ _ _ _ _ e1 e2 e3⟩
    | pp l p i j=>
      obtain⟨v0,x0,b,off,len,cap,es,e,e1,e2,e3,e4⟩:=h; exact⟨v0,x0,b,off,len,cap,es,e,h1.trans e1,h2.trans e2,h3 _ _ _ _ _ e1 e2 e3,e4⟩
    | _=>trivial

theorem bM.pl_evo{g0:G}{w0:World}{st:St}{a:Act}{g:G}{w:World}(h:bM g0 w0 st a g w){g':G}{w':World}{X:Loc→Prop}(hE:Evo g w g' w' X)(hn: ¬ X .none){l:Loc}(hk:(st.fl l).hold=true)(hX: ¬ X l){v0:Value}{x0:T}(hv:vAt a.tmps g.β w l=some v0)(hx:st.at l=some x0)
    {p:List (Nat×Nat)}{v':Value}{x':T}(hp:Pl w v0 x0 p v' x'):Pl w' v0 x0 p v' x':=by
  obtain⟨v,e1,_,e2⟩:=h.get hx; rw[hv]at e1; cases e1; have hl:=(FN hx).1; have hZ: ∀b,frz g w b→w'.heap[b]? =w.heap[b]? :=fun b hb=>(hE.keep b hb.1 (by rw[hb.2]; exact hn)).2
  have hF: ∀b,g.own b=l→w'.heap[b]? =w.heap[b]? :=fun b hb=>(hE.keep b (h.ok.own b (by rw[hb]; exact hl)) (by rw[hb]; exact hX)).2
  generalize st.fl l=κ at hk e2; cases κ with
  | A n=>exact Ow.pl e2 hZ hF hp
  | U n=>exact Ow.pl e2 hZ hF hp
  | _=>simp [K.hold]at hk

theorem bM.put{g0:G}{w0:World}{st:St}{a:Act}{g:G}{w:World}(h:bM g0 w0 st a g w){g':G}{w':World}{X:Loc→Prop}(hC:wT g w g' w' X st)(hβ: ∀o,g'.β o=g.β o){d:Nat}(hd:d<st.n)
    (hX: ∀l,(st.fl l).hold=true→(∃x,st.at l=some x)→aS d l=false→ ¬ X l){u:Value}{r:V}{κ:Nat→Nat→K}(hr:RV g' w' κ (fun k j=> .s d k j) u r)
    (hpl:aH r≠ .none→κ 0 0≠ .D→(st.fl (aH r)).hold=true∧aS d (aH r)=false∧Dy st a.tmps g'.β w' u r):
    bM g0 w0 (st.put d r κ) (a.put (some d) u) g' w':=by
  have hd':d<a.tmps.size:=by rw[h.size]; exact hd
  have hXl: ∀l x,st.at l=some x→aS d l=false→(st.fl l).hold=true→ ¬ X l:=fun l x hx hl hk=>hX l hk ⟨x,hx⟩ hl
  refine⟨h.framed.trans hC.framed,hC.ok, ?_,h.defers,fun i=> ?_,fun o cells hc=> ?_,fun i hi hf=> ?_,fun o ho=>(hβ o).trans (h.bp o ho),h.nle⟩
  · simp only[Act.put,z117]; exact h.size
  · rw[Act.put_getD a d u i hd']
    by_cases hi:i=d
    · subst hi
      simp only[St.put,if_true]; exact hr
    · simp only[St.put,z13 hi]
      by_cases hroot:aH (st.sl i)= .none
      · have e:(fun k j=>if k=0∧j=0∧aS d (aH (st.sl i))=true then K.D else st.fl (.s i k j))=fun k j=>st.fl (.s i k j):=by
          funext k j
          rw[hroot,In,z13 (by simp)]
        rw[e]; have hsl:=h.slots i; generalize hs:st.sl i=x at hsl; have hat: ∀k j t,x.leaf k j=some t→st.at (.s i k j)=some t:=fun k j t ht=>by rw[St.at_s,hs]; exact ht
        have hns: ∀k j,aS d (.s i k j)=false:=fun k j=>by simp [aS,hi]
        have hW: ∀k (y:W),(∀j t,y.leaf j=some t→st.at (.s i k j)=some t)→ ∀v,RW g w (fun j=>st.fl (.s i k j)) (fun j=> .s i k j) v y→RW g' w' (fun j=>st.fl (.s i k j)) (fun j=> .s i k j) v y:=by
          intro k y hy v hR; cases y with
          | c z=>exact⟨hR.1,hC.lf h.ok (by simp) (hXl _ z (hy 0 z rfl) (hns k 0)) hR.2⟩
          | ag xs=>
            obtain⟨cs,h1,h2,h3⟩:=hR; refine⟨cs,h1,h2,fun j z hz=> ?_⟩
            obtain⟨c,c1,c2,c3⟩:=h3 j z hz; exact⟨c,c1,c2,hC.lf h.ok (by simp) (hXl _ z (hy j z hz) (hns k j)) c3⟩
          | ptr o off=>simp only[RW]at hR ⊢; rw[hβ]; exact hR
          | cp xs=>
            obtain⟨b,off,h1,h2⟩:=hR; refine⟨b,off,h1, ?_⟩
            have hc: ∀κ,κ=st.fl (.s i k 0)→CpR g w κ b off xs→CpR g' w' κ b off xs:=by
              intro κ hκ h2; rcases hC.V with hV | hV
              · exact h2.evo hC.evo hC.none (.inr (.inr hV))
              · cases κ with
                | D=>trivial
                | F=>exact h2.evo hC.evo hC.none (.inr (.inl rfl))
                | V=>exact absurd hκ.symm (hV (.s i k 0))
                | A n=>exact h2.elim
                | U n=>exact h2.elim
                | S=>exact h2.elim
                | N=>exact h2.elim
            exact hc _ rfl h2
          | nilp=>exact hR
          | ifc b=>exact hR
          | fn f caps=>simp only[RW]at hR ⊢; simp only[hβ]; exact hR
          | _=>trivial
        cases x with
        | one y=>exact hW 0 y (fun j t ht=>hat 0 j t ht) _ hsl
        | tup ws=>
          obtain⟨vs,h1,h2,h3⟩:=hsl; refine⟨vs,h1,h2,fun k y hy=> ?_⟩
          obtain⟨v,hv,hR⟩:=h3 k y hy; exact⟨v,hv,hW k y (fun j t ht=>hat k j t (by simp [V.leaf,hy,ht])) v hR⟩
      · have hsl:=h.slots i
        have: ∀(x:V),aH x≠ .none→ ∀κ l v,RV g' w' κ l v x:=by
          intro x hx κ l v; cases x with
          | one x=>cases x<;>first | trivial | exact absurd rfl hx
          | tup ws=>exact absurd rfl hx
        exact this _ hroot _ _ _
  · obtain⟨arr,ty,h1,h2,h3,h4⟩:=h.obs o cells hc
    have hb:g.β o<w.heap.size:=h.ok.own _ (by rw[h3]; simp)
    obtain⟨k1,k2⟩:=hC.evo.keep (g.β o) hb (by rw[h3]; exact fun hx=>(hC.X _ hx).2 o rfl)
    rw[hβ]; refine⟨arr,ty,k2.trans h1,h2,k1.trans h3,fun j x hx=> ?_⟩
    obtain⟨c,c1,c2,c3⟩:=h4 j x hx; exact⟨c,c1,c2,hC.lf h.ok (by simp) (hXl _ x (by rw[St.at_oc]; have:st.ob o=some cells:=hc; rw[this]; exact hx) rfl) c3⟩
  · by_cases hid:i=d
    · subst hid
      have e1:(st.put i r κ).sl i=r:=by simp [St.put]
      have e2:(st.put i r κ).fl (.s i 0 0)=κ 0 0:=by simp [St.put]
      rw[e1]at hi ⊢; rw[e2]at hf; obtain⟨h1,h2,h3⟩:=hpl hi hf
      · refine⟨?_, ?_⟩
        · have:(st.put i r κ).fl (aH r)=st.fl (aH r):=by
            generalize hrr:aH r=l at*; cases l with
            | s i' k j=>
              have hne:i'≠i:=by intro e; subst e; simp [aS]at h2
              have hns:aS i (aH (st.sl i'))=false∨ ¬ (k=0∧j=0):=by
                by_cases hkj:k=0∧j=0
                · left
                  obtain⟨rfl,rfl⟩:=hkj; have hx: ∃x,st.at (.s i' 0 0)=some x:=by
                    generalize hrv:r=rv at h3 hrr; cases rv with
                    | tup ws=>simp [aH]at hrr
                    | one y=>
                      cases y with
                      | al l p=>simp only[aH]at hrr; subst hrr; obtain⟨_,x0,_,_,e,_⟩:=h3; exact⟨x0,e⟩
                      | pp l p a b=>simp only[aH]at hrr; subst hrr; obtain⟨_,x0,_,_,_,_,_,_,_,e,_⟩:=h3; exact⟨x0,e⟩
                      | _=>simp [aH]at hrr
                  obtain⟨x,hx⟩:=hx; rw[St.at_s]at hx; cases hsl:st.sl i' with
                  | tup ws=>rfl
                  | one y=>cases y<;>first | rfl | (rw[hsl]at hx; simp [V.leaf,W.leaf]at hx)
                · exact .inr hkj
              simp only[St.put,z13 hne]; rw[z13]; rintro ⟨a1,a2,a3⟩
              rcases hns with h | h
              · rw[h]at a3; cases a3
              · exact h ⟨a1,a2⟩
            | _=>rfl
          rw[this]; exact h1
        · have h4:(a.put (some i) u).tmps.getD i undef=u:=by rw[Act.put_getD a i u i hd',z19 rfl]
          rw[h4]; exact h3.congr (yB hd' h2) (at_put h2) (fun _ _ _ _ _ _ _ h=>h)
    · have e1:(st.put d r κ).sl i=st.sl i:=by simp [St.put,hid]
      rw[e1]at hi ⊢; have hf':aS d (aH (st.sl i))=false∧st.fl (.s i 0 0)≠ .D:=by
        simp only[St.put,z13 hid,NH]at hf; by_cases hs:aS d (aH (st.sl i))=true
        · rw[z19 hs]at hf; exact absurd rfl hf
        · rw[z13 hs]at hf; exact⟨by simpa using hs,hf⟩
      obtain⟨h1,h2⟩:=h.pls i hi hf'.2; have hroot: ∃x,st.at (aH (st.sl i))=some x:=by
        generalize hrv:st.sl i=rv at h2 hi; cases rv with
        | tup ws=>simp [aH]at hi
        | one y=>
          cases y with
          | al l p=>obtain⟨_,x0,_,_,e,_⟩:=h2; exact⟨x0,e⟩
          | pp l p a b=>obtain⟨_,x0,_,_,_,_,_,_,_,e,_⟩:=h2; exact⟨x0,e⟩
          | _=>simp [aH]at hi
      obtain⟨x0,hx0⟩:=hroot; have hnX:=hXl _ _ hx0 hf'.1 h1; refine⟨?_, ?_⟩
      · have:(st.put d r κ).fl (aH (st.sl i))=st.fl (aH (st.sl i)):=by
          generalize hrr:aH (st.sl i)=l at*; cases l with
          | s i' k j=>
            have hne:i'≠d:=by intro e; subst e; simp [aS]at hf'
            simp only[St.put,z13 hne]; rw[z13]; rintro ⟨rfl,rfl,a3⟩
            rw[St.at_s]at hx0; cases hsl:st.sl i' with
            | tup ws=>rw[hsl]at a3; simp [aH,aS]at a3
            | one y=>cases y<;>first | (rw[hsl]at a3; simp [aH,aS]at a3; done) | (rw[hsl]at hx0; simp [V.leaf,W.leaf]at hx0)
          | _=>rfl
        rw[this]; exact h1
      · rw[Act.put_getD a d u i hd',z13 hid]
        refine h2.congr ?_ (at_put hf'.1) (fun v0 x0 p v' x' e1 e2 hp=>h.pl_evo hC.evo hC.none h1 hnX e1 e2 hp)
        rw[yB hd' hf'.1]; generalize aH (st.sl i)=l at*; cases l with
        | oc o j=>
          simp only[vAt]; rw[hβ]; simp only[St.at,atL,z18]at hx0; obtain⟨cells,hc,_⟩:=hx0; obtain⟨arr,ty,k1,k2,k3,k4⟩:=h.obs o cells hc; exact bV (hC.evo.keep (g.β o) (h.ok.own _ (by rw[k3]; simp)) (by rw[k3]; exact fun hx=>(hC.X _ hx).2 o rfl)).2
        | _=>rfl
end Go.Own

namespace Go.Own
open Go.RowKit

def V.comp:V→Nat→Option W
 | .one w,0=>some w
 | .tup ws,k=>ws[k]?
 | _,_=>none

theorem RW.map{g g':G}{w w':World}{κ κ':Nat→K}{l l':Nat→Loc}{v:Value}{x:W}(hβ: ∀o,g'.β o=g.β o)(hleaf: ∀j t u,x.leaf j=some t→FT v j=some u→mL u→LF g w (κ j) (l j) u t→LF g' w' (κ' j) (l' j) u t)
  (hcp: ∀xs,x= .cp xs→ ∀b off,CpR g w (κ 0) b off xs→CpR g' w' (κ' 0) b off xs)(h:RW g w κ l v x):RW g' w' κ' l' v x:=by
 cases x with
 | c y=>exact⟨h.1,hleaf 0 y v rfl (gB h.1).1 h.1 h.2⟩
 | ag xs=>
  obtain⟨cs,rfl,h2,h3⟩:=h; refine⟨cs,rfl,h2,fun j y hy=> ?_⟩
  obtain⟨c,c1,c2,c3⟩:=h3 j y hy; exact⟨c,c1,c2,hleaf j y c hy c1 c2 c3⟩
 | ptr o off=>simp only[RW]at h ⊢; rw[hβ]; exact h
 | cp xs=>
  obtain⟨b,off,h1,h2⟩:=h; exact⟨b,off,h1,hcp xs rfl b off h2⟩
 | nilp=>exact h
 | ifc b=>exact h
 | fn f caps=>simp only[RW]at h ⊢; simp only[hβ]; exact h
 | _=>trivial

theorem RV.map{g g':G}{w w':World}{κ κ':Nat→Nat→K}{l l':Nat→Nat→Loc}{v:Value}{x:V}(hβ: ∀o,g'.β o=g.β o)(hleaf: ∀k j t u,x.leaf k j=some t→pR v k j=some u→mL u→LF g w (κ k j) (l k j) u t→LF g' w' (κ' k j) (l' k j) u t)
  (hcp: ∀k xs,x.comp k=some (.cp xs)→ ∀b off,CpR g w (κ k 0) b off xs→CpR g' w' (κ' k 0) b off xs)(h:RV g w κ l v x):RV g' w' κ' l' v x:=by
 cases x with
 | one x=>
  refine RW.map hβ (fun j t u hj hu hn hf=>hleaf 0 j t u hj ?_ hn hf) (fun xs hx=>hcp 0 xs (by rw[hx]; rfl)) h
  have hx:RW g w (κ 0) (l 0) v x:=h; obtain⟨u',h1,h2,_⟩:=RW.leaf hx hj; rw[h1]at hu; cases hu; exact h2
 | tup ws=>
  obtain⟨vs,rfl,h2,h3⟩:=h; refine⟨vs,rfl,h2,fun k x hx=> ?_⟩
  obtain⟨u,hu,hR⟩:=h3 k x hx; refine⟨u,hu,RW.map hβ (fun j t u' hj hu' hn hf=>hleaf k j t u' (by simp [V.leaf,hx,hj]) (by simp [pR,hu,hu']) hn hf) (fun xs hx'=>hcp k xs (by simp only[V.comp]; rw[hx,hx'])) hR⟩

theorem CpR.own{g g':G}{w:World}{κ:K}{b off:Nat}{xs:List T}(hZ: ∀b,g.own b= .none→g'.own b= .none)(hA: ∀b,all g w b→all g' w b)(h:CpR g w κ b off xs):CpR g' w κ b off xs:=by
 have hZ': ∀b,frz g w b→frz g' w b:=fun b hb=>⟨hb.1,hZ b hb.2⟩
 cases κ with
 | F=>
  obtain⟨h1,h2⟩:=h; refine⟨hZ' _ h1,fun j x hx=> ?_⟩
  obtain⟨c,hc,hr⟩:=h2 j x hx; exact⟨c,hc,hr.weaken hZ'⟩
 | V=>
  obtain⟨h1,h2⟩:=h; refine⟨hA _ h1,fun j x hx=> ?_⟩
  obtain⟨c,hc,hr⟩:=h2 j x hx; exact⟨c,hc,hr.weaken hA⟩
 | _=>exact h

def St.setf(st:St)(R:Loc→Bool)(f:Loc→K):St:=
 { st with fl:=fun m=>match m with
  | .s i k j=>if k=0∧j=0∧R (aH (st.sl i))=true then .D else f (.s i k j)
  | m=>f m }

theorem sG{st:St}{i:Nat}{x:T}(h:st.at (.s i 0 0)=some x):aH (st.sl i)= .none:=by
 rw[St.at_s]at h; cases hsl:st.sl i with
 | tup ws=>rfl
 | one y=>cases y<;>first | rfl | (rw[hsl]at h; simp [V.leaf,W.leaf]at h)

theorem uN{st:St}{R:Loc→Bool}{f:Loc→K}(hR:R .none=false){l:Loc}{x:T}(hx:st.at l=some x):(st.setf R f).fl l=f l:=by
 cases l with
 | s i k j=>
  simp only[St.setf]; rw[z13]; rintro ⟨rfl,rfl,h⟩
  rw[sG hx,hR]at h; cases h
 | _=>rfl

theorem Dy.root{st:St}{tmps:Array Value}{β:Nat→Nat}{w:World}{v:Value}{x:V}(h:Dy st tmps β w v x)(hx:aH x≠ .none): ∃t,st.at (aH x)=some t:=by
 cases x with
 | tup ws=>exact absurd rfl hx
 | one y=>
  cases y with
  | al l p=>obtain⟨_,x0,_,_,e,_⟩:=h; exact⟨x0,e⟩
  | pp l p a b=>obtain⟨_,x0,_,_,_,_,_,_,_,e,_⟩:=h; exact⟨x0,e⟩
  | _=>exact absurd rfl hx

theorem bM.setf{g0:G}{w0:World}{st:St}{a:Act}{g:G}{w:World}(h:bM g0 w0 st a g w){g':G}{R:Loc→Bool}{f:Loc→K}(hR:R .none=false)(hβ: ∀o,g'.β o=g.β o)(hok:GOk g' w)
  (hfor: ∀b,nT (g.own b)→g'.own b=g.own b)(hobj: ∀b o,g.own b= .obj o→g'.own b= .obj o)(hA: ∀b,all g w b→all g' w b)
  (hL: ∀l x v,st.at l=some x→vAt a.tmps g.β w l=some v→LF g w (st.fl l) l v x→LF g' w (f l) l v x)
  (hcp: ∀i k xs b off,(st.sl i).comp k=some (.cp xs)→CpR g w (st.fl (.s i k 0)) b off xs→CpR g w (f (.s i k 0)) b off xs)
  (hroot: ∀i,aH (st.sl i)≠ .none→R (aH (st.sl i))=false→f (.s i 0 0)≠ .D→st.fl (.s i 0 0)≠ .D∧((st.fl (aH (st.sl i))).hold=true→(f (aH (st.sl i))).hold=true)):
  bM g0 w0 (st.setf R f) a g' w:=by
 have hZ: ∀b,g.own b= .none→g'.own b= .none:=fun b hb=>(hfor b (.inl hb)).trans hb
 refine⟨⟨h.framed.os,h.framed.tape,h.framed.output,h.framed.evo.size,fun b hb hX=> ?_⟩,hok,h.size,h.defers,fun i=> ?_,fun o cells hc=> ?_,fun i hi hf=> ?_,fun o ho=>(hβ o).trans (h.bp o ho),h.nle⟩
 ·obtain⟨e1,e2⟩:=h.framed.evo.keep b hb hX
  have hX':nT (g0.own b):=z146.1 hX; exact⟨(hfor b (by rw[e1]; exact hX')).trans e1,e2⟩
 ·have hs:=h.slots i
  show RV g' w (fun k j=>(st.setf R f).fl (.s i k j)) (fun k j=> .s i k j) (a.tmps.getD i undef) (st.sl i)
  refine hs.map hβ (fun k j t u hj hu _ hf=> ?_) (fun k xs hx b off hc=> ?_)
  ·have hat:st.at (.s i k j)=some t:=hj
   rw[uN hR hat]; exact hL _ t u hat hu hf
  ·have e:(st.setf R f).fl (.s i k 0)=f (.s i k 0):=by
    simp only[St.setf]; rw[z13]; rintro ⟨rfl,_,h3⟩
    have:st.sl i= .one (.cp xs):=by
     cases hsl:st.sl i with
     | one y=>rw[hsl]at hx; simp only[V.comp,z10]at hx; rw[hx]
     | tup ws=>rw[hsl]at h3; rw[show aH (V.tup ws)= .none from rfl,hR]at h3; cases h3
    rw[this,show aH (V.one (.cp xs))= .none from rfl,hR]at h3; cases h3
   show CpR g' w ((st.setf R f).fl (.s i k 0)) b off xs; rw[e]; exact CpR.own hZ hA (hcp i k xs b off hx hc)
 ·obtain⟨arr,ty,h1,h2,h3,h4⟩:=h.obs o cells hc
  rw[hβ]; refine⟨arr,ty,h1,h2,hobj _ _ h3,fun j x hx=> ?_⟩
  obtain⟨c,c1,c2,c3⟩:=h4 j x hx; have hat:st.at (.oc o j)=some x:=by rw[St.at_oc]; have:st.ob o=some cells:=hc; rw[this]; exact hx
  exact⟨c,c1,c2,hL (.oc o j) x c hat (by simp only[vAt]; rw[bX w _ j arr ty _ h1]; exact c1) c3⟩
 ·have hi':aH (st.sl i)≠ .none:=hi
  have hf1:R (aH (st.sl i))=false∧f (.s i 0 0)≠ .D:=by
   simp only[St.setf,NH]at hf; by_cases hs:R (aH (st.sl i))=true
   ·rw[z19 hs]at hf; exact absurd rfl hf
   ·rw[z13 hs]at hf; exact⟨by simpa using hs,hf⟩
  obtain⟨k1,k2⟩:=hroot i hi' hf1.1 hf1.2; obtain⟨p1,p2⟩:=h.pls i hi' k1; obtain⟨t,ht⟩:=p2.root hi'; refine⟨?_, ?_⟩
  ·show((st.setf R f).fl (aH (st.sl i))).hold=true
   rw[uN hR ht]; exact k2 p1
  ·have hβ':g'.β=g.β:=funext hβ
   rw[hβ']; exact p2.congr rfl rfl (fun _ _ _ _ _ _ _ h=>h)

def St.lower(st:St)(l:Loc)(κ:K):St:=st.setf (fun m=>decide (m=l)) (fun m=>if m=l then κ else st.fl m)

theorem CpR.toV{g:G}{w:World}{κ:K}{b off:Nat}{xs:List T}(h:CpR g w κ b off xs)(hκ:κ≠ .D):CpR g w .V b off xs:=by
 cases κ with
 | D=>exact absurd rfl hκ
 | V=>exact h
 | F=>
  obtain⟨h1,h2⟩:=h; refine⟨h1.all,fun j x hx=> ?_⟩
  obtain⟨c,hc,hr⟩:=h2 j x hx; exact⟨c,hc,hr.weaken fun b hb=>hb.all⟩
 | A n=>exact h.elim
 | U n=>exact h.elim
 | S=>exact h.elim
 | N=>exact h.elim

def K.lo:K→K→Bool
 | _, .D=>true
 | .D,_=>false
 | _, .V=>true
 | .U n, .A m=>n == m&& !(m == 0)
 | .U n, .U m=>n == m||m == 0
 | .N, .A _=>true
 | .N, .U _=>true
 | .N, .F=>true
 | .S, .N=>false
 | .S,_=>true
 | a,b=>decide (a=b)

theorem LF.lo{g:G}{w:World}{κ κ':K}{l:Loc}{v:Value}{x:T}(hok:GOk g w)(hl:l.place=true)(h:LF g w κ l v x)(hk:κ.lo κ'=true):LF g w κ' l v x:=by
 by_cases e:κ=κ'
 ·subst e; exact h
 by_cases hD:κ'= .D
 ·subst hD
  exact fun hs=>LF.scal (g':=g) (w':=w) (κ':= .D) (l':=l) h hs (by simp) hs
 by_cases hD2:κ= .D
 ·subst hD2; cases κ'<;>simp [K.lo]at hk hD
 by_cases hV:κ'= .V
 ·subst hV
  exact h.rd hok hl hD2
 cases κ with
 | D=>exact absurd rfl hD2
 | S=>
  refine LF.scal h h.1 ?_
  intro e2; subst e2; simp [K.lo]at hk
 | N=>
  obtain⟨rfl,a,rfl⟩:=h; cases κ' with
  | A n=>exact .nil _ _ _
  | U n=>exact .nil _ _ _
  | F=>exact .nil _ _
  | _=>simp_all [K.lo]
 | U n=>
  cases κ' with
  | A m=>
   have:n=m∧ ¬ m=0:=by simpa [K.lo]using hk
   obtain⟨rfl,h0⟩:=this; have h:Ow (frz g w) true w (gC n) (fun b=>g.own b=l) v x:=h
   rw[oI (by omega)]at h
   exact Ow.mono (deep':=false) h (by simp) (by simp) (fun b hb=>⟨hb,rfl⟩)
  | U m=>
   have hm:m=0:=by
    have h2:n=m∨m=0:=by simpa [K.lo]using hk
    rcases h2 with h2 | h2
    ·subst h2; exact absurd rfl e
    ·exact h2
   subst hm; have h:Ow (frz g w) true w (gC n) (fun b=>g.own b=l) v x:=h
   cases n with
   | zero=>exact absurd rfl e
   | succ n=>exact h.sub
  | _=>simp_all [K.lo]
 | _=>cases κ'<;>simp_all [K.lo]

theorem CpR.lo{g:G}{w:World}{κ κ':K}{b off:Nat}{xs:List T}(h:CpR g w κ b off xs)(hk:κ.lo κ'=true):CpR g w κ' b off xs:=by
 cases κ with
 | D=>cases κ'<;>first | exact h | simp [K.lo]at hk
 | V=>cases κ'<;>first | exact h | trivial | simp [K.lo]at hk
 | F=>cases κ'<;>first | exact h | trivial | exact h.toV (by simp) | simp [K.lo]at hk
 | _=>exact h.elim

theorem bM.lower{g0:G}{w0:World}{st:St}{a:Act}{g:G}{w:World}(h:bM g0 w0 st a g w){l:Loc}{κ:K}(hp:l.place=true)(hκ:(st.fl l).lo κ=true):bM g0 w0 (st.lower l κ) a g w:=by
 have hl:=(Loc.place_ne hp).1; refine h.setf (by simp [Ne.symm hl]) (fun _=>rfl) h.ok (fun _ _=>rfl) (fun _ _ h=>h) (fun _ h=>h) (fun m x v hx hv hf=> ?_) (fun i k xs b off hcx hc=> ?_) (fun i hi hR hf=> ?_)
 ·by_cases e:m=l
  ·subst e
   rw[z19 rfl]; exact hf.lo h.ok hp hκ
  ·rw[z13 e]; exact hf
 ·by_cases e:Loc.s i k 0=l
  ·rw[z19 e]
   rw[e]at hc; exact hc.lo hκ
  ·rw[z13 e]; exact hc
 ·have hne:aH (st.sl i)≠l:=by simpa using hR
  refine⟨?_,fun h=>by rw[z13 hne]; exact h⟩
  by_cases e:Loc.s i 0 0=l
  ·rw[z19 e]at hf
   rw[e]; intro e2; rw[e2]at hκ; cases κ<;>simp [K.lo]at hκ hf
  ·rw[z13 e]at hf; exact hf

def G.freeze(g:G)(l:Loc):G:= { β:=g.β,own:=fun b=>if g.own b=l then .none else g.own b }
def St.freeze(st:St)(l:Loc):St:=st.setf (fun m=>decide (m=l)) (fun m=>if m=l then .F else st.fl m)

theorem bM.freeze{g0:G}{w0:World}{st:St}{a:Act}{g:G}{w:World}(h:bM g0 w0 st a g w){l:Loc}(hp:l.place=true)(hκ:st.fl l≠ .D∧st.fl l≠ .V):bM g0 w0 (st.freeze l) a (g.freeze l) w:=by
 obtain⟨hl,hle,hlo⟩:=Loc.place_ne hp; have hown: ∀b m,m≠l→g.own b=m→(g.freeze l).own b=m:=fun b m hm hb=>by simp only[G.freeze]; rw[z13 (by rw[hb]; exact hm)]; exact hb
 have hZ: ∀b,g.own b= .none→(g.freeze l).own b= .none:=fun b hb=>hown b _ (Ne.symm hl) hb
 have hA: ∀b,all g w b→all (g.freeze l) w b:=fun b hb=>⟨hb.1,fun o=>by
  show(if g.own b=l then Loc.none else g.own b)≠ .obj o
  split
  ·simp
  ·exact hb.2 o⟩
 have hokf:GOk (g.freeze l) w:=⟨fun b hb=>h.ok.own b (fun e=>hb (hZ b e))⟩
 refine h.setf (by simp [Ne.symm hl]) (fun _=>rfl) hokf (fun b hb=> ?_) (fun b o hb=>hown b _ (Ne.symm (hlo o)) hb) hA (fun m x v hx hv hf=> ?_) (fun i k xs b off hcx hc=> ?_) (fun i hi hR hf=> ?_)
 ·rcases hb with hb | hb
  ·rw[hb]; exact hZ b hb
  ·rw[hb]; exact hown b _ (Ne.symm hle) hb
 ·by_cases e:m=l
  ·subst e
   rw[z19 rfl]; exact LF.freeze (l':=m) h.ok hl hκ (fun b hb=>by simp [G.freeze,hb]) hZ hf
  ·rw[z13 e]
   exact hf.moved (fun b hb=>hown b m e hb) hZ hA
 ·by_cases e:Loc.s i k 0=l
  ·rw[z19 e]
   rw[e]at hc; generalize st.fl l=κ at hc hκ; cases κ with
   | D=>exact absurd rfl hκ.1
   | V=>exact absurd rfl hκ.2
   | F=>exact hc
   | A n=>exact hc.elim
   | U n=>exact hc.elim
   | S=>exact hc.elim
   | N=>exact hc.elim
  ·rw[z13 e]; exact hc
 ·have hne:aH (st.sl i)≠l:=by simpa using hR
  refine⟨?_,fun h=>by rw[z13 hne]; exact h⟩
  by_cases e:Loc.s i 0 0=l
  ·rw[e]; exact hκ.1
  ·rw[z13 e]at hf; exact hf

def St.killV(st:St):St:=st.setf (fun _=>false) (fun m=>if st.fl m= .V then .D else st.fl m)

theorem bM.killV{g0:G}{w0:World}{st:St}{a:Act}{g:G}{w:World}(h:bM g0 w0 st a g w):bM g0 w0 st.killV a g w:=by
 refine h.setf rfl (fun _=>rfl) h.ok (fun _ _=>rfl) (fun _ _ h=>h) (fun _ h=>h) (fun m x v hx hv hf=> ?_) (fun i k xs b off hcx hc=> ?_) (fun i hi hR hf=> ?_)
 ·by_cases e:st.fl m= .V
  ·rw[z19 e]
   exact fun hs=>LF.scal (g':=g) (w':=w) (κ':= .D) (l':=m) hf hs (by simp) hs
  ·rw[z13 e]; exact hf
 ·by_cases e:st.fl (.s i k 0)= .V
  ·rw[z19 e]; trivial
  ·rw[z13 e]; exact hc
 ·refine⟨fun e=>hf (by rw[e]; simp),fun h=> ?_⟩
  have:st.fl (aH (st.sl i))≠ .V:=by intro e; rw[e]at h; simp [K.hold]at h
  rw[z13 this]; exact h

theorem qL(st:St)(l:Loc):(st.killV).fl l≠ .V:=by
 have: ∀m,(if st.fl m= .V then K.D else st.fl m)≠ .V:=by
  intro m; split
  ·simp
  ·assumption
 cases l with
 | s i k j=>
  simp only[St.killV,St.setf]; rw[z13 (by simp)]
  exact this _
 | _=>exact this _

def G.mv(g:G)(l l':Loc):G:= { β:=g.β,own:=fun b=>if g.own b=l then l' else g.own b }
def St.mv(st:St)(l l':Loc):St:=st.setf (fun m=>decide (m=l)||decide (m=l')) (fun m=>if m=l' then st.fl l else if m=l then(st.fl l).cp else st.fl m)

theorem bM.mvG{g0:G}{w0:World}{st:St}{a:Act}{g:G}{w:World}(h:bM g0 w0 st a g w){l l':Loc}(h1:l.place=true)(h2:l'.place=true)(hne:l≠l')
  (hs: ∃x,st.at l=some x)(hs': ∃x,st.at l'=some x)(hnew: ∀x v,st.at l'=some x→vAt a.tmps g.β w l'=some v→LF (g.mv l l') w (st.fl l) l' v x):bM g0 w0 (st.mv l l') a (g.mv l l') w:=by
 obtain⟨hl,hle,hlo⟩:=Loc.place_ne h1; obtain⟨hl',hle',hlo'⟩:=Loc.place_ne h2; have hown: ∀b m,m≠l→g.own b=m→(g.mv l l').own b=m:=fun b m hm hb=>by simp only[G.mv]; rw[z13 (by rw[hb]; exact hm)]; exact hb
 have hZ: ∀b,g.own b= .none→(g.mv l l').own b= .none:=fun b hb=>hown b _ (Ne.symm hl) hb
 have hA: ∀b,all g w b→all (g.mv l l') w b:=fun b hb=>⟨hb.1,fun o=>by
  show(if g.own b=l then l' else g.own b)≠ .obj o
  split
  ·exact hlo' o
  ·exact hb.2 o⟩
 have hok':GOk (g.mv l l') w:=⟨fun b hb=>h.ok.own b (fun e=>hb (hZ b e))⟩
 obtain⟨x0,hx0⟩:=hs; have hncp: ∀i k,(Loc.s i k 0=l∨Loc.s i k 0=l')→ ∃x,st.at (.s i k 0)=some x:=by
  rintro i k (e | e)
  ·rw[e]; exact⟨x0,hx0⟩
  ·rw[e]; exact hs'
 have hroot0: ∀i,(Loc.s i 0 0=l∨Loc.s i 0 0=l')→aH (st.sl i)= .none:=fun i e=>by
  obtain⟨x,hx⟩:=hncp i 0 e; exact sG hx
 refine h.setf (by simp [Ne.symm hl,Ne.symm hl']) (fun _=>rfl) hok' (fun b hb=> ?_) (fun b o hb=>hown b _ (Ne.symm (hlo o)) hb) hA (fun m x v hx hv' hf=> ?_) (fun i k xs b off hcx hc=> ?_) (fun i hi hR hf=> ?_)
 ·rcases hb with hb | hb
  ·rw[hb]; exact hZ b hb
  ·rw[hb]; exact hown b _ (Ne.symm hle) hb
 ·by_cases e1:m=l'
  ·subst e1
   rw[z19 rfl]; exact hnew x v hx hv'
  ·rw[z13 e1]
   by_cases e2:m=l
   ·subst e2
    rw[z19 rfl]; have h3:=hf.cp (l':=m) h.ok h1; cases hk:st.fl m<;>rw[hk]at h3<;>first | exact h3 | exact Rd.weaken hA h3 | exact Rd.weaken (fun b hb=>⟨hb.1,hZ b hb.2⟩) h3
   ·rw[z13 e2]
    exact hf.moved (fun b hb=>hown b m e2 hb) hZ hA
 ·by_cases e:Loc.s i k 0=l∨Loc.s i k 0=l'
  ·obtain⟨y,hy⟩:=hncp i k e
   exfalso
   rw[St.at_s]at hy; cases hsl:st.sl i with
   | one z=>
    rw[hsl]at hcx hy; cases k with
    | zero=>simp only[V.comp,z10]at hcx; rw[hcx]at hy; simp [V.leaf,W.leaf]at hy
    | succ k=>simp [V.comp]at hcx
   | tup ws=>rw[hsl]at hcx hy; simp only[V.comp]at hcx; simp [V.leaf,hcx,W.leaf]at hy
  ·rw[z13 (fun h=>e (.inr h)),z13 (fun h=>e (.inl h))]; exact hc
 ·have hne2:aH (st.sl i)≠l∧aH (st.sl i)≠l':=by simpa using hR
  have e0: ¬ (Loc.s i 0 0=l∨Loc.s i 0 0=l'):=fun e=>hi (hroot0 i e)
  rw[z13 (fun h=>e0 (.inr h)),z13 (fun h=>e0 (.inl h))]at hf
  exact⟨hf,fun h=>by rw[z13 hne2.2,z13 hne2.1]; exact h⟩
theorem bM.mv{g0:G}{w0:World}{st:St}{a:Act}{g:G}{w:World}(h:bM g0 w0 st a g w){l l':Loc}(h1:l.place=true)(h2:l'.place=true)(hne:l≠l')
  (ht:st.at l'=st.at l)(hs: ∃x,st.at l=some x)(hv:vAt a.tmps g.β w l'=vAt a.tmps g.β w l):bM g0 w0 (st.mv l l') a (g.mv l l') w:=by
 have hl:=(Loc.place_ne h1).1; have hZ: ∀b,g.own b= .none→(g.mv l l').own b= .none:=fun b hb=>by simp only[G.mv]; rw[z13 (by rw[hb]; exact Ne.symm hl)]; exact hb
 have hA: ∀b,all g w b→all (g.mv l l') w b:=fun b hb=>⟨hb.1,fun o=>by
  show(if g.own b=l then l' else g.own b)≠ .obj o
  split
  ·exact(Loc.place_ne h2).2.2 o
  ·exact hb.2 o⟩
 refine h.mvG h1 h2 hne hs (by rw[ht]; exact hs) (fun x v hx hv'=> ?_)
 obtain⟨v2,e2,_,e4⟩:=h.get (l:=l) (x:=x) (by rw[←ht]; exact hx)
 rw[hv,e2]at hv'; cases hv'; exact e4.moved (l':=l') (fun b hb=>by simp [G.mv,hb]) hZ hA
end Go.Own

namespace Go.Own
open Go.RowKit

theorem RV.cp{g:G}{w:World}{κ:Nat→Nat→K}{l l':Nat→Nat→Loc}{v:Value}{x:V}(hok:GOk g w)(hl: ∀k j,(l k j).place=true)(h:RV g w κ l v x):RV g w (fun k j=>(κ k j).cp) l' v x:=by
 refine h.map (fun _=>rfl) (fun k j t u _ _ _ hf=>hf.cp hok (hl k j)) (fun k xs _ b off hc=> ?_)
 cases hk:κ k 0<;>rw[hk]at hc<;>first | exact hc | exact hc.elim

def gH(v:V)(k j:Nat):K:=match v.leaf k j with | some x=>if scal x then .S else .N | none=> .S

theorem zK{u:Value}{x:T}(h:vQ u=some x)(hs:scal x=false):x= .sl []∧ ∃a,u= .slice a 0 0:=by
 unfold vQ at h; split at h<;>simp only[z10,reduceCtorEq]at h<;>subst h
 ·cases hs
 ·cases hs
 ·cases hs
 ·exact⟨rfl,none,rfl⟩
 ·cases hs

theorem sQ(g:G)(w:World)(l:Nat→Nat→Loc)(v:Value):RV g w (gH (bG v)) l v (bG v):=by
 have hc: ∀(κ:K) (m:Loc) {u:Value} {x:T},vQ u=some x→κ=(if scal x then .S else .N)→LF g w κ m u x:=by
  intro κ m u x hx hκ; obtain⟨h1,h2⟩:=oL hx; subst hκ; by_cases hs:scal x=true
  ·rw[z19 hs]; exact⟨hs,h1 _ _⟩
  ·rw[z13 hs]; exact zK hx (by simpa using hs)
 have hn: ∀ {u:Value} {x:T},vQ u=some x→mL u:=fun hx=>((oL hx).1 (fun _=>False) w).not_agg
 unfold bG; split
 ·rename_i cs
  split
  ·rename_i xs h
   obtain⟨e,hg⟩:=gK h; refine⟨cs,rfl,by simpa using e,fun j x hx=> ?_⟩
   obtain⟨u,hu,hc'⟩:=hg j x hx; refine⟨u,by simpa using hu,hn hc',hc _ _ hc' ?_⟩
   simp [gH,V.leaf,W.leaf,hx]
  ·trivial
 ·rfl
 ·rfl
 ·split
  ·rename_i x h
   exact⟨hn h,hc _ _ h (by simp [gH,V.leaf,W.leaf])⟩
  ·trivial

def opK(st:St):Operand→Nat→Nat→K
 | .tmp t,k,j=>(st.fl (.s t k j)).cp
 | .const v,k,j=>gH (bG v) k j
 | _,_,_=> .S

theorem bM.ev_rv{g0:G}{w0:World}{st:St}{a:Act}{g:G}{w:World}(h:bM g0 w0 st a g w)(x:Operand)(l:Nat→Nat→Loc):RV g w (opK st x) l (a.eval x) (ev st.sl x):=by
 cases x with
 | tmp t=>exact(h.slots t).cp h.ok (fun _ _=>rfl)
 | const v=>exact sQ g w l v
 | func f=>rfl
 | global n=>trivial

def nav:T→List (Nat×Nat)→Option T
 | x,[]=>some x
 | .sl es,(i,j)::p=>((es[i]?).bind (·[j]?)).bind fun y=>nav y p
 | _,_::_=>none

theorem Pl.nav{w:World}{v:Value}{x:T}{p:List (Nat×Nat)}{v':Value}{x':T}(h:Pl w v x p v' x'):nav x p=some x':=by
 induction h with
 | nil v x=>cases x<;>rfl
 | cons b off len cap es e c y i j p v' x' he hy hc h ih=>simp [Own.nav,he,hy,ih]

def uU(sl:Nat→V)(ob:Rg):V→V
 | .one (.al l p)=>match(atL sl ob l).bind (nav · p)with | some x=> .one (.c x) | none=> .one .junk
 | v=>v
def evR(st:St)(x:Operand):V:=uU st.sl st.ob (ev st.sl x)

theorem Rd.plRd{P:Nat→Prop}{w:World}{v:Value}{x:T}(h:Rd P w v x): ∀ {p:List (Nat×Nat)} {v':Value} {x':T},Pl w v x p v' x'→Rd P w v' x':=by
 induction h with
 | sl b off len cap s es cs hl hc hss hP hm hr ih=>
  intro p v' x' hp; cases hp with
  | nil=>exact .sl b off len cap s es cs hl hc hss hP hm hr
  | cons b off len cap es e c y i j p v' x' he hy hc h=>
   have e1:=hss i e he; have h1:=hm i e j y he hy; rw[e1]at hc; rw[h1]at hc; cases hc; exact ih i e j y he hy h
 | hole v h1 h2=>intro p v' x' hp; cases hp; exact .hole _ h1 h2
 | int k n=>intro p v' x' hp; cases hp; exact .int _ _
 | bool b=>intro p v' x' hp; cases hp; exact .bool _
 | np=>intro p v' x' hp; cases hp; exact .np
 | str s=>intro p v' x' hp; cases hp; exact .str _
 | nil a cap=>
  intro p v' x' hp; cases hp with
  | nil=>exact .nil _ _
  | cons b off len cap es e c y i j p v' x' he hy hc h=>simp at he

def Rdy(st:St)(m:Bool):Operand→Prop
 | .tmp t=>match st.sl t with
  | .one (.al _ _)=>m=false∧st.fl (.s t 0 0)≠ .D
  | .one (.pp _ _ _ _)=>False
  | .one (.c z)=>scal z=true∨if m then st.fl (.s t 0 0)= .F∨st.fl (.s t 0 0)= .S∨st.fl (.s t 0 0)= .N else st.fl (.s t 0 0)≠ .D
  | .one (.cp _)=>if m then st.fl (.s t 0 0)= .F else st.fl (.s t 0 0)≠ .D
  | _=>True
 | _=>True

def pm(g:G)(w:World)(m:Bool):Nat→Prop:=if m then frz g w else all g w

theorem bM.pl_rd{g0:G}{w0:World}{st:St}{a:Act}{g:G}{w:World}(h:bM g0 w0 st a g w){l:Loc}(hk:(st.fl l).hold=true){v0:Value}{x0:T}(hv:vAt a.tmps g.β w l=some v0)(hx:st.at l=some x0)
  {p:List (Nat×Nat)}{v':Value}{x':T}(hp:Pl w v0 x0 p v' x'):Rd (all g w) w v' x':=by
 obtain⟨v,e1,_,e2⟩:=h.get hx; rw[hv]at e1; cases e1; exact(e2.rd h.ok (at_isPlace hx) (by intro e; rw[e]at hk; simp [K.hold]at hk)).plRd hp

theorem Ib{g:G}{w:World}{P:Nat→Prop}(v:Value):RP P g.β w v (bG v):=by
 unfold bG; split
 ·rename_i cs
  split
  ·rename_i xs h
   refine⟨cs,rfl,fun j x hx _=> ?_⟩
   obtain⟨v,v1,v2⟩:=(gK h).2 j x hx; exact⟨v,by rw[←z26]; exact v1,(oL v2).1 P w⟩
  ·trivial
 ·rfl
 ·rfl
 ·split
  ·rename_i x h; exact(oL h).1 P w
  ·trivial

theorem bM.rp{g0:G}{w0:World}{st:St}{a:Act}{g:G}{w:World}(h:bM g0 w0 st a g w){m:Bool}{x:Operand}(hr:Rdy st m x):RP (pm g w m) g.β w (a.eval x) (evR st x):=by
 cases x with
 | const v=>
  have e:evR st (.const v)=bG v:=by
   show uU st.sl st.ob (bG v)=bG v; unfold bG; (repeat' split)<;>rfl
  rw[e]; exact Ib v
 | func f=>trivial
 | global n=>trivial
 | tmp t=>
  have hs:=h.slots t; have hev:evR st (.tmp t)=uU st.sl st.ob (st.sl t):=rfl; have hva:a.eval (.tmp t)=a.tmps.getD t undef:=rfl; rw[hva]; have hscal: ∀(y:T) (v:Value) (κ:K) (l:Loc),scal y=true→LF g w κ l v y→Rd (pm g w m) w v y:=fun y v κ l hy hf=>by
   have:=LF.scal (g':=g) (w':=w) (κ':= .S) (l':=l) hf hy; exact this.2.scal hy
  cases hsl:st.sl t with
  | tup ws=>rw[hev,hsl]; trivial
  | one y=>
   rw[hsl]at hs; cases y with
   | c z=>
    have e:evR st (.tmp t)= .one (.c z):=by rw[hev,hsl]; rfl
    rw[e]; simp only[Rdy,hsl]at hr; rcases hr with h1 | h1
    ·exact hscal _ _ _ _ h1 hs.2
    ·have hf:LF g w (st.fl (.s t 0 0)) (.s t 0 0) (a.tmps.getD t undef) z:=hs.2
     cases m with
     | true=>
      rcases h1 with h1 | h1 | h1<;>rw[h1]at hf
      ·exact hf
      ·exact hf.2.scal hf.1
      ·obtain⟨rfl,q,hq⟩:=hf
       rw[hq]; exact .nil _ _
     | false=>exact hf.rd h.ok rfl h1
   | cp xs=>
    have e:evR st (.tmp t)= .one (.cp xs):=by rw[hev,hsl]; rfl
    rw[e]; simp only[Rdy,hsl]at hr; obtain⟨b,off,h2,h3⟩:=hs; refine⟨b,off,h2, ?_⟩
    cases m with
    | true=>
     have h1:st.fl (.s t 0 0)= .F:=hr; simp only[h1]at h3; exact h3
    | false=>exact h3.toV hr
   | al l p=>
    simp only[Rdy,hsl]at hr; obtain⟨rfl,h1⟩:=hr; by_cases hl:l= .none
    ·subst hl
     rw[hev,hsl]; trivial
    ·have:=h.pls t (by rw[hsl]; exact hl) h1
     rw[hsl]at this; obtain⟨h2,v0,x0,x',e1,e2,e3⟩:=this; have e:evR st (.tmp t)= .one (.c x'):=by
      have e2':atL st.sl st.ob l=some x0:=e2; rw[hev,hsl]; simp [uU,e2',e3.nav]
     rw[e]; exact h.pl_rd h2 e1 e2 e3
   | pp l p i j=>rw[hev,hsl]; trivial
   | junk=>rw[hev,hsl]; trivial
   | ag xs=>
    have e:evR st (.tmp t)= .one (.ag xs):=by rw[hev,hsl]; rfl
    rw[e]; obtain⟨cs,h1,h2,h3⟩:=hs; exact⟨cs,h1,fun j x hx sx=>by
     obtain⟨c,c1,_,c3⟩:=h3 j x hx; exact⟨c,c1,hscal _ _ _ _ sx c3⟩⟩
   | ptr o off=>rw[hev,hsl]; exact hs
   | nilp=>rw[hev,hsl]; exact hs
   | ifc b=>rw[hev,hsl]; exact hs
   | fn f caps=>rw[hev,hsl]; trivial
end Go.Own

namespace Go.Own
open Go.RowKit

def nL(P:Program)(g0:G)(w0:World)(o:Oper)(st st':St):Prop:= ∀a w,Sim g0 w0 st a w→
 ∃r w',(execOp a.eval o).run P w= .ok r w'∧((∃v,r= .value v∧Sim g0 w0 st' (a.put o.dst v) w')∨(r= .skip∧Sim g0 w0 st' (a.put o.dst undef) w'))

theorem wT.refl{g:G}{w:World}(hok:GOk g w)(st:St):wT g w g w (fun _=>False) st:=⟨Evo.refl _ _ _,fun _ h=>h.elim, .inl fun _ h=>⟨h,rfl⟩,rfl,rfl,rfl,hok⟩

def St.mvs(st:St):List (Loc×Loc)→St
 | []=>st
 | m::r=>(st.mv m.1 m.2).mvs r

theorem bM.mvs{g0:G}{w0:World}{a:Act}{w:World}: ∀(M:List (Loc×Loc)) {st:St} {g:G},bM g0 w0 st a g w→
  (∀m∈M,m.1.place=true∧m.2.place=true∧m.1≠m.2∧st.at m.2=st.at m.1∧(∃x,st.at m.1=some x)∧vAt a.tmps g.β w m.2=vAt a.tmps g.β w m.1)→ ∃g',g'.β=g.β∧bM g0 w0 (st.mvs M) a g' w
 | [],st,g,h,_=>⟨g,rfl,h⟩
 | m::r,st,g,h,hM=>by
  obtain⟨h1,h2,h3,h4,h5,h6⟩:=hM m z29; obtain⟨g',e,h'⟩:=bM.mvs r (h.mv h1 h2 h3 h4 h5 h6) (fun m' hm'=>by
   obtain⟨k1,k2,k3,k4,k5,k6⟩:=hM m' (z25 _ hm'); exact⟨k1,k2,k3,k4,k5,k6⟩)
  exact⟨g',e,h'⟩

section
variable {P:Program} {τ:TypeId→Option TI} {g0:G} {w0:World} {o:Oper} {st:St} {d:Nat}

theorem bM.set{a:Act}{g:G}{w:World}(h:bM g0 w0 st a g w)(hd:d<st.n){u:Value}{r:V}{κ:Nat→Nat→K}(hr:RV g w κ (fun k j=> .s d k j) u r)
  (hpl:aH r≠ .none→κ 0 0≠ .D→(st.fl (aH r)).hold=true∧aS d (aH r)=false∧Dy st a.tmps g.β w u r):bM g0 w0 (st.put d r κ) (a.put (some d) u) g w:=
 h.put (wT.refl h.ok st) (fun _=>rfl) hd (fun _ _ _ _ h=>h) hr hpl

theorem mP(r:V)(κ:Nat→Nat→K)(k j:Nat):(st.put d r κ).at (.s d k j)=r.leaf k j:=by simp [St.at,atL,St.put]

theorem Qe{x:Operand}(M:List (Nat×Nat))(hd:o.dst=some d)(hn:d<st.n)(ho:o.op= .assign x∨o.op= .move x)(hroot:aH (ev st.sl x)≠ .none→aS d (aH (ev st.sl x))=false)
  (hM: ∀m∈M, ∃t,x= .tmp t∧t≠d∧ ∃y,st.at (.s t m.1 m.2)=some y):
  nL P g0 w0 o st ((st.put d (ev st.sl x) (opK st x)).mvs (M.map fun m=>(.s (match x with | .tmp t=>t | _=>0) m.1 m.2, .s d m.1 m.2))):=by
 intro a w ⟨g,hs⟩; have hv:(execOp a.eval o).run P w= .ok (.value (a.eval x)) w:=by
  obtain⟨dst,op,ty,pos,after,guard⟩:=o; rcases ho with ho | ho<;>(simp only at ho; subst ho; rfl)
 refine⟨_,w,hv, .inl ⟨_,rfl, ?_⟩⟩
 rw[hd]; have hd':d<a.tmps.size:=by rw[hs.size]; exact hn
 have h1:=hs.set hn (hs.ev_rv x _) (fun h1 h2=>by
  cases x with
  | tmp t=>
   have h1':aH (st.sl t)≠ .none:=h1; have h3:=hs.pls t h1' (fun e=>h2 (by simp [opK,e,K.cp]))
   exact⟨h3.1,hroot h1,h3.2⟩
  | const v=>
   exfalso; apply h1
   show aH (bG v)= .none; unfold bG; (repeat' split)<;>rfl
  | func f=>exact absurd rfl h1
  | global n=>exact absurd rfl h1)
 obtain⟨g',_,h2⟩:=h1.mvs (M.map fun m=>(.s (match x with | .tmp t=>t | _=>0) m.1 m.2, .s d m.1 m.2)) (fun m hm=>by
  obtain⟨m',hm',rfl⟩:=z51.1 hm; obtain⟨t,rfl,hne,y,hy⟩:=hM m' hm'; have e1:(st.put d (ev st.sl (.tmp t)) (opK st (.tmp t))).at (.s t m'.1 m'.2)=st.at (.s t m'.1 m'.2):=at_put (by simp [aS,hne])
  refine⟨rfl,rfl,by simp [hne], ?_,⟨y,by rw[e1]; exact hy⟩, ?_⟩
  ·rw[mP,e1]; rfl
  ·rw[yB (l:= .s t m'.1 m'.2) hd' (by simp [aS,hne])]
   simp only[vAt]; rw[Act.put_getD a d _ _ hd',z19 rfl]; rfl)
 exact⟨g',h2⟩

theorem PG{t:Nat}{es:List (List T)}(hd:o.dst=some d)(hn:d<st.n)(ho:o.op= .move (.tmp t))(hne:t≠d)(hsl:st.sl t= .one (.c (.sl es)))(hk:(st.fl (.s t 0 0)).hold=true):
  nL P g0 w0 o st (st.put d (.one (.al (.s t 0 0) [])) (fun _ _=> .F)):=by
 intro a w ⟨g,hs⟩; have hv:(execOp a.eval o).run P w= .ok (.value (a.eval (.tmp t))) w:=by
  obtain⟨dst,op,ty,pos,after,guard⟩:=o; simp only at ho; subst ho; rfl
 refine⟨_,w,hv, .inl ⟨_,rfl,g, ?_⟩⟩
 rw[hd]; have hat:st.at (.s t 0 0)=some (.sl es):=by rw[St.at_s,hsl]; rfl
 have h1:=hs.slots t; rw[hsl]at h1; exact hs.set hn trivial (fun _ _=>⟨hk,by simp [aH,aS,hne],a.tmps.getD t undef, .sl es, .sl es,(gB h1.1).2,hat, .nil _ _⟩)

theorem Kc{t k:Nat}{ws:List W}{x:W}(M:List Nat)(hd:o.dst=some d)(hn:d<st.n)(ho:o.op= .extract (.tmp t) k)(hne:t≠d)(ht:st.sl t= .tup ws)(hk:ws[k]? =some x)(hroot:aH (.one x)= .none)
  (hM: ∀j∈M, ∃y,x.leaf j=some y):nL P g0 w0 o st ((st.put d (.one x) (fun _ j=>(st.fl (.s t k j)).cp)).mvs (M.map fun j=>(.s t k j, .s d 0 j))):=by
 intro a w ⟨g,hs⟩; have h1:=hs.slots t; rw[ht]at h1; obtain⟨vs,e1,h2,h3⟩:=h1; obtain⟨u,hu,hr⟩:=h3 k x hk; have hv:(execOp a.eval o).run P w= .ok (.value u) w:=by
  obtain⟨dst,op,ty,pos,after,guard⟩:=o; simp only at ho; subst ho; have:a.eval (.tmp t)= .tuple vs:=e1; simp only[execOp,Instr.extract,this,hu,Sem.run_bind,Sem.run_pure,Result.andThen_ok]
 refine⟨_,w,hv, .inl ⟨_,rfl, ?_⟩⟩
 rw[hd]; have hd':d<a.tmps.size:=by rw[hs.size]; exact hn
 have hr':RV g w (fun _ j=>(st.fl (.s t k j)).cp) (fun k j=> .s d k j) u (.one x):=by
  have:RV g w (fun _ j=>st.fl (.s t k j)) (fun _ j=> .s t k j) u (.one x):=hr
  exact this.cp hs.ok (fun _ _=>rfl)
 have h4:=hs.set hn hr' (fun h=>absurd hroot h)
 obtain⟨g',_,h5⟩:=h4.mvs (M.map fun j=>(.s t k j, .s d 0 j)) (fun m hm=>by
  obtain⟨j,hj,rfl⟩:=z51.1 hm; obtain⟨y,hy⟩:=hM j hj; have hat:st.at (.s t k j)=some y:=by rw[St.at_s,ht]; simp [V.leaf,hk,hy]
  have e1':(st.put d (.one x) (fun _ j=>(st.fl (.s t k j)).cp)).at (.s t k j)=st.at (.s t k j):=at_put (by simp [aS,hne])
  refine⟨rfl,rfl,by simp [hne], ?_,⟨y,by rw[e1']; exact hat⟩, ?_⟩
  ·rw[mP,e1',hat]; exact hy
  ·rw[yB (l:= .s t k j) hd' (by simp [aS,hne])]
   simp only[vAt]; rw[Act.put_getD a d _ _ hd',z19 rfl,e1]; obtain⟨u',q1,q2,_⟩:=RW.leaf hr hy; rw[q2]; simp only[pR,hu,z8,q1])
 exact⟨g',h5⟩

theorem QW(hT:aY P τ){m:Bool}{r:T}(hd:o.dst=some d)(hn:d<st.n)(hρ: ∀x∈o.op.operands,Rdy st m x)(hc2: ∀op t x y u,o.op= .binOp op t x y u→evR st y= .one (.ifc true)→ ∃c,y= .const c)
  (h:gL τ (evR st) o.op=some r):nL P g0 w0 o st (st.put d (.one (.c r)) (fun _ _=>if HK o.op&& !scal r then(if m then .F else .V)else .S)):=by
 intro a w ⟨g,hs⟩; obtain⟨v,hv,hr,hsub⟩:=OK hT (Q:=pm g w m) (β:=g.β) o (fun x hx=>hs.rp (hρ x hx)) hc2 h
 refine⟨_,w,hv, .inl ⟨v,rfl,g, ?_⟩⟩
 rw[hd]; refine hs.set hn ⟨hr.not_agg, ?_⟩ (fun h=>absurd rfl h)
 show LF g w (if HK o.op&& !scal r then(if m then .F else .V)else .S) (.s d 0 0) v r
 cases hsc:scal r with
 | true=>simp only[z34,z87,z52,if_false]; exact⟨hsc,hr.scal hsc⟩
 | false=>
  rcases hsub with hb | hb
  ·rw[hb]
   simp only[z76,z94,if_true]; cases m with
   | true=>exact hr
   | false=>exact hr
  ·rw[hsc]at hb; cases hb

theorem Lp{c x y:Operand}{b:Bool}{r1 r2:T}(hd:o.dst=some d)(hn:d<st.n)(ho:o.op= .pick c x y)(hc:ev st.sl c= .one (.c (.bool b)))(hx:b=true→ev st.sl x= .one (.c r1)∧scal r1=true)(hy:b=false→ev st.sl y= .one (.c r2)∧scal r2=true):
  nL P g0 w0 o st (st.put d (.one (.c (if b then r1 else r2))) (fun _ _=> .S)):=by
 intro a w ⟨g,hs⟩; have h1:=hs.ev_rv c (fun _ _=> .none)
 rw[hc]at h1; have e1:a.eval c= .bool b:=by
  have:=LF.scal (g':=g) (w':=w) (κ':= .F) (l':= .none) h1.2 rfl; have this:Rd _ _ _ _:=this; generalize a.eval c=z at this; cases this; rfl
 cases b with
 | true=>
  obtain⟨hx1,hx2⟩:=hx rfl; have h2:=hs.ev_rv x (fun k j=> .s d k j)
  rw[hx1]at h2; refine⟨_,w,(by obtain⟨dst,op,ty,pos,after,guard⟩:=o; simp only at ho; subst ho; simp only[execOp,e1]; rfl:(execOp a.eval o).run P w= .ok (.value (a.eval x)) w), .inl ⟨_,rfl,g, ?_⟩⟩
  rw[hd]; exact hs.set hn ⟨h2.1,h2.2.scal hx2⟩ (fun h=>absurd rfl h)
 | false=>
  obtain⟨hx1,hx2⟩:=hy rfl; have h2:=hs.ev_rv y (fun k j=> .s d k j)
  rw[hx1]at h2; refine⟨_,w,(by obtain⟨dst,op,ty,pos,after,guard⟩:=o; simp only at ho; subst ho; simp only[execOp,e1]; rfl:(execOp a.eval o).run P w= .ok (.value (a.eval y)) w), .inl ⟨_,rfl,g, ?_⟩⟩
  rw[hd]; exact hs.set hn ⟨h2.1,h2.2.scal hx2⟩ (fun h=>absurd rfl h)
end
end Go.Own

namespace Go.Own
open Go.RowKit

section
variable {P:Program} {τ:TypeId→Option TI} {g0:G} {w0:World} {o:Oper} {st:St} {d:Nat}

theorem CK(hT:aY P τ){s:TypeId}{fs:List (Nat×Nat×Bool)}(h:tk τ s=some (.struct fs)):
  ∃gs,P.underlying s=some (.struct gs)∧gs.size=fs.length∧ ∀(j:Nat) f,fs[j]? =some f→ ∃g i,gs[j]? =some g∧g.offset=f.1∧P.info? g.type=some i∧i.size=f.2.1∧f.2.1≠0∧
   f.2.2=(match P.underlying g.type with | some (.struct _)=>true | some (.array _ _)=>true | _=>false)∧(P.underlying g.type).isSome:=by
 obtain⟨d,hd,gs,rfl,hn,hk⟩:=jI hT h; exact⟨gs,hd,hn,hk⟩

theorem DZ{w:World}{b off:Nat}{f:Field}{i:TypeInfo}(h:P.info? f.type=some i)(h0:i.size≠0):(fieldPlace ⟨b,off,none⟩ f).run P w= .ok ⟨b,off+f.offset,none⟩ w:=by
 simp [fieldPlace,sizeOf,typeInfo,h,h0,iS]

theorem nY(hT:aY P τ){s:TypeId}{fs:List (Nat×Nat×Bool)}(h:tk τ s=some (.struct fs)){f off size:Nat}{agg:Bool}(hf:fs[f]? =some (off,size,agg)){ρ:Operand→Value}{x:Operand}{b p:Nat}(hx:ρ x= .pointer (some ⟨b,p,none⟩))(ho:o.op= .fieldAddr s x f)(w:World):
  (execOp ρ o).run P w= .ok (.value (.pointer (some ⟨b,p+off,none⟩))) w:=by
 obtain⟨gs,hgs,_,hk⟩:=CK hT h; obtain⟨fd,i,hfd,ho',hi,hsz,h0,_⟩:=hk f _ hf; have h2:i.size≠0:=by rw[hsz]; exact h0
 obtain⟨dst,op,ty,pos,after,guard⟩:=o; simp only at ho; subst ho; simp only[execOp,Instr.fieldAt,hx,Sem.run_bind,run_underlying hgs,Result.andThen_ok,hfd,Instr.sureAddr,Sem.run_pure,DZ hi h2,ho']

def zB(q:Nat×Nat):V→Option V
 | .one (.ptr o p)=>some (.one (.ptr o (p+q.1)))
 | .one (.cp xs)=>some (.one (.cp ((xs.drop q.1).take q.2)))
 | .one (.pp l p i j)=>some (.one (.pp l p i (j+q.1)))
 | _=>none

theorem CpR.drop{g:G}{w:World}{κ:K}{b p off:Nat}{xs:List T}(h:CpR g w κ b p xs):CpR g w κ b (p+off) (xs.drop off):=by
 have key: ∀ {Q:Nat→Prop},(∀(j:Nat) x,xs[j]? =some x→ ∃c,w.cell? ⟨b,p+j,none⟩=some c∧Rd Q w c x)→ ∀(j:Nat) x,(xs.drop off)[j]? =some x→ ∃c,w.cell? ⟨b,p+off+j,none⟩=some c∧Rd Q w c x:=by
  intro Q h j x hx; rw[z56]at hx
  obtain⟨c,hc,hr⟩:=h _ x hx; exact⟨c,by rw[Pe]; exact hc,hr⟩
 cases κ with
 | D=>trivial
 | F=>exact⟨h.1,key h.2⟩
 | V=>exact⟨h.1,key h.2⟩
 | A n=>exact h.elim
 | U n=>exact h.elim
 | S=>exact h.elim
 | N=>exact h.elim

theorem CpR.take{g:G}{w:World}{κ:K}{b p:Nat}{xs:List T}(n:Nat)(h:CpR g w κ b p xs):CpR g w κ b p (xs.take n):=by
 have key: ∀ {Q:Nat→Prop},(∀(j:Nat) x,xs[j]? =some x→ ∃c,w.cell? ⟨b,p+j,none⟩=some c∧Rd Q w c x)→ ∀(j:Nat) x,(xs.take n)[j]? =some x→ ∃c,w.cell? ⟨b,p+j,none⟩=some c∧Rd Q w c x:=by
  intro Q h j x hx; rw[z73]at hx
  split at hx
  ·exact h _ x hx
  ·cases hx
 cases κ with
 | D=>trivial
 | F=>exact⟨h.1,key h.2⟩
 | V=>exact⟨h.1,key h.2⟩
 | A n=>exact h.elim
 | U n=>exact h.elim
 | S=>exact h.elim
 | N=>exact h.elim

theorem HV(hT:aY P τ){s:TypeId}{x:Operand}{f off size:Nat}{agg:Bool}{fs:List (Nat×Nat×Bool)}{r:V}(hd:o.dst=some d)(hn:d<st.n)(ho:o.op= .fieldAddr s x f)(hs':tk τ s=some (.struct fs))(hf:fs[f]? =some (off,size,agg))
  (hr:zB (off,size) (ev st.sl x)=some r)(hroot:aH (ev st.sl x)≠ .none→aS d (aH (ev st.sl x))=false∧opK st x 0 0≠ .D)(hpn: ∀l p i j,ev st.sl x= .one (.pp l p i j)→l≠ .none):nL P g0 w0 o st (st.put d r (fun _ _=>opK st x 0 0)):=by
 intro a w ⟨g,hs⟩; have h1:=hs.ev_rv x (fun k j=> .s d k j)
 generalize hy:ev st.sl x=y at h1 hr hroot hpn; unfold zB at hr; split at hr
 ·rename_i ob p
  cases hr; refine⟨_,w,nY hT hs' hf h1 ho w, .inl ⟨_,rfl,g, ?_⟩⟩
  rw[hd]; exact hs.set hn rfl (fun h=>absurd rfl h)
 ·rename_i xs
  cases hr; obtain⟨b,p,e,hc⟩:=h1; refine⟨_,w,nY hT hs' hf e ho w, .inl ⟨_,rfl,g, ?_⟩⟩
  rw[hd]; exact hs.set hn ⟨b,p+off,rfl,hc.drop.take _⟩ (fun h=>absurd rfl h)
 ·rename_i l p i j
  cases hr; cases x with
  | tmp t=>
   have hy':st.sl t= .one (.pp l p i j):=hy; have hl:l≠ .none:=hpn l p i j rfl; obtain⟨hin,hk⟩:=hroot hl; have hD:st.fl (.s t 0 0)≠ .D:=fun e=>hk (by simp [opK,e,K.cp])
   have:=hs.pls t (by rw[hy']; exact hl) hD
   rw[hy']at this; obtain⟨hk2,v0,x0,b,o1,len,cap,es,e,e1,e2,e3,e4,e5⟩:=this; refine⟨_,w,nY hT hs' hf (ρ:=a.eval) (x:= .tmp t) e5 ho w, .inl ⟨_,rfl,g, ?_⟩⟩
   rw[hd]; exact hs.set hn trivial (fun _ _=>⟨hk2,hin,v0,x0,b,o1,len,cap,es,e,e1,e2,e3,e4,by rw[Pe (o1+i*e.length)]⟩)
  | const v=>
   exfalso
   have:bG v= .one (.pp l p i j):=hy; unfold bG at this
   (repeat' split at this)<;>simp at this
  | func f=>simp [ev]at hy
  | global n=>simp [ev]at hy
 ·cases hr

theorem If{x:Operand}(hd:o.dst=some d)(hn:d<st.n)(ho:o.op= .nilCheck x)(hx:match ev st.sl x with | .one (.ptr _ _)=>True | .one (.cp _)=>True | .one (.fn _ _)=>True | .one (.pp l _ _ _)=>l≠ .none∧aS d l=false∧opK st x 0 0≠ .D | _=>False):
  nL P g0 w0 o st (st.put d (ev st.sl x) (opK st x)):=by
 intro a w ⟨g,hs⟩; have h1:=hs.ev_rv x (fun k j=> .s d k j)
 generalize hy:ev st.sl x=y at h1 hx; have key: ∀v,(execOp a.eval o).run P w= .ok (.value v) w→v=a.eval x→(aH y≠ .none→opK st x 0 0≠ .D→(st.fl (aH y)).hold=true∧aS d (aH y)=false∧Dy st a.tmps g.β w v y)→ ∃r w',(execOp a.eval o).run P w= .ok r w'∧((∃v,r= .value v∧Sim g0 w0 (st.put d y (opK st x)) (a.put o.dst v) w')∨(r= .skip∧Sim g0 w0 (st.put d y (opK st x)) (a.put o.dst undef) w')):=by
  rintro v hv rfl hp
  refine⟨_,w,hv, .inl ⟨_,rfl,g, ?_⟩⟩
  rw[hd]; exact hs.set hn h1 hp
 obtain⟨dst,op,ty,pos,after,guard⟩:=o; simp only at ho hd; subst ho; split at hx
 ·have e:a.eval x= .pointer (some _):=h1
  exact key _ (by simp only[execOp,e]; rfl) e.symm (fun h=>absurd rfl h)
 ·obtain⟨b,p,e,_⟩:=h1
  exact key _ (by simp only[execOp,e]; rfl) e.symm (fun h=>absurd rfl h)
 ·have e:a.eval x= .func _ _ _:=h1
  exact key _ (by simp only[execOp,e]; rfl) e.symm (fun h=>absurd rfl h)
 ·rename_i l p i j
  obtain⟨hl,hin,hk⟩:=hx; cases x with
  | tmp t=>
   have hy':st.sl t= .one (.pp l p i j):=hy; have hD:st.fl (.s t 0 0)≠ .D:=fun e=>hk (by simp [opK,e,K.cp])
   have:=hs.pls t (by rw[hy']; exact hl) hD
   rw[hy']at this; obtain⟨hk2,v0,x0,b,o1,len,cap,es,e,e1,e2,e3,e4,e5⟩:=this; have e6:a.eval (.tmp t)= .pointer (some ⟨b,o1+i*e.length+j,none⟩):=e5; exact key _ (by simp only[execOp,e6]; rfl) e6.symm (fun _ _=>⟨hk2,hin,v0,x0,b,o1,len,cap,es,e,e1,e2,e3,e4,rfl⟩)
  | const v=>
   exfalso
   have:bG v= .one (.pp l p i j):=hy; unfold bG at this
   (repeat' split at this)<;>simp at this
  | func f=>simp [ev]at hy
  | global n=>simp [ev]at hy
 ·exact hx.elim

theorem ML{a:Act}{g:G}{w:World}(hs:bM g0 w0 st a g w): ∀ {l:List Operand} {cs:List (Nat×Nat)},DV (l.map (ev st.sl))=some cs→l.map a.eval=cs.map fun c=>Value.pointer (some ⟨g.β c.1,c.2,none⟩)
 | [],cs,h=>by simp only[RO,DV,z10]at h; subst h; rfl
 | x::r,cs,h=>by
  simp only[z61]at h; unfold DV at h; split at h
  ·rename_i heq; cases heq
  ·rename_i o off r' heq
   simp only[z163]at heq; obtain⟨e1,e2⟩:=heq; obtain⟨cs',h2,rfl⟩:=z22.1 h; rw[←e2]at h2; have hx:=hs.ev_rv x (fun _ _=> .none)
   rw[e1]at hx; simp only[z61,ML hs h2]; congr 1
  ·cases h

theorem Ij{f:FuncId}{caps:Array Operand}{cs:List (Nat×Nat)}(hd:o.dst=some d)(hn:d<st.n)(ho:o.op= .makeFunc (.func f) #[] caps)(hcs:DV (caps.toList.map (ev st.sl))=some cs):
  nL P g0 w0 o st (st.put d (.one (.fn f cs)) (fun _ _=> .S)):=by
 intro a w ⟨g,hs⟩; have h1:=ML hs hcs; have hv:(execOp a.eval o).run P w= .ok (.value (.func (.func f) #[] (caps.map a.eval))) w:=by
  obtain⟨dst,op,ty,pos,after,guard⟩:=o; simp only at ho; subst ho; simp [execOp,Instr.makeFunc]
 refine⟨_,w,hv, .inl ⟨_,rfl,g, ?_⟩⟩
 rw[hd]; refine hs.set hn ?_ (fun h=>absurd rfl h)
 show Value.func (.func f) #[] (caps.map a.eval)= .func (.func f) #[] _; rw[←h1]; congr 1
 apply LC
 simp

theorem nX(hT:aY P τ){t e:TypeId}{ei:TI}(ht:tk τ t=some (.sl e))(he:τ e=some ei){ρ:Operand→Value}{x i:Operand}{b off len cap:Nat}{n:Int}{k:IntKind}(hx:ρ x= .slice (some ⟨b,off,none⟩) len cap)(hi:ρ i= .int k n)(h0:0≤n)(h1:n<len)(ho:o.op= .indexAddr t x i)(w:World):
  (execOp ρ o).run P w= .ok (.value (.pointer (some ⟨b,off+n.toNat*ei.size,none⟩))) w:=by
 obtain⟨d,hd,rfl⟩:=jI hT ht; obtain⟨info,hinfo,hsz,hpos⟩:=kV hT he; obtain⟨dst,op,ty,pos,after,guard⟩:=o; simp only at ho; subst ho; simp only[execOp,Instr.indexAt,hx,hi,asIntOf,Sem.run_bind,Sem.run_pure,Result.andThen_ok,run_underlying hd,h0,h1,and_self,if_true,sizeOf,typeInfo,run_program,hinfo,hsz,iS]

theorem bM.int{a:Act}{g:G}{w:World}(hs:bM g0 w0 st a g w){x:Operand}{k:IntKind}{n:Int}(h:ev st.sl x= .one (.c (.int k n))):a.eval x= .int k n:=by
 have h1:=hs.ev_rv x (fun _ _=> .none)
 rw[h]at h1; have:=LF.scal (g':=g) (w':=w) (κ':= .F) (l':= .none) h1.2 rfl; have this:Rd _ _ _ _:=this; generalize a.eval x=z at this; cases this; rfl

theorem HT(hT:aY P τ){t e:TypeId}{ei:TI}{x i:Operand}{es:List (List T)}{row:List T}{k:IntKind}{n:Int}{m:Bool}(hd:o.dst=some d)(hn:d<st.n)(ho:o.op= .indexAddr t x i)(ht:tk τ t=some (.sl e))(he:τ e=some ei)
  (hx:evR st x= .one (.c (.sl es)))(hr:Rdy st m x)(hi:ev st.sl i= .one (.c (.int k n)))(h0:0≤n)(hrow:es[n.toNat]? =some row)(hsz:row.length=ei.size):nL P g0 w0 o st (st.put d (.one (.cp row)) (fun _ _=>if m then .F else .V)):=by
 intro a w ⟨g,hs⟩; have h1:=hs.rp hr; rw[hx]at h1; obtain⟨_,_,_,hpos⟩:=kV hT he; obtain⟨b,off,len,cap,e1,hl,b2,off2,e2,hP,hc⟩:=EY (β:=g.β) h1 hrow hsz hpos; have hlt:n.toNat<es.length:=by
  rcases NI n.toNat es.length with h | h
  ·exact h
  ·rw[z70 h]at hrow; cases hrow
 simp only[Value.pointer.injEq,z10,Addr.mk.injEq]at e2; obtain⟨rfl,rfl,_⟩:=e2; refine⟨_,w,nX hT ht he e1 (hs.int hi) h0 (by omega) ho w, .inl ⟨_,rfl,g, ?_⟩⟩
 rw[hd]; refine hs.set hn ⟨b,off+n.toNat*ei.size,rfl, ?_⟩ (fun h=>absurd rfl h)
 cases m with
 | true=>exact⟨hP,hc⟩
 | false=>exact⟨hP,hc⟩

theorem Fb(hT:aY P τ){t e:TypeId}{ei:TI}{x:Nat}{i:Operand}{l:Loc}{p:List (Nat×Nat)}{x0:T}{es:List (List T)}{row:List T}{k:IntKind}{n:Int}(hd:o.dst=some d)(hn:d<st.n)(ho:o.op= .indexAddr t (.tmp x) i)(ht:tk τ t=some (.sl e))(he:τ e=some ei)
  (hx:st.sl x= .one (.al l p))(hln:l≠ .none)(hk:st.fl (.s x 0 0)≠ .D)(hin:aS d l=false)(hat:st.at l=some x0)(hnav:nav x0 p=some (.sl es))(hi:ev st.sl i= .one (.c (.int k n)))(h0:0≤n)(hrow:es[n.toNat]? =some row)(hsz:row.length=ei.size):
  nL P g0 w0 o st (st.put d (.one (.pp l p n.toNat 0)) (fun _ _=> .F)):=by
 intro a w ⟨g,hs⟩; have:=hs.pls x (by rw[hx]; exact hln) hk
 rw[hx]at this; obtain⟨hk2,v0,x0',x',e1,e2,e3⟩:=this; have e2':st.at l=some x0':=e2; rw[hat]at e2'; cases e2'; have e4:=e3.nav; rw[hnav]at e4; cases e4; have hrd:=hs.pl_rd hk2 e1 hat e3; obtain⟨_,_,_,hpos⟩:=kV hT he; obtain⟨b,off,len,cap,q1,hl,_⟩:=EY (β:=g.β) hrd hrow hsz hpos; have hlt:n.toNat<es.length:=by
  rcases NI n.toNat es.length with h | h
  ·exact h
  ·rw[z70 h]at hrow; cases hrow
 refine⟨_,w,nX hT ht he (ρ:=a.eval) (x:= .tmp x) q1 (hs.int hi) h0 (by omega) ho w, .inl ⟨_,rfl,g, ?_⟩⟩
 rw[hd]; exact hs.set hn trivial (fun _ _=>⟨hk2,hin,v0,x0,b,off,len,cap,es,row,e1,hat,by rw[←q1]; exact e3,hrow,by rw[hsz]; rfl⟩)

theorem Im(hT:aY P τ){t e:TypeId}{ei:TI}{x i:Operand}{ob p len:Nat}{k:IntKind}{n:Int}(hd:o.dst=some d)(hn:d<st.n)(ho:o.op= .indexAddr t x i)(ht:tk τ t=some (.arr len e))(he:τ e=some ei)
  (hx:ev st.sl x= .one (.ptr ob p))(hi:ev st.sl i= .one (.c (.int k n)))(h0:0≤n)(h1:n<len):nL P g0 w0 o st (st.put d (.one (.ptr ob (p+n.toNat*ei.size))) (fun _ _=> .S)):=by
 intro a w ⟨g,hs⟩; have hx1:=hs.ev_rv x (fun _ _=> .none)
 rw[hx]at hx1; have e1:a.eval x= .pointer (some ⟨g.β ob,p,none⟩):=hx1; obtain⟨dd,hdd,rfl⟩:=jI hT ht; obtain⟨info,hinfo,hsz,hpos⟩:=kV hT he; have hv:(execOp a.eval o).run P w= .ok (.value (.pointer (some ⟨g.β ob,p+n.toNat*ei.size,none⟩))) w:=by
  have hi':=hs.int hi; obtain⟨dst,op,ty,pos,after,guard⟩:=o; simp only at ho; subst ho; simp only[execOp,Instr.indexAt,e1,hi',asIntOf,Sem.run_bind,Sem.run_pure,Result.andThen_ok,run_underlying hdd,Instr.sureAddr,h0,h1,and_self,if_true,sizeOf,typeInfo,run_program,hinfo,hsz,iS]
 refine⟨_,w,hv, .inl ⟨_,rfl,g, ?_⟩⟩
 rw[hd]; exact hs.set hn rfl (fun h=>absurd rfl h)
end
end Go.Own

namespace Go.Own
open Go.RowKit

def qX:T→T→Bool
 | .int k _, .int k' _=>k == k'
 | .bool _, .bool _=>true
 | .np, .np=>true
 | .str _, .str _=>true
 | .sl _, .sl _=>true
 | .hole, .sl _=>true
 | _,_=>false
def eH:List T→List T→Bool
 | [],[]=>true
 | x::r,y::q=>qX x y&&eH r q
 | _,_=>false

theorem xJ{x y:T}(h:qX x y=true):scal x=scal y:=by
 cases x<;>cases y<;>first | rfl | cases h

theorem qN: ∀ {xs ys:List T},eH xs ys=true→xs.length=ys.length∧ ∀(j:Nat) x,xs[j]? =some x→ ∃y,ys[j]? =some y∧qX x y=true
 | [],[],_=>⟨rfl,by simp⟩
 | [],_::_,h=>by cases h
 | _::_,[],h=>by cases h
 | x::r,y::q,h=>by
  simp only[eH,z7]at h; obtain⟨e,hg⟩:=qN h.2; refine⟨by simp [e],fun j z hz=> ?_⟩
  cases j with
  | zero=>simp only[z20,z10]at hz ⊢; subst hz; exact⟨y,rfl,h.1⟩
  | succ j=>simp only[z23]at hz ⊢; exact hg j z hz

def iO(zero:List T)(j:Nat):Bool:=match zero[j]? with | some z=>scal z | none=>false

def nV(i:TI)(cells:List T):Option V:=
 if eH (cells.take i.size) i.zero then(if i.agg then some (.one (.ag (cells.take i.size)))else match cells with | x::_=>some (.one (.c x)) | []=>none)else none

theorem aY.get{P:Program}{τ:TypeId→Option TI}(hT:aY P τ){t:TypeId}{i:TI}(h:τ t=some i): ∃info d z,P.info? t=some info∧P.underlying t=some d∧info.size=i.size∧info.bytes=i.bytes∧info.zero=some z∧
 uM z.cells.toList=some i.zero∧i.zero.length=i.size∧0<i.size∧i.agg=(match d with | .struct _=>true | .array _ _=>true | _=>false):=by
 obtain⟨info,d,z,h1,h2,h3,h4,h5,h6,h7,h8,h9,_⟩:=hT t i h; exact⟨info,d,z,h1,h2,h3,h4,h5,h6,h7,h8,h9⟩

theorem sO{P:Program}{τ:TypeId→Option TI}(hT:aY P τ){g:G}{w:World}{t:TypeId}{i:TI}(hi:τ t=some i){b p:Nat}{xs:List T}{r:V}{κ:Nat→K}{l:Nat→Loc}{l':Nat→Nat→Loc}
  (hx: ∀(j:Nat) x,xs[j]? =some x→ ∃c,w.cell? ⟨b,p+j,none⟩=some c∧mL c∧LF g w (κ j) (l j) c x)(hr:nV i xs=some r)(hcp: ∀j c x,LF g w (κ j) (l j) c x→LF g w (κ j).cp (l' 0 j) c x):
  ∃u,(loadVar t ⟨b,p,none⟩).run P w= .ok u w∧RV g w (fun _ j=>if iO i.zero j then .S else(κ j).cp) l' u r∧aH r= .none∧ ∀j y,r.leaf 0 j=some y→xs[j]? =some y∧pR u 0 j=w.cell? ⟨b,p+j,none⟩:=by
 obtain⟨info,d,z,h1,h2,h3,h4,h5,h6,h7,h8,h9⟩:=hT.get hi; unfold nV at hr; split at hr
 ·rename_i hconf
  obtain⟨hlen,hget⟩:=qN hconf; have hle:i.size≤xs.length:=by
   rw[z38]at hlen; omega
  have hlf: ∀(j:Nat) x c,j<i.size→xs[j]? =some x→LF g w (κ j) (l j) c x→LF g w (if iO i.zero j then .S else(κ j).cp) (l' 0 j) c x:=by
   intro j x c hj hxj hf; split
   ·rename_i hs
    obtain⟨y,hy,hc⟩:=hget j x (by rw[z73,z19 hj]; exact hxj)
    have:scal x=true:=by
     rw[xJ hc]; simpa [iO,hy]using hs
    exact hf.scal this
   ·exact hcp j c x hf
  cases hag:i.agg with
  | true=>
   rw[hag]at hr h9; simp only[if_true,z10]at hr; subst hr; let uT:List Value:=(List.range i.size).map fun j=>(w.cell? ⟨b,p+j,none⟩).getD undef
   have hval: ∀(j:Nat) v,uT[j]? =some v→w.cell? ((⟨b,p,none⟩:Addr).add j)=some v:=by
    intro j v hv; simp only[uT,z36,z22]at hv
    obtain⟨j',hj',rfl⟩:=hv; have hlt:j<i.size:=by
     rcases NI j i.size with h | h
     ·exact h
     ·rw[z70 (by simpa using h)]at hj'; cases hj'
    rw[TP hlt]at hj'
    cases hj'; obtain⟨c,hc,_⟩:=hx j xs[j] (z14 (by omega))
    rw[iS,hc]; rfl
   have hlen:uT.length=i.size:=by simp [uT]
   have hrun:=run_loadCells_list (P:=P) w ⟨b,p,none⟩ uT hval; have hg: ∀j,j<i.size→uT.toArray[j]? =w.cell? ⟨b,p+j,none⟩:=by
    intro j hj; obtain⟨c,hc,_⟩:=hx j xs[j] (z14 (by omega))
    have:uT[j]? =some c:=by simp [uT,TP hj,hc]
    rw[hc]; simpa using this
   have hlt: ∀(j:Nat) x,(xs.take i.size)[j]? =some x→j<i.size∧xs[j]? =some x:=by
    intro j x h; rw[z73]at h
    split at h
    ·exact⟨by assumption,h⟩
    ·cases h
   refine⟨.agg uT.toArray, ?_,⟨uT.toArray,rfl,by simp [hlen]; omega,fun j x hjx=> ?_⟩,rfl,fun j y hj=> ?_⟩
   ·rw[hlen]at hrun
    have hisagg:(isAgg t).run P w= .ok true w:=by
     simp only[isAgg,Sem.run_bind,run_underlying h2,Result.andThen_ok]; cases d<;>first | (simp at h9; done) | rfl
    simp only[loadVar,Sem.run_bind,hisagg,Result.andThen_ok,if_true,sizeOf,typeInfo,run_program,h1,Sem.run_pure,h3,hrun]
   ·obtain⟨hj,hxj⟩:=hlt j x hjx
    obtain⟨c,hc,hn,hf⟩:=hx j x hxj; exact⟨c,by rw[hg j hj]; exact hc,hn,hlf j x c hj hxj hf⟩
   ·obtain⟨h1,h2⟩:=hlt j y hj
    exact⟨h2,hg j h1⟩
  | false=>
   rw[hag]at hr h9; simp only[z52,if_false]at hr; split at hr
   ·rename_i x q
    simp only[z10]at hr; subst hr; obtain⟨c,hc,hn,hf⟩:=hx 0 x rfl; refine⟨c, ?_,⟨hn,hlf 0 x c h8 rfl hf⟩,rfl,fun j y hj=> ?_⟩
    ·have hisagg:(isAgg t).run P w= .ok false w:=by
      simp only[isAgg,Sem.run_bind,run_underlying h2,Result.andThen_ok]; cases d<;>first | (simp at h9; done) | rfl
     have hc':w.cell? ⟨b,p,none⟩=some c:=hc; simp only[loadVar,Sem.run_bind,hisagg,Result.andThen_ok,z52,if_false,run_load,hc']
    ·cases j with
     | zero=>
      simp only[V.leaf,W.leaf,z10]at hj; subst hj; exact⟨rfl,by rw[hc,(gB hn).2]⟩
     | succ j=>simp [V.leaf,W.leaf]at hj
   ·cases hr
 ·cases hr

section
variable {P:Program} {τ:TypeId→Option TI} {g0:G} {w0:World} {o:Oper} {st:St} {d:Nat}

theorem rD{ρ:Operand→Value}{t:TypeId}{x:Operand}{b p:Nat}{u:Value}{w:World}(ho:o.op= .load t x)(hx:ρ x= .pointer (some ⟨b,p,none⟩))(hu:(loadVar t ⟨b,p,none⟩).run P w= .ok u w):(execOp ρ o).run P w= .ok (.value u) w:=by
 obtain⟨dst,op,ty,pos,after,guard⟩:=o; simp only at ho; subst ho; simp only[execOp,Instr.loadAt,hx,Instr.sureAddr,Sem.run_bind,Sem.run_pure,Result.andThen_ok,hu]

theorem bM.obsCell{a:Act}{g:G}{w:World}(hs:bM g0 w0 st a g w){ob p:Nat}{cells:List T}(hc:st.ob ob=some cells): ∀(j:Nat) x,(cells.drop p)[j]? =some x→ ∃c,w.cell? ⟨g.β ob,p+j,none⟩=some c∧mL c∧LF g w (st.fl (.oc ob (p+j))) (.oc ob (p+j)) c x:=by
 intro j x hx; obtain⟨arr,ty,k1,k2,k3,k4⟩:=hs.obs ob cells hc; rw[z56]at hx
 obtain⟨c,c1,c2,c3⟩:=k4 _ _ hx; exact⟨c,by rw[bX w _ _ arr ty (0,0) k1]; exact c1,c2,c3⟩

theorem Qj(hT:aY P τ){t:TypeId}{x:Operand}{i:TI}{ob p:Nat}{cells:List T}{r:V}(M:List Nat)(hd:o.dst=some d)(hn:d<st.n)(ho:o.op= .load t x)(hi:τ t=some i)(hx:ev st.sl x= .one (.ptr ob p))(hc:st.ob ob=some cells)
  (hr:nV i (cells.drop p)=some r)(hM: ∀j∈M, ∃y,r.leaf 0 j=some y):
  nL P g0 w0 o st ((st.put d r (fun _ j=>if iO i.zero j then .S else(st.fl (.oc ob (p+j))).cp)).mvs (M.map fun j=>(.oc ob (p+j), .s d 0 j))):=by
 intro a w ⟨g,hs⟩; have h1:=hs.ev_rv x (fun _ _=> .none)
 rw[hx]at h1; have e1:a.eval x= .pointer (some ⟨g.β ob,p,none⟩):=h1; obtain⟨u,hu,hru,hroot,hleaf⟩:=sO hT hi (g:=g) (κ:=fun j=>st.fl (.oc ob (p+j))) (l:=fun j=> .oc ob (p+j)) (l':=fun k j=> .s d k j) (hs.obsCell hc) hr (fun j c x hf=>hf.cp hs.ok rfl)
 refine⟨_,w,rD ho e1 hu, .inl ⟨_,rfl, ?_⟩⟩
 rw[hd]; have hd':d<a.tmps.size:=by rw[hs.size]; exact hn
 have h1:=hs.set hn hru (fun h=>absurd hroot h)
 obtain⟨g',_,h2⟩:=h1.mvs (M.map fun j=>(.oc ob (p+j), .s d 0 j)) (fun m hm=>by
  obtain⟨j,hj,rfl⟩:=z51.1 hm; obtain⟨y,hy⟩:=hM j hj; obtain⟨q1,q2⟩:=hleaf j y hy; have hat:(st.put d r (fun _ j=>if iO i.zero j then .S else(st.fl (.oc ob (p+j))).cp)).at (.oc ob (p+j))=some y:=by
   rw[at_put rfl,St.at_oc,hc]; rw[z56]at q1
   exact q1
  refine⟨rfl,rfl,by simp,by rw[mP,hat]; exact hy,⟨y,hat⟩, ?_⟩
  simp only[vAt]; rw[Act.put_getD a d _ _ hd',z19 rfl]; exact q2)
 exact⟨g',h2⟩

theorem HR(hT:aY P τ){t:TypeId}{x:Operand}{i:TI}{ob p:Nat}{cells:List T}{es:List (List T)}{e:TypeId}(hd:o.dst=some d)(hn:d<st.n)(ho:o.op= .load t x)(hi:τ t=some i)(ht:tk τ t=some (.sl e))(hx:ev st.sl x= .one (.ptr ob p))(hc:st.ob ob=some cells)
  (hr:cells[p]? =some (.sl es))(hk:(st.fl (.oc ob p)).hold=true):nL P g0 w0 o st (st.put d (.one (.al (.oc ob p) [])) (fun _ _=> .F)):=by
 intro a w ⟨g,hs⟩; have h1:=hs.ev_rv x (fun _ _=> .none)
 rw[hx]at h1; have e1:a.eval x= .pointer (some ⟨g.β ob,p,none⟩):=h1; obtain⟨c,c1,c2,c3⟩:=hs.obsCell hc (p:=p) 0 (.sl es) (by rw[z56]; exact hr)
 rw[z69]at c1 c3; obtain⟨info,dd,z,h1,h2,h3,h4,h5,h6,h7,h8,h9⟩:=hT.get hi; obtain⟨dd',hdd,rfl⟩:=jI hT ht; have hu:(loadVar t ⟨g.β ob,p,none⟩).run P w= .ok c w:=by
  have hisagg:(isAgg t).run P w= .ok false w:=by simp only[isAgg,Sem.run_bind,run_underlying hdd,Result.andThen_ok]; rfl
  simp only[loadVar,Sem.run_bind,hisagg,Result.andThen_ok,z52,if_false,run_load,c1]
 refine⟨_,w,rD ho e1 hu, .inl ⟨_,rfl,g, ?_⟩⟩
 rw[hd]; have hat:st.at (.oc ob p)=some (.sl es):=by rw[St.at_oc,hc]; exact hr
 exact hs.set hn trivial (fun _ _=>⟨hk,rfl,c, .sl es, .sl es,c1,hat, .nil _ _⟩)

theorem Ik(hT:aY P τ){t:TypeId}{x:Operand}{i:TI}{xs:List T}{r:V}(hd:o.dst=some d)(hn:d<st.n)(ho:o.op= .load t x)(hi:τ t=some i)(hx:ev st.sl x= .one (.cp xs))(hk:opK st x 0 0≠ .D)(hr:nV i xs=some r):
  nL P g0 w0 o st (st.put d r (fun _ j=>if iO i.zero j then .S else opK st x 0 0)):=by
 intro a w ⟨g,hs⟩; have h1:=hs.ev_rv x (fun _ _=> .none)
 rw[hx]at h1; obtain⟨b,p,e1,h2⟩:=h1; have hcell: ∀(j:Nat) y,xs[j]? =some y→ ∃c,w.cell? ⟨b,p+j,none⟩=some c∧mL c∧LF g w (opK st x 0 0) .none c y:=by
  intro j y hy; generalize hkk:opK st x 0 0=κ at h2 hk; cases κ with
  | D=>exact absurd rfl hk
  | F=>obtain⟨c,hc,hr⟩:=h2.2 j y hy; exact⟨c,hc,hr.not_agg,hr⟩
  | V=>obtain⟨c,hc,hr⟩:=h2.2 j y hy; exact⟨c,hc,hr.not_agg,hr⟩
  | A n=>exact h2.elim
  | U n=>exact h2.elim
  | S=>exact h2.elim
  | N=>exact h2.elim
 have hcpk:(opK st x 0 0).cp=opK st x 0 0:=by
  generalize hkk:opK st x 0 0=κ at h2; cases κ<;>first | rfl | exact h2.elim
 obtain⟨u,hu,hru,hroot,_⟩:=sO hT hi (g:=g) (κ:=fun _=>opK st x 0 0) (l:=fun _=> .none) (l':=fun k j=> .s d k j) hcell hr (fun j c y hf=>by
  rw[hcpk]; generalize hkk:opK st x 0 0=κ at h2 hf; cases κ with
  | D=>exact hf
  | F=>exact hf
  | V=>exact hf
  | A n=>exact h2.elim
  | U n=>exact h2.elim
  | S=>exact h2.elim
  | N=>exact h2.elim)
 refine⟨_,w,rD ho e1 hu, .inl ⟨_,rfl,g, ?_⟩⟩
 rw[hd]; simp only[hcpk]at hru; exact hs.set hn hru (fun h=>absurd hroot h)

theorem bM.ppCell{a:Act}{g:G}{w:World}(hs:bM g0 w0 st a g w){t:Nat}{l:Loc}{p:List (Nat×Nat)}{i j:Nat}{x0:T}{es:List (List T)}{row:List T}(hx:st.sl t= .one (.pp l p i j))(hln:l≠ .none)(hk:st.fl (.s t 0 0)≠ .D)(hat:st.at l=some x0)(hnav:nav x0 p=some (.sl es))(hrow:es[i]? =some row):
  (st.fl l).hold=true∧ ∃v0 b off len cap,vAt a.tmps g.β w l=some v0∧Pl w v0 x0 p (.slice (some ⟨b,off,none⟩) len cap) (.sl es)∧a.tmps.getD t undef= .pointer (some ⟨b,off+i*row.length+j,none⟩)∧
   ∀(q:Nat) y,(row.drop j)[q]? =some y→ ∃c,w.cell? ⟨b,off+i*row.length+j+q,none⟩=some c∧Rd (all g w) w c y∧Pl w v0 x0 (p++[(i,j+q)]) c y:=by
 have:=hs.pls t (by rw[hx]; exact hln) hk
 rw[hx]at this; obtain⟨hk2,v0,x0',b,off,len,cap,es',row',e1,e2,e3,e4,e5⟩:=this; have e2':st.at l=some x0':=e2; rw[hat]at e2'; cases e2'; have e6:=e3.nav; rw[hnav]at e6; cases e6; rw[hrow]at e4; cases e4; refine⟨hk2,v0,b,off,len,cap,e1,e3,e5,fun q y hy=> ?_⟩
 rw[z56]at hy
 have hrd:=hs.pl_rd hk2 e1 hat e3; have key: ∃c,w.cell? ⟨b,off+i*row.length+(j+q),none⟩=some c∧Rd (all g w) w c y:=by
  generalize hv:Value.slice (some ⟨b,off,none⟩) len cap=v at hrd; cases hrd with
  | nil a cap=>simp at hrow
  | sl b' off' len' cap' s es cs hl hc hs2 hP hm hr=>
   cases hv; have e7:=hs2 i row hrow; exact⟨cs i (j+q),by rw[e7]; exact hm i row (j+q) y hrow hy,hr i row (j+q) y hrow hy⟩
 obtain⟨c,hc,hr⟩:=key; refine⟨c,by rw[Pe]; exact hc,hr, ?_⟩
 have happ: ∀ {v:Value} {x:T} {p:List (Nat×Nat)} {v':Value} {x':T},Pl w v x p v' x'→ ∀ {i j:Nat} {v'':Value} {x'':T},Pl w v' x' [(i,j)] v'' x''→Pl w v x (p++[(i,j)]) v'' x'':=by
  intro v x p v' x' h; induction h with
  | nil=>intro i j v'' x'' h2; exact h2
  | cons b off len cap es e c y i j p v' x' he hy hc h ih=>intro i' j' v'' x'' h2; exact .cons b off len cap es e c y i j _ _ _ he hy hc (ih h2)
 exact happ e3 (.cons b off len cap es row c y i (j+q) [] c y hrow hy hc (.nil _ _))

theorem HQ(hT:aY P τ){t:TypeId}{x:Nat}{ti:TI}{l:Loc}{p:List (Nat×Nat)}{i j:Nat}{x0:T}{es:List (List T)}{row:List T}{r:V}(hd:o.dst=some d)(hn:d<st.n)(ho:o.op= .load t (.tmp x))(hi:τ t=some ti)(hx:st.sl x= .one (.pp l p i j))(hln:l≠ .none)(hk:st.fl (.s x 0 0)≠ .D)
  (hat:st.at l=some x0)(hnav:nav x0 p=some (.sl es))(hrow:es[i]? =some row)(hr:nV ti (row.drop j)=some r):nL P g0 w0 o st (st.put d r (fun _ j=>if iO ti.zero j then .S else .V)):=by
 intro a w ⟨g,hs⟩; obtain⟨_,v0,b,off,len,cap,e1,e2,e3,e4⟩:=hs.ppCell hx hln hk hat hnav hrow; obtain⟨u,hu,hru,hroot,_⟩:=sO hT hi (g:=g) (κ:=fun _=> .V) (l:=fun _=> .none) (l':=fun k j=> .s d k j) (b:=b) (p:=off+i*row.length+j) (xs:=row.drop j) (fun q y hy=>by
  obtain⟨c,c1,c2,_⟩:=e4 q y hy; exact⟨c,c1,c2.not_agg,c2⟩) hr (fun _ _ _ hf=>hf)
 refine⟨_,w,rD ho e3 hu, .inl ⟨_,rfl,g, ?_⟩⟩
 rw[hd]; exact hs.set hn hru (fun h=>absurd hroot h)

theorem zW(hT:aY P τ){t:TypeId}{x:Nat}{ti:TI}{l:Loc}{p:List (Nat×Nat)}{i j:Nat}{x0:T}{es es':List (List T)}{row:List T}{e:TypeId}(hd:o.dst=some d)(hn:d<st.n)(ho:o.op= .load t (.tmp x))(hi:τ t=some ti)(ht:tk τ t=some (.sl e))(hx:st.sl x= .one (.pp l p i j))(hln:l≠ .none)(hk:st.fl (.s x 0 0)≠ .D)(hin:aS d l=false)
  (hat:st.at l=some x0)(hnav:nav x0 p=some (.sl es))(hrow:es[i]? =some row)(hr:row[j]? =some (.sl es')):nL P g0 w0 o st (st.put d (.one (.al l (p++[(i,j)]))) (fun _ _=> .F)):=by
 intro a w ⟨g,hs⟩; obtain⟨hk2,v0,b,off,len,cap,e1,e2,e3,e4⟩:=hs.ppCell hx hln hk hat hnav hrow; obtain⟨c,c1,c2,c3⟩:=e4 0 (.sl es') (by rw[z56]; exact hr)
 rw[z69]at c1 c3; obtain⟨dd',hdd,rfl⟩:=jI hT ht; have hu:(loadVar t ⟨b,off+i*row.length+j,none⟩).run P w= .ok c w:=by
  have hisagg:(isAgg t).run P w= .ok false w:=by simp only[isAgg,Sem.run_bind,run_underlying hdd,Result.andThen_ok]; rfl
  simp only[loadVar,Sem.run_bind,hisagg,Result.andThen_ok,z52,if_false,run_load,c1]
 refine⟨_,w,rD ho e3 hu, .inl ⟨_,rfl,g, ?_⟩⟩
 rw[hd]; exact hs.set hn trivial (fun _ _=>⟨hk2,hin,v0,x0, .sl es',e1,hat,c3⟩)
end
end Go.Own

namespace Go.Own
open Go.RowKit

def W.kill(d:Nat):W→W
  | .ptr o off=>if o=d then .junk else .ptr o off
  | .fn f caps=>if caps.any (fun c=>c.1 == d)then .junk else .fn f caps
  | w=>w
def V.kill(d:Nat):V→V
  | .one w=> .one (w.kill d)
  | .tup ws=> .tup (ws.map (W.kill d))

def sT(o:Nat):Loc→Bool
  | .oc o' _=>o' == o
  | _=>false

def St.alloc(st:St)(d:Nat)(cells:List T)(κ:Nat→K):St:=
  { n:=st.n
    sl:=fun i=>if i=d then .one (.ptr d 0)else(st.sl i).kill d
    ob:=fun o=>if o=d then some cells else st.ob o
    fl:=fun l=>match l with
      | .s i k j=>if i=d then .S else if k=0∧j=0∧(aS d (aH (st.sl i))||sT d (aH (st.sl i)))=true then .D else st.fl (.s i k j)
      | .oc o j=>if o=d then κ j else st.fl (.oc o j)
      | l=>st.fl l }

theorem W.kill_leaf{d:Nat}{x:W}{j:Nat}:(x.kill d).leaf j=x.leaf j:=by
  cases x with
  | ptr o off=>simp only[W.kill]; split<;>rfl
  | fn f caps=>simp only[W.kill]; split<;>rfl
  | _=>rfl
theorem V.kill_leaf{d:Nat}{x:V}{k j:Nat}:(x.kill d).leaf k j=x.leaf k j:=by
  cases x with
  | one w=>cases k with
    | zero=>exact W.kill_leaf
    | succ k=>rfl
  | tup ws=>
    simp only[V.kill,V.leaf,z36]
    cases ws[k]? with
    | none=>rfl
    | some y=>exact W.kill_leaf
theorem V.kill_root{d:Nat}{x:V}:aH (x.kill d)=aH x:=by
  cases x with
  | tup ws=>rfl
  | one w=>cases w with
    | ptr o off=>simp only[V.kill,W.kill]; split<;>rfl
    | fn f caps=>simp only[V.kill,W.kill]; split<;>rfl
    | _=>rfl
theorem Dy.kill{st:St}{tmps:Array Value}{β:Nat→Nat}{w:World}{v:Value}{x:V}{d:Nat}(h:Dy st tmps β w v x):Dy st tmps β w v (x.kill d):=by
  cases x with
  | tup ws=>trivial
  | one y=>cases y with
    | ptr o off=>simp only[V.kill,W.kill]; split<;>trivial
    | fn f caps=>simp only[V.kill,W.kill]; split<;>trivial
    | al l p=>exact h
    | pp l p i j=>exact h
    | _=>trivial

theorem RW.kill{g g':G}{w w':World}{κ κ':Nat→K}{l:Nat→Loc}{v:Value}{x:W}{d:Nat}(hβ: ∀o,o≠d→g'.β o=g.β o)(hleaf: ∀j t u,x.leaf j=some t→FT v j=some u→mL u→LF g w (κ j) (l j) u t→LF g' w' (κ' j) (l j) u t)
    (hcp: ∀xs,x= .cp xs→ ∀b off,CpR g w (κ 0) b off xs→CpR g' w' (κ' 0) b off xs)(h:RW g w κ l v x):RW g' w' κ' l v (x.kill d):=by
  cases x with
  | ptr o off=>
    simp only[W.kill]; split
    · trivial
    · rename_i ho
      simp only[RW]at h ⊢; rw[hβ o ho]; exact h
  | fn f caps=>
    simp only[W.kill]; split
    · trivial
    · rename_i ho
      simp only[RW]at h ⊢; rw[h]; congr 2
      refine z49 (fun c hc=> ?_)
      have:c.1≠d:=by
        intro e; apply ho
        rw[z157]; exact⟨c,hc,by simp [e]⟩
      rw[hβ c.1 this]
  | c y=>exact⟨h.1,hleaf 0 y v rfl (gB h.1).1 h.1 h.2⟩
  | ag xs=>
    obtain⟨cs,rfl,h2,h3⟩:=h; refine⟨cs,rfl,h2,fun j y hy=> ?_⟩
    obtain⟨c,c1,c2,c3⟩:=h3 j y hy; exact⟨c,c1,c2,hleaf j y c hy c1 c2 c3⟩
  | cp xs=>
    obtain⟨b,off,h1,h2⟩:=h; exact⟨b,off,h1,hcp xs rfl b off h2⟩
  | nilp=>exact h
  | ifc b=>exact h
  | _=>trivial

theorem RV.kill{g g':G}{w w':World}{κ κ':Nat→Nat→K}{l:Nat→Nat→Loc}{v:Value}{x:V}{d:Nat}(hβ: ∀o,o≠d→g'.β o=g.β o)(hleaf: ∀k j t u,x.leaf k j=some t→pR v k j=some u→mL u→LF g w (κ k j) (l k j) u t→LF g' w' (κ' k j) (l k j) u t)
    (hcp: ∀k xs,x.comp k=some (.cp xs)→ ∀b off,CpR g w (κ k 0) b off xs→CpR g' w' (κ' k 0) b off xs)(h:RV g w κ l v x):RV g' w' κ' l v (x.kill d):=by
  cases x with
  | one x=>
    refine RW.kill hβ (fun j t u hj hu hn hf=>hleaf 0 j t u hj ?_ hn hf) (fun xs hx=>hcp 0 xs (by rw[hx]; rfl)) h
    have hx:RW g w (κ 0) (l 0) v x:=h; obtain⟨u',h1,h2,_⟩:=RW.leaf hx hj; rw[h1]at hu; cases hu; exact h2
  | tup ws=>
    obtain⟨vs,rfl,h2,h3⟩:=h; refine⟨vs,rfl,by simpa using h2,fun k x hx=> ?_⟩
    rw[z36]at hx
    obtain⟨y,hy,rfl⟩:=z22.1 hx; obtain⟨u,hu,hR⟩:=h3 k y hy; refine⟨u,hu,RW.kill hβ (fun j t u' hj hu' hn hf=>hleaf k j t u' (by simp [V.leaf,hy,hj]) (by simp [pR,hu,hu']) hn hf) (fun xs hx'=>hcp k xs (by simp only[V.comp]; rw[hy,hx'])) hR⟩

def G.alloc(g:G)(d b:Nat):G:= { β:=fun o=>if o=d then b else g.β o,own:=fun k=>if k=b then .obj d else g.own k }

theorem mO(w:World)(o:Obj)(b:Nat)(h:b<w.heap.size):(w.alloc o).heap[b]? =w.heap[b]? :=heap_alloc_old w o b h

theorem MI{st:St}{i k:Nat}{xs:List T}(hx:(st.sl i).comp k=some (.cp xs)): ¬ (k=0∧aH (st.sl i)≠ .none):=by
  rintro ⟨rfl,h⟩
  cases hsl:st.sl i with
  | one y=>rw[hsl]at hx h; simp only[V.comp,z10]at hx; rw[hx]at h; exact h rfl
  | tup ws=>rw[hsl]at h; exact h rfl

theorem bM.alloc{g0:G}{w0:World}{st:St}{a:Act}{g:G}{w:World}(h:bM g0 w0 st a g w){d:Nat}(hd:d<st.n)(cs:Array Value)(ty:TypeId)(cells:List T)(κ:Nat→K)(hsz:cs.size=cells.length)
    (hc: ∀(j:Nat) x,cells[j]? =some x→ ∃c,cs[j]? =some c∧mL c∧LF g w (κ j) (.oc d j) c x):
    bM g0 w0 (st.alloc d cells κ) (a.put (some d) (.pointer (some ⟨w.heap.size,0,none⟩))) (g.alloc d w.heap.size) (w.alloc (.cells cs ty)):=by
  have hd':d<a.tmps.size:=by rw[h.size]; exact hd
  have hdp:d<par:=z60 hd h.nle; have hβ: ∀o,o≠d→(g.alloc d w.heap.size).β o=g.β o:=fun o ho=>by simp [G.alloc,ho]
  have hown: ∀b,b<w.heap.size→(g.alloc d w.heap.size).own b=g.own b:=fun b hb=>by simp [G.alloc,Nat.ne_of_lt hb]
  have hE:Evo g w (g.alloc d w.heap.size) (w.alloc (.cells cs ty)) (fun _=>False):=⟨by simp,fun b hb _=>⟨hown b hb,mO w _ b hb⟩⟩
  have hA: ∀b,all g w b→all (g.alloc d w.heap.size) (w.alloc (.cells cs ty)) b∧(w.alloc (.cells cs ty)).heap[b]? =w.heap[b]? :=fun b hb=>⟨⟨by simp; have:=hb.1; omega,fun o=>by rw[hown b hb.1]; exact hb.2 o⟩,mO w _ b hb.1⟩
  have hlf: ∀ {κ:K} {l:Loc} {v:Value} {x:T},l.place=true→LF g w κ l v x→LF (g.alloc d w.heap.size) (w.alloc (.cells cs ty)) κ l v x:=fun hl hf=>LF.evo hE h.ok (Loc.place_ne hl).1 id (fun _=>id) (fun _=>hA) hf
  have hcpr: ∀ {κ:K} {b off:Nat} {xs:List T},CpR g w κ b off xs→CpR (g.alloc d w.heap.size) (w.alloc (.cells cs ty)) κ b off xs:=fun hc=>hc.evo hE id (.inr (.inr hA))
  have hlive: ∀i,i≠d→(st.alloc d cells κ).fl (.s i 0 0)≠ .D→(aS d (aH (st.sl i))||sT d (aH (st.sl i)))=false∧st.fl (.s i 0 0)≠ .D:=by
    intro i hi hf; simp only[St.alloc,z13 hi,NH]at hf; by_cases hs:(aS d (aH (st.sl i))||sT d (aH (st.sl i)))=true
    · rw[z19 hs]at hf; exact absurd rfl hf
    · rw[z13 hs]at hf; exact⟨by simpa using hs,hf⟩
  have hfl: ∀i k j,i≠d→ ¬ (k=0∧aH (st.sl i)≠ .none)→(st.alloc d cells κ).fl (.s i k j)=st.fl (.s i k j):=by
    intro i k j hi hr; simp only[St.alloc,z13 hi]; rw[z13]; rintro ⟨rfl,rfl,h3⟩
    apply hr
    refine⟨rfl,fun e=> ?_⟩
    rw[e]at h3; simp [aS,sT]at h3
  refine⟨⟨h.framed.os,h.framed.tape,h.framed.output,h.framed.evo.trans (hE.mono fun _=>False.elim)⟩,⟨fun b hb=> ?_⟩, ?_,h.defers,fun i=> ?_,fun o cells' hc'=> ?_,fun i hi hf=> ?_,fun o ho=> ?_,h.nle⟩
  · by_cases e:b=w.heap.size
    · subst e; simp
    · have:g.own b≠ .none:=by intro e2; apply hb; simp only[G.alloc,z13 e]; exact e2
      have:=h.ok.own b this; simp; omega
  · simp only[Act.put,z117]; exact h.size
  · rw[Act.put_getD a d _ i hd']
    by_cases hi:i=d
    · subst hi
      simp only[St.alloc,if_true]; show Value.pointer _= .pointer _; simp [G.alloc]
    · rw[z13 hi]
      have e:(st.alloc d cells κ).sl i=(st.sl i).kill d:=by simp [St.alloc,hi]
      rw[e]; refine(h.slots i).kill hβ (fun k j t u hj _ _ hf=> ?_) (fun k xs hx b off hc=> ?_)
      · have hat:st.at (.s i k j)=some t:=hj
        rw[hfl i k j hi]
        · exact hlf rfl hf
        · rintro ⟨rfl,hr⟩
          cases hsl:st.sl i with
          | one y=>rw[hsl]at hr hj; cases y<;>first | exact hr rfl | simp [V.leaf,W.leaf]at hj
          | tup ws=>rw[hsl]at hr; exact hr rfl
      · rw[hfl i k 0 hi (MI hx)]
        exact hcpr hc
  · by_cases ho:o=d
    · subst ho
      have hc2:cells'=cells:=by simpa [St.alloc]using hc'.symm
      subst hc2; have hβd:(g.alloc o w.heap.size).β o=w.heap.size:=by simp [G.alloc]
      rw[hβd]; refine⟨cs,ty,heap_alloc_new w _,hsz,by simp [G.alloc],fun j x hx=> ?_⟩
      obtain⟨c,c1,c2,c3⟩:=hc j x hx; refine⟨c,c1,c2, ?_⟩
      have:(st.alloc o cells' κ).fl (.oc o j)=κ j:=by simp [St.alloc]
      rw[this]; exact hlf rfl c3
    · have hc2:st.ob o=some cells':=by simpa [St.alloc,ho]using hc'
      obtain⟨arr,ty',h1,h2,h3,h4⟩:=h.obs o cells' hc2; have hb:g.β o<w.heap.size:=h.ok.own _ (by rw[h3]; simp)
      rw[hβ o ho]; refine⟨arr,ty',(mO w _ _ hb).trans h1,h2,(hown _ hb).trans h3,fun j x hx=> ?_⟩
      obtain⟨c,c1,c2,c3⟩:=h4 j x hx; refine⟨c,c1,c2, ?_⟩
      have:(st.alloc d cells κ).fl (.oc o j)=st.fl (.oc o j):=by simp [St.alloc,ho]
      rw[this]; exact hlf rfl c3
  · by_cases hid:i=d
    · subst hid
      exfalso; apply hi; simp [St.alloc,aH]
    · have e:(st.alloc d cells κ).sl i=(st.sl i).kill d:=by simp [St.alloc,hid]
      obtain⟨k1,k2⟩:=hlive i hid hf; rw[e,V.kill_root]at hi ⊢; obtain⟨p1,p2⟩:=h.pls i hi k2; obtain⟨t,ht⟩:=p2.root hi; simp only[z58]at k1; have hne: ∀i' k j,aH (st.sl i)= .s i' k j→i'≠d:=fun i' k j e1 e2=>by subst e2; rw[e1]at k1; simp [aS]at k1
      have hne2: ∀o j,aH (st.sl i)= .oc o j→o≠d:=fun o j e1 e2=>by subst e2; rw[e1]at k1; simp [sT]at k1
      refine⟨?_, ?_⟩
      · have:(st.alloc d cells κ).fl (aH (st.sl i))=st.fl (aH (st.sl i)):=by
          generalize hr:aH (st.sl i)=l at*; cases l with
          | s i' k j=>
            refine hfl i' k j (hne i' k j rfl) ?_
            rintro ⟨rfl,h2⟩
            rw[St.at_s]at ht; cases hsl:st.sl i' with
            | one y=>rw[hsl]at h2 ht; cases y<;>first | exact h2 rfl | simp [V.leaf,W.leaf]at ht
            | tup ws=>rw[hsl]at h2; exact h2 rfl
          | oc o j=>simp [St.alloc,hne2 o j rfl]
          | _=>rfl
        rw[this]; exact p1
      · rw[Act.put_getD a d _ i hd',z13 hid]
        refine(p2.congr ?_ ?_ (fun v0 x0 p v' x' e1 e2 hp=>h.pl_evo hE id p1 id e1 e2 hp)).kill
        · generalize hr:aH (st.sl i)=l at*
          cases l with
          | s i' k j=>
            simp only[vAt]; rw[Act.put_getD a d _ _ hd',z13 (hne i' k j rfl)]
          | oc o j=>
            simp only[vAt]; rw[hβ o (hne2 o j rfl)]; simp only[St.at,atL,z18]at ht; obtain⟨cells',hc',_⟩:=ht; obtain⟨arr,ty',k1,k2,k3,k4⟩:=h.obs o cells' hc'; exact bV (mO w _ _ (h.ok.own _ (by rw[k3]; simp)))
          | _=>rfl
        · generalize hr:aH (st.sl i)=l at*
          cases l with
          | s i' k j=>simp only[St.at,atL,St.alloc,z13 (hne i' k j rfl),V.kill_leaf]
          | oc o j=>simp only[St.at,atL,St.alloc,z13 (hne2 o j rfl)]
          | _=>rfl
  · have:o≠d:=by omega
    rw[hβ o this]; exact h.bp o ho

section
variable {P:Program} {τ:TypeId→Option TI} {g0:G} {w0:World} {o:Oper} {st:St} {d:Nat}

def Bb(zero:List T)(j:Nat):K:=if iO zero j then .S else .N

theorem PF(hT:aY P τ){t:TypeId}{i:TI}(hd:o.dst=some d)(hn:d<st.n)(ho:o.op= .alloc t)(hi:τ t=some i):nL P g0 w0 o st (st.alloc d i.zero (Bb i.zero)):=by
  intro a w ⟨g,hs⟩; obtain⟨info,dd,z,h1,h2,h3,h4,h5,h6,h7,h8,h9⟩:=hT.get hi; obtain⟨e,hz⟩:=gK h6; have hv:(execOp a.eval o).run P w= .ok (.value (.pointer (some ⟨w.heap.size,0,none⟩))) (w.alloc (.cells z.cells t)):=by
    obtain⟨dst,op,ty,pos,after,guard⟩:=o; simp only at ho; subst ho; simp only[execOp,Instr.alloc,zeroValue,typeInfo,Sem.run_bind,run_program,Result.andThen_ok,h1,Sem.run_pure,h5,newVar,newRow,run_newObj,World.alloc_eq]
  refine⟨_,_,hv, .inl ⟨_,rfl,g.alloc d w.heap.size, ?_⟩⟩
  rw[hd]; refine hs.alloc hn z.cells t i.zero (Bb i.zero) (by simpa using e) (fun j x hx=> ?_)
  obtain⟨v,hv,hc⟩:=hz j x hx; obtain⟨c1,c2⟩:=oL hc; refine⟨v,by simpa using hv,(c1 (fun _=>False) w).not_agg, ?_⟩
  unfold Bb iO; rw[hx]; simp only; by_cases hs:scal x=true
  · rw[z19 hs]; exact⟨hs,c1 _ _⟩
  · rw[z13 hs]; exact zK hc (by simpa using hs)

def aT:V→Option (List T)
  | .one (.c x)=>some [x]
  | .one (.ag xs)=>some xs
  | _=>none

theorem fW{g:G}{w:World}{κ:Nat→Nat→K}{l:Nat→Nat→Loc}{u:Value}{r:V}{xs:List T}(h:RV g w κ l u r)(hc:aT r=some xs):u.cells.size=xs.length∧(∀(j:Nat) x,xs[j]? =some x→ ∃c,u.cells[j]? =some c∧mL c∧LF g w (κ 0 j) (l 0 j) c x)∧
    (∀j,(j:Nat)<xs.length→pR u 0 j=u.cells[j]?)∧(∀j,r.leaf 0 j=xs[j]?)∧aH r= .none:=by
  unfold aT at hc; split at hc
  · rename_i x
    simp only[z10]at hc; subst hc; have hcells:u.cells= #[u]:=by
      have:=h.1.1; cases u<;>first | rfl | exact absurd rfl (this _)
    rw[hcells]; refine⟨rfl,fun j y hy=> ?_,fun j hj=> ?_,fun j=> ?_,rfl⟩
    · cases j with
      | zero=>simp only[z20,z10]at hy; subst hy; exact⟨u,rfl,h.1,h.2⟩
      | succ j=>simp at hy
    · have hj0:j=0:=by simpa using hj
      subst hj0; exact(gB h.1).2
    · cases j<;>rfl
  · rename_i ys
    simp only[z10]at hc; subst hc; obtain⟨cs,rfl,h2,h3⟩:=h; exact⟨h2,h3,fun j hj=>rfl,fun j=>rfl,rfl⟩
  · cases hc

theorem VT{t:Nat}{ty:TypeId}{xs:List T}(M:List Nat)(hd:o.dst=some d)(hn:d<st.n)(ho:o.op= .box ty (.tmp t))(hc:aT (st.sl t)=some xs)(hne:t≠d)(hM: ∀j∈M,j<xs.length):
    nL P g0 w0 o st ((st.alloc d xs (fun j=>(st.fl (.s t 0 j)).cp)).mvs (M.map fun j=>(.s t 0 j, .oc d j))):=by
  intro a w ⟨g,hs⟩; have hrv:RV g w (fun k j=>(st.fl (.s t k j)).cp) (fun _ j=> .oc d j) (a.tmps.getD t undef) (st.sl t):=(hs.slots t).cp hs.ok (fun _ _=>rfl)
  obtain⟨k1,k2,k3,k4,k5⟩:=fW hrv hc; have hev:a.eval (.tmp t)=a.tmps.getD t undef:=rfl; have hv:(execOp a.eval o).run P w= .ok (.value (.pointer (some ⟨w.heap.size,0,none⟩))) (w.alloc (.cells (a.tmps.getD t undef).cells ty)):=by
    obtain⟨dst,op,ty',pos,after,guard⟩:=o; simp only at ho; subst ho; simp only[execOp,Instr.box,hev,newVar,newRow,Sem.run_bind,run_newObj,World.alloc_eq,Result.andThen_ok,Sem.run_pure]
  refine⟨_,_,hv, .inl ⟨_,rfl, ?_⟩⟩
  rw[hd]; have hd':d<a.tmps.size:=by rw[hs.size]; exact hn
  have h1:=hs.alloc hn (a.tmps.getD t undef).cells ty xs (fun j=>(st.fl (.s t 0 j)).cp) k1 k2
  obtain⟨g',_,h2⟩:=h1.mvs (M.map fun j=>(.s t 0 j, .oc d j)) (fun m hm=>by
    obtain⟨j,hjm,rfl⟩:=z51.1 hm; have hj:=hM j hjm; have e1:(st.alloc d xs (fun j=>(st.fl (.s t 0 j)).cp)).at (.s t 0 j)=xs[j]? :=by
      simp only[St.at,atL,St.alloc,z13 hne,V.kill_leaf]; exact k4 j
    refine⟨rfl,rfl,by simp, ?_,⟨xs[j],by rw[e1]; exact z14 hj⟩, ?_⟩
    · rw[e1]
      simp [St.at,atL,St.alloc]
    · simp only[vAt]
      rw[Act.put_getD a d _ t hd',z13 hne,k3 j hj]; have hb:(g.alloc d w.heap.size).β d=w.heap.size:=by simp [G.alloc]
      rw[hb]; exact bX _ _ _ _ _ _ (heap_alloc_new w _))
  exact⟨g',h2⟩

def St.write(st:St)(o p:Nat)(xs cells:List T)(κ:Nat→K):St:=
  { n:=st.n
    sl:=st.sl
    ob:=fun o'=>if o'=o then some (cells.take p++xs++cells.drop (p+xs.length))else st.ob o'
    fl:=fun l=>match l with
      | .s i k j=>if k=0∧j=0∧sT o (aH (st.sl i))=true then .D else st.fl (.s i k j)
      | .oc o' j=>if o'=o∧p≤j∧j<p+xs.length then κ (j - p)else st.fl (.oc o' j)
      | l=>st.fl l }

theorem pL{α:Type}(l xs:List α)(p:Nat)(h:p+xs.length≤l.length)(j:Nat):(l.take p++xs++l.drop (p+xs.length))[j]? =if p≤j∧j<p+xs.length then xs[j - p]? else l[j]? :=by
  have hp:(l.take p).length=p:=by simp; omega
  by_cases h1:j<p
  · rw[z13 (by omega),z82,z67 (by omega),z73,z19 h1]
  · by_cases h2:j<p+xs.length
    · rw[z19 (by omega),z67 (by simp; omega),z62 (by omega),hp]
    · rw[z13 (by omega),z62 (by simp; omega),z56]
      congr 1
      simp; omega

theorem mJ{w:World}{b p:Nat}{ty:TypeId}{arr:Array Value}(hb:w.heap[b]? =some (.cells arr ty (0,0)))(vs:List Value)(hle:p+vs.length≤arr.size)(h1: ∀v∈vs,v.oneCell'=true):
    ∃w',(storeCells ⟨b,p,none⟩ vs).run P w= .ok () w'∧w'.heap[b]? =some (.cells (arr.toList.take p++vs++arr.toList.drop (p+vs.length)).toArray ty (0,0))∧(∀k,k≠b→w'.heap[k]? =w.heap[k]?)∧w'.heap.size=w.heap.size∧w'.os=w.os∧w'.tape=w.tape∧w'.output=w.output:=by
  have h:=run_storeCells_at P b p ty vs 0 arr w hb (by omega) h1
  simp only[z69]at h; refine⟨_,h,setRow_heap w b arr _ ty _ hb,fun k hk=>setRow_other w b k _ (fun e=>hk e),by simp,rfl,rfl,rfl⟩

theorem nG{c:Value}(h:mL c):c.oneCell'=true:=by
  cases c<;>first | rfl | exact absurd rfl (h.1 _) | exact absurd rfl (h.2 _)

theorem bM.write{a:Act}{g:G}{w:World}(hs:bM g0 w0 st a g w){ob p:Nat}{cells xs:List T}{κ:Nat→K}(hc:st.ob ob=some cells)(hle:p+xs.length≤cells.length){vs:List Value}(hlen:vs.length=xs.length)
    (hx: ∀(j:Nat) x,xs[j]? =some x→ ∃c,vs[j]? =some c∧mL c∧LF g w (κ j) (.oc ob (p+j)) c x):
    ∃w',(storeCells ⟨g.β ob,p,none⟩ vs).run P w= .ok () w'∧bM g0 w0 (st.write ob p xs cells κ) a g w'∧ ∀j,w'.cell? ⟨g.β ob,j,none⟩=if p≤j∧j<p+xs.length then vs[j - p]? else w.cell? ⟨g.β ob,j,none⟩:=by
  obtain⟨arr,ty,r1,r2,r3,r5⟩:=hs.obs ob cells hc; have h1: ∀v∈vs,v.oneCell'=true:=fun v hv=>by
    obtain⟨j,hj⟩:=z72 hv
    have hjl:j<xs.length:=by
      rcases NI j xs.length with h | h
      · exact h
      · rw[z70 (by omega)]at hj; cases hj
    obtain⟨c,hc1,hc2,_⟩:=hx j xs[j] (z14 hjl)
    rw[hj]at hc1; cases hc1; exact nG hc2
  obtain⟨w',s1,s2,s3,s4,s5,s6,s7⟩:=mJ (P:=P) r1 vs (by rw[hlen,r2]; exact hle) h1
  rw[hlen]at s2; have hcell: ∀j,w'.cell? ⟨g.β ob,j,none⟩=if p≤j∧j<p+xs.length then vs[j - p]? else w.cell? ⟨g.β ob,j,none⟩:=by
    intro j; rw[bX w' _ j _ _ _ s2,bX w _ j _ _ _ r1]; have:=pL arr.toList vs p (by rw[hlen]; simp [r2]; exact hle) j
    rw[hlen]at this; simpa using this
  refine⟨w',s1, ?_,hcell⟩
  have hE:Evo g w g w' (fun l=>l= .obj ob):=⟨by omega,fun b _ hX=>⟨rfl,s3 b (fun e=>hX (by rw[e]; exact r3))⟩⟩
  have hA: ∀b,all g w b→all g w' b∧w'.heap[b]? =w.heap[b]? :=fun b hb=>⟨⟨by rw[s4]; exact hb.1,hb.2⟩,s3 b (fun e=>hb.2 ob (by rw[e]; exact r3))⟩
  have hn: ¬ (Loc.none= .obj ob):=by simp
  have hlf: ∀ {κ:K} {l:Loc} {v:Value} {x:T},l.place=true→LF g w κ l v x→LF g w' κ l v x:=fun hl hf=>LF.evo hE hs.ok (Loc.place_ne hl).1 hn (fun _=>(Loc.place_ne hl).2.2 ob) (fun _=>hA) hf
  have hcpr: ∀ {κ:K} {b off:Nat} {xs:List T},CpR g w κ b off xs→CpR g w' κ b off xs:=fun hc=>hc.evo hE hn (.inr (.inr hA))
  have hfl: ∀i k j, ¬ (k=0∧aH (st.sl i)≠ .none)→(st.write ob p xs cells κ).fl (.s i k j)=st.fl (.s i k j):=by
    intro i k j hr; simp only[St.write]; rw[z13]; rintro ⟨rfl,rfl,h3⟩
    apply hr
    refine⟨rfl,fun e=> ?_⟩
    rw[e]at h3; simp [sT]at h3
  refine⟨⟨s5.trans hs.framed.os,s6.trans hs.framed.tape,s7.trans hs.framed.output,hs.framed.evo.trans (hE.mono fun l hl=>by subst hl; simp [nT])⟩,⟨fun b hb=>by rw[s4]; exact hs.ok.own b hb⟩,hs.size,hs.defers,fun i=> ?_,fun o' cells' hc'=> ?_,fun i hi hf=> ?_,hs.bp,hs.nle⟩
  · refine(hs.slots i).map (fun _=>rfl) (fun k j t u hj _ _ hf=> ?_) (fun k xs hx b off hc=> ?_)
    · rw[hfl i k j]
      · exact hlf rfl hf
      · rintro ⟨rfl,hr⟩
        have hj':(st.sl i).leaf 0 j=some t:=hj; cases hsl:st.sl i with
        | one y=>rw[hsl]at hr hj'; cases y<;>first | exact hr rfl | simp [V.leaf,W.leaf]at hj'
        | tup ws=>rw[hsl]at hr; exact hr rfl
    · rw[hfl i k 0 (MI hx)]
      exact hcpr hc
  · by_cases e:o'=ob
    · subst e
      have hc2:cells'=cells.take p++xs++cells.drop (p+xs.length):=by simpa [St.write]using hc'.symm
      subst hc2; refine⟨_,ty,s2, ?_,r3,fun j z hz=> ?_⟩
      · simp only[z88,z30,z38,z65,z47,hlen,r2]
      · rw[pL cells xs p hle j]at hz
        have:=pL arr.toList vs p (by rw[hlen]; simp [r2]; exact hle) j
        rw[hlen]at this; by_cases hin:p≤j∧j<p+xs.length
        · rw[z19 hin]at hz this
          obtain⟨c,hc1,hc2,hc3⟩:=hx _ z hz; have e1:(st.write o' p xs cells κ).fl (.oc o' j)=κ (j - p):=by simp [St.write,hin]
          refine⟨c,by rw[z84,this]; exact hc1,hc2, ?_⟩
          rw[e1]; rw[show p+(j - p)=j by omega]at hc3
          exact hlf rfl hc3
        · rw[z13 hin]at hz this
          obtain⟨c,hc1,hc2,hc3⟩:=r5 _ z hz; have e1:(st.write o' p xs cells κ).fl (.oc o' j)=st.fl (.oc o' j):=by
            simp only[St.write]; rw[z13 (fun h=>hin h.2)]
          refine⟨c,by rw[z84,this,z26]; exact hc1,hc2, ?_⟩
          rw[e1]; exact hlf rfl hc3
    · have hc2:st.ob o'=some cells':=by simpa [St.write,e]using hc'
      obtain⟨arr',ty',f1,f2,f3,f5⟩:=hs.obs o' cells' hc2; have hne:g.β o'≠g.β ob:=fun h=>by
        rw[h,r3]at f3; exact e (Loc.obj.inj f3).symm
      refine⟨arr',ty',(s3 _ hne).trans f1,f2,f3,fun j z hz=> ?_⟩
      obtain⟨c,c1,c2,c3⟩:=f5 j z hz; have e1:(st.write ob p xs cells κ).fl (.oc o' j)=st.fl (.oc o' j):=by simp [St.write,e]
      exact⟨c,c1,c2,by rw[e1]; exact hlf rfl c3⟩
  · have hi':aH (st.sl i)≠ .none:=hi
    have hf1:sT ob (aH (st.sl i))=false∧st.fl (.s i 0 0)≠ .D:=by
      simp only[St.write,NH]at hf; by_cases hs:sT ob (aH (st.sl i))=true
      · rw[z19 hs]at hf; exact absurd rfl hf
      · rw[z13 hs]at hf; exact⟨by simpa using hs,hf⟩
    obtain⟨p1,p2⟩:=hs.pls i hi' hf1.2; obtain⟨t,ht⟩:=p2.root hi'; have hne2: ∀o j,aH (st.sl i)= .oc o j→o≠ob:=fun o j e1 e2=>by subst e2; rw[e1]at hf1; simp [sT]at hf1
    show((st.write ob p xs cells κ).fl (aH (st.sl i))).hold=true∧Dy _ _ _ _ _ (st.sl i); refine⟨?_,p2.congr ?_ ?_ (fun v0 x0 p v' x' e1 e2 hp=>hs.pl_evo hE hn p1 ((Loc.place_ne (at_isPlace ht)).2.2 ob) e1 e2 hp)⟩
    · have:(st.write ob p xs cells κ).fl (aH (st.sl i))=st.fl (aH (st.sl i)):=by
        generalize hr:aH (st.sl i)=l at*; cases l with
        | s i' k j=>
          refine hfl i' k j ?_
          rintro ⟨rfl,h2⟩
          rw[St.at_s]at ht; cases hsl:st.sl i' with
          | one y=>rw[hsl]at h2 ht; cases y<;>first | exact h2 rfl | simp [V.leaf,W.leaf]at ht
          | tup ws=>rw[hsl]at h2; exact h2 rfl
        | oc o j=>simp [St.write,hne2 o j rfl]
        | _=>rfl
      rw[this]; exact p1
    · generalize hr:aH (st.sl i)=l at*
      cases l with
      | oc o j=>
        simp only[vAt]; simp only[St.at,atL,z18]at ht; obtain⟨cells',hc',_⟩:=ht; obtain⟨arr',ty',k1,k2,k3,k4⟩:=hs.obs o cells' hc'; exact bV (s3 _ (fun h=>by rw[h,r3]at k3; exact hne2 o j rfl (Loc.obj.inj k3).symm))
      | _=>rfl
    · generalize hr:aH (st.sl i)=l at*
      cases l with
      | oc o j=>simp only[St.at,atL,St.write,z13 (hne2 o j rfl)]
      | _=>rfl

theorem OD(hT:aY P τ){t:TypeId}{x y:Operand}{i:TI}{ob p:Nat}{cells xs:List T}(M:List (Nat×Nat))(hd:o.dst=none)(ho:o.op= .store t x y)(hi:τ t=some i)(hx:ev st.sl x= .one (.ptr ob p))(hc:st.ob ob=some cells)
    (hy:aT (ev st.sl y)=some xs)(hsz:xs.length=i.size)(hle:p+xs.length≤cells.length)(hM: ∀m∈M,m.2<xs.length∧y= .tmp m.1):
    nL P g0 w0 o st ((st.write ob p xs cells (opK st y 0)).mvs (M.map fun m=>(.s m.1 0 m.2, .oc ob (p+m.2)))):=by
  intro a w ⟨g,hs⟩; have h1:=hs.ev_rv x (fun _ _=> .none)
  rw[hx]at h1; have e1:a.eval x= .pointer (some ⟨g.β ob,p,none⟩):=h1; obtain⟨k1,k2,k3,k4,k5⟩:=fW (hs.ev_rv y (fun _ j=> .oc ob (p+j))) hy
  obtain⟨info,_,_,q1,_,q3,_⟩:=hT.get hi; obtain⟨w',s1,h2,hcell⟩:=hs.write (P:=P) hc hle (vs:=(a.eval y).cells.toList) (by simpa using k1) (fun j z hz=>by
    obtain⟨c,c1,c2,c3⟩:=k2 j z hz; exact⟨c,by rw[z26]; exact c1,c2,c3⟩)
  have hv:(execOp a.eval o).run P w= .ok .skip w':=by
    obtain⟨dst,op,ty',pos,after,guard⟩:=o; simp only at ho; subst ho; have hne: ¬ (a.eval y).cells.size≠info.size:=by rw[k1,q3,hsz]; simp
    simp only[execOp,Instr.storeAt,e1,Instr.sureAddr,Sem.run_bind,Sem.run_pure,Result.andThen_ok,storeVar,sizeOf,typeInfo,run_program,q1,z13 hne,s1]
  refine⟨_,_,hv, .inr ⟨rfl, ?_⟩⟩
  rw[hd]; obtain⟨g',_,h3⟩:=h2.mvs (M.map fun m=>(.s m.1 0 m.2, .oc ob (p+m.2))) (fun m hm=>by
    obtain⟨m',hm',rfl⟩:=z51.1 hm; obtain⟨m1,m2⟩:=hM m' hm'; have e2:st.at (.s m'.1 0 m'.2)=xs[m'.2]? :=by
      have:=k4 m'.2; rw[m2]at this; exact this
    refine⟨rfl,rfl,by simp, ?_,⟨xs[m'.2],by show st.at (.s m'.1 0 m'.2)=_; rw[e2]; exact z14 m1⟩, ?_⟩
    · show _=st.at (.s m'.1 0 m'.2)
      rw[e2]; simp only[St.at,atL,St.write,if_true,z8]; rw[pL cells xs p hle,z19 (by omega),z77]
    · simp only[vAt]
      rw[hcell,z19 (by omega),z77,z26, ←k3 m'.2 m1,m2]
      rfl)
  exact⟨g',h3⟩
end
end Go.Own

namespace Go.Own
open Go.RowKit

section
variable {P:Program} (w:World)

theorem Cq(t u ty e:TypeId)(du:TypeDesc)(i:TypeInfo)(z:Value)(ht:P.underlying t=some (.slice e))(hu:P.underlying u=some du)(hdu: ∀k,du≠ .int k)(hi:P.info? e=some i)(hz:i.zero=some z)
  (a:Option Addr)(n1 c1 n2:Nat)(x:Value)(olds news:List Value)(h1:(Builtin.firstCells i.size n1 (.slice a n1 c1)).run P w.drew= .ok olds.toArray w.drew)(h2:(Builtin.firstCells i.size n2 x).run P w.drew= .ok news.toArray w.drew)
  (hx: ∀w':World,(Builtin.lenOf x).run P w'= .ok n2 w')(hg:c1<n1+n2)(h63:n1+n2≤maxLen)(hb:(n1+n2)*i.bytes≤140737488355328):
  (Builtin.append_ #[t,u] ty #[.slice a n1 c1,x]).run P w=
   .ok (.slice (some ⟨w.heap.size,0,none⟩) (n1+n2) (grownCap w (n1+n2) c1 e))
    (w.drew.alloc (.cells ((olds++news).toArray++Builtin.zeroCells z.cells (grownCap w (n1+n2) c1 e - (n1+n2))) e)):=by
 have hn: ¬ (n1+n2≤c1):=by omega
 have h63': ¬ (9223372036854775807<((n1:Int)+(n2:Int))):=by simp only[maxLen]at h63; omega
 have hfit:=growslice_fits hg hb; have h48': ¬ (281474976710656<Builtin.nextslicecap (n1+n2) c1*i.bytes):=by omega
 simp [Builtin.append_,run_underlying ht,run_underlying hu,sizeOf,typeInfo,zeroValue,hi,hz,hx,hn,h63',h48',Question.forced,h1,h2,newRow,grownCap]; congr 2
 apply LC
 simp

theorem Co(t u ty e:TypeId)(du:TypeDesc)(i:TypeInfo)(ht:P.underlying t=some (.slice e))(hu:P.underlying u=some du)(hdu: ∀k,du≠ .int k)(hi:P.info? e=some i)
  (b:Nat)(n1 c1 n2:Nat)(x:Value)(news:List Value)(h2:(Builtin.firstCells i.size n2 x).run P w= .ok news.toArray w)(hx: ∀w':World,(Builtin.lenOf x).run P w'= .ok n2 w')(hg:n1+n2≤c1)
  (w':World)(hst:(storeCells ⟨b,n1*i.size,none⟩ news).run P w= .ok () w'):
  (Builtin.append_ #[t,u] ty #[.slice (some ⟨b,0,none⟩) n1 c1,x]).run P w= .ok (.slice (some ⟨b,0,none⟩) (n1+n2) c1) w':=by
 simp [Builtin.append_,run_underlying ht,run_underlying hu,sizeOf,typeInfo,hi,hx,hg,h2,iS,hst]

theorem Cp(t u ty e:TypeId)(du:TypeDesc)(i:TypeInfo)(ht:P.underlying t=some (.slice e))(hu:P.underlying u=some du)(hdu: ∀k,du≠ .int k)(hi:P.info? e=some i)
  (a:Option Addr)(c1:Nat)(x:Value)(h2:(Builtin.firstCells i.size 0 x).run P w= .ok #[] w)(hx: ∀w':World,(Builtin.lenOf x).run P w'= .ok 0 w'):
  (Builtin.append_ #[t,u] ty #[.slice a 0 c1,x]).run P w= .ok (.slice a 0 c1) w:=by
 cases a<;>simp [Builtin.append_,run_underlying ht,run_underlying hu,sizeOf,typeInfo,hi,hx,h2,storeCells]
end

theorem FK{es:List (List T)}{s:Nat}(h: ∀e∈es,e.length=s):es.flatten.length=es.length*s:=by
 induction es with
 | nil=>simp
 | cons e r ih=>
  rw[List.flatten_cons,z30,ih (fun x hx=>h x (z25 _ hx)),h e z29,z43,z81]
  omega

theorem Oo{es:List (List T)}{s:Nat}(h: ∀e∈es,e.length=s): ∀ {i:Nat} {e:List T} {j:Nat},es[i]? =some e→j<s→es.flatten[i*s+j]? =e[j]? :=by
 induction es with
 | nil=>intro i e j h1; simp at h1
 | cons x r ih=>
  intro i e j h1 hj; have hx:=h x z29; rw[List.flatten_cons]; cases i with
  | zero=>
   simp only[z20,z10]at h1
   subst h1; rw[z67 (by omega)]; simp
  | succ i=>
   simp only[z23]at h1
   rw[z62 (by rw[hx,z85]; omega),hx]
   have:(i+1)*s+j - s=i*s+j:=by rw[z85]; omega
   rw[this]; exact ih (fun y hy=>h y (z25 _ hy)) h1 hj

theorem Jo{es:List (List T)}{s:Nat}(h: ∀e∈es,e.length=s){k:Nat}{x:T}(hk:es.flatten[k]? =some x): ∃(i:Nat) (e:List T) (j:Nat),es[i]? =some e∧e[j]? =some x∧j<s∧k=i*s+j:=by
 have hlt:k<es.flatten.length:=by
  rcases NI k es.flatten.length with h1 | h1
  ·exact h1
  ·rw[z70 h1]at hk; cases hk
 rw[FK h]at hlt; have hs:0<s:=by
  rcases Nat.eq_zero_or_pos s with h0 | h0
  ·subst h0; simp at hlt
  ·exact h0
 have hi:k / s<es.length:=(Nat.div_lt_iff_lt_mul hs).2 hlt; have hj:k % s<s:=Nat.mod_lt _ hs; have hkk:k=k / s*s+k % s:=by rw[Nat.mul_comm]; exact(Nat.div_add_mod k s).symm
 refine⟨k / s,es[k / s],k % s,z14 hi, ?_,hj,hkk⟩
 have:=Oo h (z14 hi) hj
 rw[←hkk,hk]at this; exact this.symm

theorem bI{α:Type}{l:List α}{i:Nat}{x:α}(h:l[i]? =some x):x∈l:=z24 h

theorem bW{α:Type}{l:List α}{i:Nat}{x:α}(h:l[i]? =some x):i<l.length:=by
 rcases NI i l.length with h1 | h1
 ·exact h1
 ·rw[z70 h1]at h; cases h

theorem DN{i n s j:Nat}(hi:i<n)(hj:j<s):i*s+j<n*s:=by
 have:(i+1)*s≤n*s:=z45 _ hi; rw[z81]at this; omega

structure Pp (w:World) (v:Value) (n s:Nat) (news:List Value):Prop where
 len:news.length=n*s
 first: ∀(P:Program) (w':World),w'.heap=w.heap→(Builtin.firstCells s n v).run P w'= .ok news.toArray w'
 lenOf: ∀(P:Program) (w':World),(Builtin.lenOf v).run P w'= .ok n w'

theorem BR{Q:Nat→Prop}{w:World}{v:Value}{es:List (List T)}{s:Nat}(h:Rd Q w v (.sl es))(hs: ∀e∈es,e.length=s):
  ∃news:List Value,Pp w v es.length s news∧(∀(i:Nat) e (j:Nat) x,es[i]? =some e→e[j]? =some x→ ∃c,news[i*s+j]? =some c∧mL c∧Rd Q w c x)∧
   ∀b off len cap,v= .slice (some ⟨b,off,none⟩) len cap→ ∀k:Nat,k<es.length*s→news[k]? =w.cell? ⟨b,off+k,none⟩:=by
 cases h with
 | nil a cap=>
  refine⟨[],⟨by simp,fun P w' _=> ?_,fun P w'=>rfl⟩,fun i e j x h=>by simp at h,fun b off len cap _ k hk=>by simp at hk⟩
  cases a<;>simp [Builtin.firstCells,loadCells,loadCellsFrom]
 | sl b off len cap s' _ cs hl hc hs2 hP hm hr=>
  have hlen:=FK hs; let news:List Value:=(List.range (es.length*s)).map fun k=>(w.cell? ⟨b,off+k,none⟩).getD undef
  have hj: ∀(i:Nat) e (j:Nat) x,es[i]? =some e→e[j]? =some x→j<s∧s'=s:=fun i e j x he hx=>by
   have e1:=hs e (bI he); have e2:=hs2 i e he; exact⟨by have:=bW hx; omega,by omega⟩
  have hcell: ∀k,k<es.length*s→ ∃c,w.cell? ⟨b,off+k,none⟩=some c:=by
   intro k hk; obtain⟨i,e,j,h1,h2,h3,rfl⟩:=Jo hs (z14 (by rw[hlen]; exact hk):es.flatten[k]? =_)
   have h4:=(hj i e j _ h1 h2).2; subst h4; exact⟨_,by rw[←Pe]; exact hm i e j _ h1 h2⟩
  have hget: ∀k,k<es.length*s→news[k]? =w.cell? ⟨b,off+k,none⟩:=by
   intro k hk; obtain⟨c,hc⟩:=hcell k hk; simp [news,TP hk,hc]
  refine⟨news,⟨by simp [news],fun P w' hw'=> ?_,fun P w'=>by simp [Builtin.lenOf,hl]⟩,fun i e j x he hx=> ?_,fun b' off' len' cap' he k hk=> ?_⟩
  ·refine run_firstCells_some w' s es.length ⟨b,off,none⟩ len cap news (by simp [news]) (fun j v hv=> ?_)
   have hlt:j<es.length*s:=by
    have:=bW hv; simpa [news]using this
   rw[iS]; have:w'.cell? ⟨b,off+j,none⟩=w.cell? ⟨b,off+j,none⟩:=by simp [World.cell?,hw']
   rw[this, ←hget j hlt]; exact hv
  ·obtain⟨h1,h2⟩:=hj i e j x he hx
   subst h2; refine⟨cs i j, ?_,(hr i e j x he hx).not_agg,hr i e j x he hx⟩
   rw[hget _ (DN (bW he) h1), ←Pe]; exact hm i e j x he hx
  ·simp only[Value.slice.injEq,z10,Addr.mk.injEq]at he
   obtain⟨⟨rfl,rfl,_⟩,_,_⟩:=he; exact hget k hk

def tB(s:List UInt8):List (List T):=s.map fun b=> [.int .u8 (b.toNat:Int)]

theorem OC(w:World)(a:ByteArray): ∃news:List Value,Pp w (.string a) (tB a.data.toList).length 1 news∧ ∀(i:Nat) e (j:Nat) x,(tB a.data.toList)[i]? =some e→e[j]? =some x→ ∃n,news[i*1+j]? =some (.int .u8 n)∧x= .int .u8 n:=by
 have hsz:a.data.toList.length=a.size:=z47; refine⟨a.data.toList.map fun b=> .int .u8 (b.toNat:Int),⟨by simp [tB],fun P w' _=> ?_,fun P w'=>by simp only[Builtin.lenOf,Sem.run_pure,tB,z89,hsz]⟩,fun i e j x he hx=> ?_⟩
 ·simp only[Builtin.firstCells,Sem.run_pure,tB,z89]
  congr 1
  have:a.extract 0 a.data.toList.length=a:=by rw[hsz]; simp
  rw[this]; apply LC
  simp
 ·simp only[tB,z36,z22]at he
  obtain⟨b,hb,rfl⟩:=he; cases j with
  | zero=>
   simp only[z20,z10]at hx
   subst hx; exact⟨_,by simp [hb],rfl⟩
  | succ j=>simp at hx

structure FP (g:G) (w:World) (l1 l2 L:Loc) (f:Bool) (s:Nat) (es:List (List T)) (v':Value) (g':G) (w':World):Prop where
 os:w'.os=w.os
 tape:w'.tape=w.tape
 output:w'.output=w.output
 ok:GOk g' w'
 β: ∀o,g'.β o=g.β o
 evo:Evo g w g' w' (fun l=>(l=l1∨l=l2)∧l.place=true)
 ow:Ow (frz g' w') f w' (some s) (fun b=>g'.own b=L) v' (.sl es)

def G.app(g:G)(l1 l2 L:Loc)(nb:Nat):G:=
 { β:=g.β,own:=fun b=>if b=nb then L else if(g.own b=l1∨g.own b=l2)∧(g.own b).place=true then L else g.own b }

theorem Kh{P:Program}{g:G}{w:World}(hok:GOk g w){l1 l2 L:Loc}{f:Bool}{v1 x:Value}{es1 es2:List (List T)}{s:Nat}{news:List Value}(h1:Ow (frz g w) f w (some s) (fun b=>g.own b=l1∧l1.place=true) v1 (.sl es1))(hL:L.place=true)
  (hl1: ∀e∈es1,e.length=s)(hs2: ∀e∈es2,e.length=s)(hpos:0<s)(hN:Pp w x es2.length s news)
  (hc2: ∃own2:Nat→Nat×Nat, ∀(i:Nat) e (j:Nat) y,es2[i]? =some e→e[j]? =some y→ ∃c,news[i*s+j]? =some c∧mL c∧Ow (frz g w) f w none (fun k=>(g.own k=l2∧l2.place=true∧l2≠l1)∧own2 k=(i,j)) c y)
  (t u ty e:TypeId)(du:TypeDesc)(i:TypeInfo)(z:Value)(ht:P.underlying t=some (.slice e))(hu:P.underlying u=some du)(hdu: ∀k,du≠ .int k)(hi:P.info? e=some i)(hz:i.zero=some z)(hsz:i.size=s)(hzs:z.cells.size=s)
  (h63:es1.length+es2.length≤maxLen)(hb:(es1.length+es2.length)*i.bytes≤140737488355328):
  ∃v' g' w',(Builtin.append_ #[t,u] ty #[v1,x]).run P w= .ok v' w'∧FP g w l1 l2 L f s (es1++es2) v' g' w':=by
 subst hsz; obtain⟨own2,hc2⟩:=hc2; have hLn:=Loc.place_ne hL; have hall: ∀e∈es1++es2,e.length=i.size:=fun e he=>(z78.1 he).elim (hl1 e) (hs2 e)
 have hrd1:Rd (fun _=>True) w v1 (.sl es1):=h1.rd (fun _ _=>trivial) (fun _ _=>trivial)
 obtain⟨olds,o1,o2,o5⟩:=BR hrd1 hl1; have hlenall:(es1++es2).length=es1.length+es2.length:=z30
 obtain⟨own1,b1,hu1⟩: ∃(own1:Nat→Nat×Nat) (b1:Nat→Prop),(∀k cap,v1= .slice (some ⟨k,0,none⟩) es1.length cap→es1≠[]→b1 k)∧ ∀(i':Nat) e (j:Nat) y,es1[i']? =some e→e[j]? =some y→ ∃c,olds[i'*i.size+j]? =some c∧mL c∧
   Ow (frz g w) f w none (fun k=>(g.own k=l1∧l1.place=true)∧ ¬ b1 k∧own1 k=(i',j)) c y:=by
  cases h1 with
  | nil t F a=>exact⟨fun _=>(0,0),fun _=>False,fun k cap _ h=>absurd rfl h,fun i' e j y h=>by simp at h⟩
  | sl t F b len1 cap1 s1 arr1 ty1 _ own1 cs1 ht1 hb1 hh1 hl1' hc1 hcap1 hs1 ha1 hm1 hr1=>
   refine⟨own1,fun k=>k=b,fun k cap hv _=> ?_,fun i' e j y he hy=> ?_⟩
   ·simp only[Value.slice.injEq,z10,Addr.mk.injEq]at hv
    exact hv.1.1.symm
   ·have es:s1=i.size:=(hs1 i' e he).symm.trans (hl1 e (bI he))
    subst es; have hj:j<i.size:=by have:=bW hy; have:=hl1 e (bI he); omega
    have h2:=o5 b 0 len1 cap1 rfl _ (DN (bW he) hj); rw[z32,bX w b _ arr1 ty1 (0,0) hh1,hm1 i' e j y he hy]at h2; refine⟨cs1 i' j,h2,((hr1 i' e j y he hy).rd (P:=fun _=>True) (fun _ _=>trivial) (fun _ _=>trivial)).not_agg,(hr1 i' e j y he hy).mono id (fun _ b hb=>⟨hb,rfl⟩) (fun k hk=>⟨hk,rfl⟩)⟩
 have hplace: ∀k,(g.own k=l1∧l1.place=true)∨(g.own k=l2∧l2.place=true)→k<w.heap.size∧(g.own k).place=true:=fun k hk=>by
  have:(g.own k).place=true:=by rcases hk with h | h<;>(rw[h.1]; exact h.2)
  exact⟨hok.own k (Loc.place_ne this).1,this⟩
 have fin: ∀(nb cap:Nat) (arr:Array Value) (bty:TypeId) (w':World),w'.os=w.os→w'.tape=w.tape→w'.output=w.output→w.heap.size≤w'.heap.size→
   (∀b,b<w.heap.size→b≠nb→w'.heap[b]? =w.heap[b]?)→nb<w'.heap.size→w'.heap[nb]? =some (.cells arr bty (0,0))→arr.size=cap*i.size→es1.length+es2.length≤cap→cap≤maxLen→
   (∀k,k<(es1.length+es2.length)*i.size→arr[k]? =(olds++news)[k]?)→(w.heap.size≤nb∨((g.own nb=l1∧l1.place=true)∧(es1≠[]→b1 nb)))→
   FP g w l1 l2 L f i.size (es1++es2) (.slice (some ⟨nb,0,none⟩) (es1.length+es2.length) cap) (g.app l1 l2 L nb) w':=by
  intro nb cap arr bty w' hos htape hout hsize hold hnb hnbh harr hcap hcm harrk hwhose; have hnbp:nb<w.heap.size→(g.own nb).place=true∧g.own nb=l1:=fun h=>by
   rcases hwhose with h2 | h2
   ·omega
   ·exact⟨by rw[h2.1.1]; exact h2.1.2,h2.1.1⟩
  have hZ: ∀b,frz g w b→frz (g.app l1 l2 L nb) w' b∧w'.heap[b]? =w.heap[b]? :=by
   intro b hb; have hne:b≠nb:=by
    intro e; subst e; have:=(hnbp hb.1).1; rw[hb.2]at this; cases this
   refine⟨⟨by have:=hb.1; omega, ?_⟩,hold b hb.1 hne⟩
   show(if b=nb then L else if _ then L else g.own b)= .none
   rw[z13 hne,z13 (fun h=>by rw[hb.2]at h; cases h.2)]; exact hb.2
  refine⟨hos,htape,hout,⟨fun b hb=> ?_⟩,fun _=>rfl,⟨hsize,fun b hb hX=> ?_⟩, ?_⟩
  ·by_cases e:b=nb
   ·subst e; exact hnb
   ·have hb':(if b=nb then L else if(g.own b=l1∨g.own b=l2)∧(g.own b).place=true then L else g.own b)≠ .none:=hb
    rw[z13 e]at hb'; by_cases h2:(g.own b=l1∨g.own b=l2)∧(g.own b).place=true
    ·have:=hok.own b (Loc.place_ne h2.2).1; omega
    ·rw[z13 h2]at hb'
     have:=hok.own b hb'; omega
  ·have hne:b≠nb:=by
    intro e; subst e; obtain⟨q1,q2⟩:=hnbp hb; exact hX ⟨.inl q2,q1⟩
   refine⟨?_,hold b hb hne⟩
   show(if b=nb then L else if _ then L else g.own b)=g.own b
   rw[z13 hne,z13 hX]
  ·have hF: ∀k,(g.own k=l1∧l1.place=true)∨(g.own k=l2∧l2.place=true)→k≠nb→(g.app l1 l2 L nb).own k=L∧w'.heap[k]? =w.heap[k]? :=by
    intro k h2 h3; obtain⟨q1,q2⟩:=hplace k h2; refine⟨?_,hold k q1 h3⟩
    show(if k=nb then L else if _ then L else g.own k)=L
    rw[z13 h3,z19 ⟨h2.elim (fun h=> .inl h.1) (fun h=> .inr h.1),q2⟩]
   refine .sl _ _ nb _ cap i.size arr bty (es1++es2) (fun k=>if g.own k=l1 then own1 k else((own2 k).1+es1.length,(own2 k).2)) (fun i' j=>(arr[i'*i.size+j]?).getD undef) (by simp) (by simp [G.app]) hnbh hlenall hcap hcm
    (fun i' e he=>hall e (bI he)) harr (fun i' e j x he hx=> ?_) (fun i' e j x he hx=> ?_)
   all_goals
    have hj:j<i.size:=by have:=bW hx; have:=hall e (bI he); omega
    have hi':i'<es1.length+es2.length:=by have:=bW he; omega
    have hk':=DN hi' hj; obtain⟨c,hac,hOw⟩: ∃c,arr[i'*i.size+j]? =some c∧Ow (frz (g.app l1 l2 L nb) w') f w' none (fun k=>(g.app l1 l2 L nb).own k=L∧k≠nb∧(if g.own k=l1 then own1 k else((own2 k).1+es1.length,(own2 k).2))=(i',j)) c x:=by
     rw[harrk _ hk']; by_cases hlt:i'<es1.length
     ·rw[z67 hlt]at he
      obtain⟨c,c1,c2,c3⟩:=hu1.2 i' e j x he hx; refine⟨c,by rw[z67 (by rw[o1.len]; exact DN hlt hj)]; exact c1,c3.mono id (fun _=>hZ) (fun k hk=> ?_)⟩
      have hknb:k≠nb:=by
       intro e2; subst e2; rcases hwhose with h | h
       ·have:=(hplace k (.inl hk.1)).1; omega
       ·exact hk.2.1 (h.2 (fun e3=>by subst e3; simp at hlt))
      have:=hF k (.inl hk.1) hknb; exact⟨⟨this.1,hknb,by rw[z19 hk.1.1]; exact hk.2.2⟩,this.2⟩
     ·rw[z62 (by omega)]at he
      obtain⟨c,c1,c2,c3⟩:=hc2 (i' - es1.length) e j x he hx; have hle:es1.length*i.size≤i'*i.size:=z45 _ (by omega)
      have hsub:i'*i.size+j - olds.length=(i' - es1.length)*i.size+j:=by rw[o1.len,Nat.sub_mul]; omega
      refine⟨c,by rw[z62 (by rw[o1.len]; omega),hsub]; exact c1,c3.mono id (fun _=>hZ) (fun k hk=> ?_)⟩
      obtain⟨⟨q1,q2,q3⟩,q4⟩:=hk; have hknb:k≠nb:=by
       intro e2; subst e2; rcases hwhose with h | h
       ·have:=(hplace k (.inr ⟨q1,q2⟩)).1; omega
       ·exact q3 (q1.symm.trans h.1.1)
      have:=hF k (.inr ⟨q1,q2⟩) hknb; refine⟨⟨this.1,hknb, ?_⟩,this.2⟩
      rw[z13 (by rw[q1]; exact q3),q4]
      simp only[z48,and_true]; omega
   ·rw[hac]; rfl
   ·rw[hac]; exact hOw
 have hone: ∀v∈news,v.oneCell'=true:=by
  intro v hv; obtain⟨k,hk⟩:=z72 hv
  have hlt:k<es2.flatten.length:=by rw[FK hs2, ←hN.len]; exact bW hk
  obtain⟨i',e,j,q1,q2,q3,rfl⟩:=Jo hs2 (z14 hlt)
  obtain⟨c,c1,c2,_⟩:=hc2 i' e j _ q1 q2; rw[hk]at c1; cases c1; exact nG c2
 have grow: ∀(av:Option Addr) (c1:Nat),v1= .slice av es1.length c1→c1<es1.length+es2.length→
   ∃v' g' w',(Builtin.append_ #[t,u] ty #[v1,x]).run P w= .ok v' w'∧FP g w l1 l2 L f i.size (es1++es2) v' g' w':=by
  intro av c1 hv1 hlt; have hrun:=Cq (P:=P) w t u ty e du i z ht hu hdu hi hz av es1.length c1 es2.length x olds news (by rw[←hv1]; exact o1.first P w.drew rfl) (hN.first P w.drew rfl) (hN.lenOf P) hlt h63 hb
  have hge:=grownCap_ge w (es1.length+es2.length) c1 e; have hcm:=grownCap_le_maxLen w (es1.length+es2.length) c1 e h63; refine⟨_,_,w.drew.alloc (.cells ((olds++news).toArray++Builtin.zeroCells z.cells (grownCap w (es1.length+es2.length) c1 e - (es1.length+es2.length))) e),by rw[hv1]; exact hrun,fin w.heap.size (grownCap w (es1.length+es2.length) c1 e) _ e _ rfl rfl rfl (by simp) (fun b hb _=>heap_alloc_old w.drew _ b hb) (by simp) (heap_alloc_new w.drew _) ?_ hge hcm (fun k hk=> ?_) (.inl (z53 _))⟩
  ·simp only[Array.size_append,z88,z30,size_zeroCells,hzs,o1.len,hN.len, ←z81]
   congr 1
   omega
  ·rw[Array.getElem?_append_left (by simp only[z88,z30,o1.len,hN.len, ←z81]; exact hk)]
   simp
 have h1':=h1; cases h1 with
 | nil t' F av=>
  by_cases he2:es2=[]
  ·subst he2
   have hnews:news=[]:=z102 (by simpa using hN.len)
   have hrun:=Cp (P:=P) w t u ty e du i ht hu hdu hi av 0 x (by have:=hN.first P w rfl; rw[hnews]at this; exact this) (hN.lenOf P)
   exact⟨_,g,w,hrun,rfl,rfl,rfl,hok,fun _=>rfl,Evo.refl _ _ _, .nil _ _ _⟩
  ·have h2:0<es2.length:=by cases es2 with | nil=>exact absurd rfl he2 | cons y r=>simp
   exact grow av 0 rfl (by simpa using h2)
 | sl t' F b len cap s' arr bty _ own cs hst hbo hbh hlen hlc hcm hs' harr hm hr=>
  subst hlen; have e0:s'=i.size:=hst _ rfl; subst e0; by_cases hroom:es1.length+es2.length≤cap
  ·have hle:es1.length*i.size+news.length≤arr.size:=by rw[hN.len,harr, ←z81]; exact z45 _ hroom
   obtain⟨w',s1,s2,s3,s4,s5,s6,s7⟩:=mJ (P:=P) hbh news hle hone; have hrun:=Co (P:=P) w t u ty e du i ht hu hdu hi b es1.length cap es2.length x news (hN.first P w rfl) (hN.lenOf P) hroom w' s1
   refine⟨_,_,_,hrun,fin b cap _ bty w' s5 s6 s7 (by omega) (fun b' _ hb'=>s3 b' hb') (by rw[s4]; exact(z31.1 hbh).1) s2 ?_ hroom hcm (fun k hk=> ?_) (.inr ⟨hbo,fun hne=>hu1.1 b cap rfl hne⟩)⟩
   ·simp only[z88,z30,z38,z65,z47]
    omega
   ·rw[z84,pL arr.toList news (es1.length*i.size) (by simpa using hle) k]
    rw[z81]at hk; by_cases hk1:k<es1.length*i.size
    ·rw[z13 (by omega),z67 (by rw[o1.len]; exact hk1),z26]
     have:=o5 b 0 _ _ rfl k hk1; rw[z32,bX w b k arr bty (0,0) hbh]at this; exact this.symm
    ·rw[z19 (by rw[hN.len]; omega),z62 (by rw[o1.len]; omega),o1.len]
  ·exact grow _ cap rfl (by omega)
end Go.Own

namespace Go.Own
open Go.RowKit

def St.lowO(st:St)(l:Loc):St:=if l.place then st.lower l .D else st

theorem IG(st:St)(l m:Loc):(st.lowO l).at m=st.at m:=by unfold St.lowO; split<;>rfl
theorem PW(st:St)(l:Loc):(st.lowO l).n=st.n:=by unfold St.lowO; split<;>rfl
theorem Lu{st:St}{l m:Loc}{x:T}(hx:st.at m=some x):(st.lowO l).fl m=if m=l∧l.place=true then .D else st.fl m:=by
 unfold St.lowO; by_cases hp:l.place=true
 ·rw[z19 hp]
  have:=uN (st:=st) (R:=fun m=>decide (m=l)) (f:=fun m=>if m=l then .D else st.fl m) (by simp [Ne.symm (Loc.place_ne hp).1]) hx
  unfold St.lower; rw[this]; by_cases e:m=l
  ·rw[z19 e,z19 ⟨e,hp⟩]
  ·rw[z13 e,z13 (fun h=>e h.1)]
 ·rw[z13 hp,z13 (fun h=>hp h.2)]

theorem bM.lowO{g0:G}{w0:World}{st:St}{a:Act}{g:G}{w:World}(h:bM g0 w0 st a g w)(l:Loc):bM g0 w0 (st.lowO l) a g w:=by
 unfold St.lowO; split
 ·rename_i hp
  exact h.lower hp (by cases st.fl l<;>rfl)
 ·exact h

theorem pF{st:St}{R:Loc→Bool}{f:Loc→K}(hf: ∀m,f m≠ .V)(m:Loc):(st.setf R f).fl m≠ .V:=by
 cases m with
 | s i k j=>
  simp only[St.setf]; split
  ·simp
  ·exact hf _
 | _=>exact hf _

theorem Jg{st:St}(h: ∀m,st.fl m≠ .V)(l m:Loc):(st.lowO l).fl m≠ .V:=by
 unfold St.lowO; split
 ·unfold St.lower
  refine pF (fun m=> ?_) m
  split
  ·simp
  ·exact h m
 ·exact h m

def K.app(s:Nat):K→Bool
 | .A n=>n == s
 | .U n=>n == s&& !(n == 0)
 | .N=>true
 | _=>false
def K.deep:K→Bool
 | .A _=>false
 | _=>true

def gY(st:St):Operand→Loc
 | .tmp t=>if(st.fl (.s t 0 0)).hold then .s t 0 0 else .none
 | _=> .none

def KB(st:St):Operand→K
 | .tmp t=>st.fl (.s t 0 0)
 | .const v=>gH (bG v) 0 0
 | _=> .S

theorem bM.app_fst{g0:G}{w0:World}{st:St}{a:Act}{g:G}{w:World}(hs:bM g0 w0 st a g w){x:Operand}{es:List (List T)}{s:Nat}{f:Bool}(hx:ev st.sl x= .one (.c (.sl es)))(hk:(KB st x).app s=true)(hf:f=true→(KB st x).deep=true):
  Ow (frz g w) f w (some s) (fun b=>g.own b=gY st x∧(gY st x).place=true) (a.eval x) (.sl es):=by
 cases x with
 | tmp t=>
  have h1:=hs.slots t; have hx':st.sl t= .one (.c (.sl es)):=hx; rw[hx']at h1; have h2:LF g w (st.fl (.s t 0 0)) (.s t 0 0) (a.tmps.getD t undef) (.sl es):=h1.2; have hev:a.eval (.tmp t)=a.tmps.getD t undef:=rfl; rw[hev]; simp only[KB]at hk hf; simp only[gY]; generalize hκ:st.fl (.s t 0 0)=κ at h2 hk hf; cases κ with
  | A n=>
   have hn:n=s:=by simpa [K.app]using hk
   subst hn; have hff:f=false:=by cases f with | false=>rfl | true=>exact absurd (hf rfl) (by simp [K.deep])
   subst hff; exact Ow.mono h2 id (fun _ b hb=>⟨hb,rfl⟩) (fun b hb=>⟨⟨hb,rfl⟩,rfl⟩)
  | U n=>
   have hn:n=s∧ ¬ n=0:=by simpa [K.app]using hk
   obtain⟨rfl,hn0⟩:=hn; have h2:Ow (frz g w) true w (gC n) (fun b=>g.own b= .s t 0 0) (a.tmps.getD t undef) (.sl es):=h2
   rw[oI (by omega)]at h2
   cases f with
   | true=>exact Ow.mono h2 id (by simp) (fun b hb=>⟨⟨hb,rfl⟩,rfl⟩)
   | false=>exact Ow.mono (deep':=false) h2 (by simp) (by simp) (fun b hb=>⟨⟨hb,rfl⟩,rfl⟩)
  | N=>
   obtain⟨h3,q,hq⟩:=h2; cases h3; rw[hq]; exact .nil _ _ _
  | _=>simp [K.app]at hk
 | const v=>
  simp only[KB,gH]at hk; have hx':bG v= .one (.c (.sl es)):=hx; have h1:=sQ g w (fun _ _=> .none) v
  rw[hx']at h1 hk; have h2:LF g w (gH (.one (.c (.sl es))) 0 0) .none v (.sl es):=h1.2; simp only[gH,V.leaf,W.leaf,scal,z52,if_false]at h2; obtain⟨h3,q,hq⟩:=h2; cases h3; have:a.eval (.const v)=v:=rfl; rw[this,hq]; exact .nil _ _ _
 | func f=>simp [ev]at hx
 | global n=>simp [ev]at hx

def nU(zero:List T):Bool:=zero.all scal

def IX(st:St)(zero:List T)(f:Bool)(y:Operand):Bool:=
 match ev st.sl y with
 | .one (.c (.str _))=>true
 | _=>match KB st y with
  | .D=>false
  | .V=>nU zero
  | .F=>nU zero|| !f
  | .A s=>(s == zero.length)&&(nU zero|| !f)
  | .U s=>s == zero.length&& !(s == 0)
  | .S=>false
  | .N=>true

def FW:V→Option (List (List T))
 | .one (.c (.sl es))=>some es
 | .one (.c (.str s))=>some (tB s)
 | _=>none

theorem bM.app_snd{g0:G}{w0:World}{st:St}{a:Act}{g:G}{w:World}(hs:bM g0 w0 st a g w){y:Operand}{es:List (List T)}{zero:List T}{f:Bool}{l1:Loc}(hy:FW (ev st.sl y)=some es)(hconf: ∀e∈es,eH e zero=true)(hk:IX st zero f y=true)
  (hne:(gY st y).place=true→gY st y≠l1):
  ∃news,Pp w (a.eval y) es.length zero.length news∧ ∃own2:Nat→Nat×Nat, ∀(i:Nat) e (j:Nat) z,es[i]? =some e→e[j]? =some z→ ∃c,news[i*zero.length+j]? =some c∧mL c∧Ow (frz g w) f w none (fun k=>(g.own k=gY st y∧(gY st y).place=true∧gY st y≠l1)∧own2 k=(i,j)) c z:=by
 have hsz: ∀e∈es,e.length=zero.length:=fun e he=>(qN (hconf e he)).1
 have hsc:nU zero=true→ ∀(i:Nat) e (j:Nat) z,es[i]? =some e→e[j]? =some z→scal z=true:=by
  intro h i e j z he hz; obtain⟨y,hy,hc⟩:=(qN (hconf e (bI he))).2 j z hz; rw[xJ hc]; exact z15.1 h y (bI hy)
 have h1:=hs.ev_rv y (fun _ _=> .none)
 unfold FW at hy; split at hy
 ·rename_i es' heq
  cases hy; rw[heq]at h1; have hnstr:IX st zero f y=(match KB st y with | .D=>false | .V=>nU zero | .F=>nU zero|| !f | .A s=>(s == zero.length)&&(nU zero|| !f) | .U s=>s == zero.length&& !(s == 0) | .S=>false | .N=>true):=by
   unfold IX; rw[heq]
  rw[hnstr]at hk; have read: ∀ {Q:Nat→Prop},Rd Q w (a.eval y) (.sl es)→((∀b,Q b→frz g w b)∧f=false∨nU zero=true)→ ∃news,Pp w (a.eval y) es.length zero.length news∧ ∃own2:Nat→Nat×Nat, ∀(i:Nat) e (j:Nat) z,es[i]? =some e→e[j]? =some z→ ∃c,news[i*zero.length+j]? =some c∧mL c∧Ow (frz g w) f w none (fun k=>(g.own k=gY st y∧(gY st y).place=true∧gY st y≠l1)∧own2 k=(i,j)) c z:=by
   intro Q hrd hor; obtain⟨news,n1,n2,_⟩:=BR hrd hsz; refine⟨news,n1,fun _=>(0,0),fun i e j z he hz=> ?_⟩
   obtain⟨c,c1,c2,c3⟩:=n2 i e j z he hz; refine⟨c,c1,c2, ?_⟩
   rcases hor with⟨hQ,hf⟩ | ha
   ·exact .frz _ _ _ hf (c3.weaken hQ)
   ·exact c3.ow (hsc ha i e j z he hz)
  cases y with
  | const v=>
   have h2:LF g w (gH (ev st.sl (.const v)) 0 0) .none v (.sl es):=h1.2; have hev:ev st.sl (.const v)= .one (.c (.sl es)):=heq; rw[hev]at h2; simp only[gH,V.leaf,W.leaf,scal,z52,if_false]at h2; obtain⟨h3,q,hq⟩:=h2; cases h3; have e1:a.eval (.const v)= .slice q 0 0:=hq; obtain⟨news,n1,n2,_⟩:=BR (s:=zero.length) (show Rd (fun _=>False) w (a.eval (.const v)) (.sl [])by rw[e1]; exact .nil _ _) (by simp)
   exact⟨news,n1,fun _=>(0,0),fun i e j z he=>by simp at he⟩
  | func f=>simp [ev]at heq
  | global n=>simp [ev]at heq
  | tmp t=>
   have hsl:st.sl t= .one (.c (.sl es)):=heq; have h3:=hs.slots t; rw[hsl]at h3; have h2:LF g w (st.fl (.s t 0 0)) (.s t 0 0) (a.tmps.getD t undef) (.sl es):=h3.2; have hev:a.eval (.tmp t)=a.tmps.getD t undef:=rfl
   have own: ∀(deep:Bool) (n:Nat),(st.fl (.s t 0 0)).hold=true→n=zero.length→(f=true→deep=true)→Ow (frz g w) deep w (some n) (fun b=>g.own b= .s t 0 0) (a.tmps.getD t undef) (.sl es)→
     ∃news,Pp w (a.eval (.tmp t)) es.length zero.length news∧ ∃own2:Nat→Nat×Nat, ∀(i:Nat) e (j:Nat) z,es[i]? =some e→e[j]? =some z→ ∃c,news[i*zero.length+j]? =some c∧mL c∧Ow (frz g w) f w none (fun k=>(g.own k=gY st (.tmp t)∧(gY st (.tmp t)).place=true∧gY st (.tmp t)≠l1)∧own2 k=(i,j)) c z:=by
    intro deep n hh hn hfd hO; subst hn; have hloc:gY st (.tmp t)= .s t 0 0:=by simp only[gY]; rw[z19 hh]
    have hne':=hne (by rw[hloc]; rfl)
    rw[hloc]at hne' ⊢; rw[hev]; have hrd:Rd (fun _=>True) w (a.tmps.getD t undef) (.sl es):=hO.rd (fun _ _=>trivial) (fun _ _=>trivial)
    obtain⟨news,n1,n2,n3⟩:=BR hrd hsz; generalize a.tmps.getD t undef=v at hO n1 n3; cases hO with
    | nil t' F q=>exact⟨news,n1,fun _=>(0,0),fun i e j z he=>by simp at he⟩
    | sl t' F b len cap s' arr ty _ own cs hst hb hh hl hc hcap hs' ha hm hr=>
     have e0:s'=zero.length:=hst _ rfl; subst e0; refine⟨news,n1,own,fun i e j z he hz=> ?_⟩
     obtain⟨c,c1,c2,c3⟩:=n2 i e j z he hz; have hj:j<zero.length:=by have:=bW hz; have:=hsz e (bI he); omega
     have h5:=n3 b 0 len cap rfl _ (DN (bW he) hj); rw[z32,bX w b _ arr ty (0,0) hh,hm i e j z he hz,c1]at h5; cases h5; refine⟨_,c1,c2, ?_⟩
     have h6:=hr i e j z he hz; cases f with
     | true=>
      have:=hfd rfl; subst this; exact h6.mono id (by simp) (fun k hk=>⟨⟨⟨hk.1,rfl,hne'⟩,hk.2.2⟩,rfl⟩)
     | false=>exact h6.mono (fun _=>rfl) (fun _ b hb=>⟨hb,rfl⟩) (fun k hk=>⟨⟨⟨hk.1,rfl,hne'⟩,hk.2.2⟩,rfl⟩)
   simp only[KB]at hk; generalize hκ:st.fl (.s t 0 0)=κ at h2 hk own; cases κ with
   | D=>simp at hk
   | V=>exact read h2 (.inr hk)
   | F=>
    refine read h2 ?_
    simp only[z50,z37]at hk; rcases hk with hk | hk
    ·exact .inr hk
    ·exact .inl ⟨fun _ h=>h,hk⟩
   | A n=>
    simp only[z7,beq_iff_eq,z50,z37]at hk; rcases hk.2 with hk2 | hk2
    ·exact read (hs.ok |> fun hok=>LF.rd (κ:= .A n) hok (l:= .s t 0 0) rfl h2 (by simp)) (.inr hk2)
    ·exact own false n rfl hk.1 (by simp [hk2]) h2
   | U n=>
    have hk:n=zero.length∧ ¬ n=0:=by simpa using hk
    have h2:Ow (frz g w) true w (gC n) (fun b=>g.own b= .s t 0 0) (a.eval (.tmp t)) (.sl es):=h2
    rw[oI (by omega)]at h2
    exact own true n rfl (by simpa using hk.1) (fun _=>rfl) h2
   | S=>simp at hk
   | N=>
    obtain⟨h4,q,hq⟩:=h2; cases h4; obtain⟨news,n1,_⟩:=BR (s:=zero.length) (show Rd (fun _=>False) w (a.eval (.tmp t)) (.sl [])by rw[hev,hq]; exact .nil _ _) (by simp)
    exact⟨news,n1,fun _=>(0,0),fun i e j z he=>by simp at he⟩
 ·rename_i s heq
  cases hy; rw[heq]at h1; have h2:Rd (fun _=>False) w (a.eval y) (.str s):=by
   have:=LF.scal (g':=g) (w':=w) (κ':= .S) (l':= .none) h1.2 rfl; exact this.2
  generalize a.eval y=v at h2; cases h2 with
  | str b=>
   obtain⟨news,n1,n2⟩:=OC w b; by_cases hemp:tB b.data.toList=[]
   ·rw[hemp]at n1 ⊢
    refine⟨[],⟨by simp,fun P w' hw=> ?_,n1.lenOf⟩,fun _=>(0,0),fun i e j z he=>by simp at he⟩
    have:=n1.first P w' hw
    have hnil:news=[]:=z102 (by simpa using n1.len)
    rw[hnil]at this; have e:Builtin.firstCells zero.length 0 (Value.string b)=Builtin.firstCells 1 0 (Value.string b):=rfl; simp only[z27]at this ⊢; rw[e]; exact this
   ·have h1l:zero.length=1:=by
     obtain⟨e,r,he⟩:=List.exists_cons_of_ne_nil hemp; have hm:e∈tB b.data.toList:=by rw[he]; exact z29
     rw[←hsz e hm]; simp only[tB,z51]at hm; obtain⟨c,_,rfl⟩:=hm; rfl
    rw[h1l]; refine⟨news,n1,fun _=>(0,0),fun i e j z he hz=> ?_⟩
    obtain⟨n,hn,rfl⟩:=n2 i e j z he hz; exact⟨_,hn,⟨by simp,by simp⟩, .int _ _ _ _⟩
 ·cases hy

section
variable {P:Program} {τ:TypeId→Option TI} {g0:G} {w0:World} {o:Oper} {st:St} {d:Nat}

theorem NF(hT:aY P τ){t u e:TypeId}{ei:TI}{x y:Operand}{es1 es2:List (List T)}(f:Bool)(hd:o.dst=some d)(hn:d<st.n)(ho:o.op= .call { callee:= .builtin .append,args:= #[x,y],argTypes:= #[t,u] })
  (ht:tk τ t=some (.sl e))(hu:tk τ u=some (.sl e)∨tk τ u=some .str)(he:τ e=some ei)(hx:ev st.sl x= .one (.c (.sl es1)))(hxk:(KB st x).app ei.size=true)(hxf:f=true→(KB st x).deep=true)
  (hy:FW (ev st.sl y)=some es2)(hyk:IX st ei.zero f y=true)(hne:(gY st y).place=true→gY st y≠gY st x)
  (hl1: ∀e∈es1,e.length=ei.size)(hl2: ∀e∈es2,eH e ei.zero=true)(h63:es1.length+es2.length≤maxLen)(hb:(es1.length+es2.length)*ei.bytes≤140737488355328):
  nL P g0 w0 o st (((st.killV.lowO (gY st x)).lowO (gY st y)).put d (.one (.c (.sl (es1++es2)))) (fun _ _=>if f then .U ei.size else .A ei.size)):=by
 intro a w ⟨g,hs⟩; obtain⟨info,de,z,q1,q2,q3,q4,q5,q6,q7,q8,q9⟩:=hT.get he; obtain⟨dt,hdt,rfl⟩:=jI hT ht; obtain⟨du,hdu,hdui⟩: ∃du,P.underlying u=some du∧ ∀k,du≠ .int k:=by
  rcases hu with hu | hu
  ·obtain⟨du,hdu,rfl⟩:=jI hT hu; exact⟨_,hdu,by simp⟩
  ·obtain⟨du,hdu,rfl⟩:=jI hT hu; exact⟨_,hdu,by simp⟩
 have hzs:z.cells.size=ei.size:=by
  have:=(gK q6).1; simp only[z47]at this; omega
 obtain⟨news,n1,hc2⟩:=hs.app_snd (l1:=gY st x) hy hl2 hyk hne; rw[q7]at n1 hc2
 obtain⟨v',g',w',hrun,hA⟩:=Kh (P:=P) hs.ok (l1:=gY st x) (l2:=gY st y) (L:= .s d 0 0) (hs.app_fst hx hxk hxf) rfl hl1 (fun e he=>by rw[(qN (hl2 e he)).1,q7]) q8 n1 hc2
  t u o.type e du info z hdt hdu hdui q1 q5 q3 hzs h63 (by rw[q4]; exact hb)
 have hv:(execOp a.eval o).run P w= .ok (.value v') w':=by
  obtain⟨dst,op,ty,pos,after,guard⟩:=o; simp only at ho; subst ho; simp only[execOp,resolve,invoke,builtin,Sem.run_bind,Sem.run_pure,Result.andThen_ok,List.map_toArray,z61,RO]; simp only at hrun; rw[hrun]; rfl
 refine⟨_,_,hv, .inl ⟨_,rfl,g', ?_⟩⟩
 rw[hd]; have h1:=(hs.killV.lowO (gY st x)).lowO (gY st y)
 have hC:wT g w g' w' (fun l=>(l=gY st x∨l=gY st y)∧l.place=true) ((st.killV.lowO (gY st x)).lowO (gY st y)):=
  ⟨hA.evo,fun l hl=>⟨fun hf=>by rcases hf with h | h<;>(rw[h]at hl; cases hl.2),(Loc.place_ne hl.2).2.2⟩, .inr (Jg (Jg (qL st) _) _),hA.os,hA.tape,hA.output,hA.ok⟩
 refine h1.put hC hA.β (by rw[PW,PW]; exact hn) (fun l hk ⟨y',hx⟩ _ hX=> ?_) ⟨(hA.ow.rd (P:=fun _=>True) (fun _ _=>trivial) (fun _ _=>trivial)).not_agg, ?_⟩ (fun h=>absurd rfl h)
 ·rw[IG,IG]at hx
  have hx':st.killV.at l=some y':=hx; rw[Lu (x:=y') (by rw[IG]; exact hx'),Lu hx']at hk
  rcases hX.1 with e | e
  ·by_cases e2:l=gY st y∧(gY st y).place=true
   ·rw[z19 e2]at hk; simp [K.hold]at hk
   ·rw[z13 e2,z19 ⟨e,by rw[←e]; exact hX.2⟩]at hk; simp [K.hold]at hk
  ·rw[z19 ⟨e,by rw[←e]; exact hX.2⟩]at hk; simp [K.hold]at hk
 ·show LF g' w' (if f then .U ei.size else .A ei.size) (.s d 0 0) v' (.sl (es1++es2))
  cases f with
  | true=>
   show Ow _ true w' (gC ei.size) _ _ _; rw[oI q8]; exact hA.ow
  | false=>exact hA.ow
end
end Go.Own

namespace Go.Own
open Go.RowKit

theorem zE(off:Nat): ∀(l:List Value) (j0:Nat) (cs:Array Value),off+j0+l.length≤cs.size→
  ((l.zipIdx j0).foldl (fun cs (x:Value×Nat)=>cs.setIfInBounds (off+x.2) x.1) cs).size=cs.size∧
  ∀k,((l.zipIdx j0).foldl (fun cs (x:Value×Nat)=>cs.setIfInBounds (off+x.2) x.1) cs)[k]? =if off+j0≤k∧k<off+j0+l.length then l[k - (off+j0)]? else cs[k]?
 | [],j0,cs,_=>⟨rfl,fun k=>by simp only[List.zipIdx_nil,List.foldl_nil,z27]; rw[z13 (by omega)]⟩
 | v::r,j0,cs,h=>by
  simp only[z43]at h; simp only[z158,TH]; obtain⟨h1,h2⟩:=zE off r (j0+1) (cs.setIfInBounds (off+j0) v) (by simp; omega)
  refine⟨by rw[h1]; simp,fun k=> ?_⟩
  rw[h2 k]; by_cases e1:off+(j0+1)≤k∧k<off+(j0+1)+r.length
  ·rw[z19 e1,z19 (by simp; omega)]
   have:k - (off+j0)=k - (off+(j0+1))+1:=by omega
   rw[this,z23]
  ·rw[z13 e1]
   by_cases e2:k=off+j0
   ·subst e2
    rw[z19 (by simp),RQ,z20,z106 (by omega)]
   ·rw[z13 (by simp; omega),z97 (Ne.symm e2)]

theorem Jt(size:Nat): ∀(vs:List Value) (i0:Nat) (cs:Array Value),(∀v∈vs,v.cells.size=size)→(i0+vs.length)*size≤cs.size→
  ∃r,Instr.fill (fun i=>some (i*size,size)) cs ((vs.zipIdx i0).map fun p=>(p.2,p.1))=some r∧r.size=cs.size∧(∀k,k<i0*size→r[k]? =cs[k]?)∧
   ∀(i:Nat) (v:Value) (j:Nat),vs[i]? =some v→j<size→r[(i0+i)*size+j]? =v.cells[j]?
 | [],i0,cs,_,_=>⟨cs,rfl,rfl,fun _ _=>rfl,fun i v j h=>by simp at h⟩
 | v::r,i0,cs,hv,h=>by
  have hv0:=hv v z29; simp only[z43]at h; have hle:(i0+1)*size≤cs.size:=z41 (z45 _ (by omega)) h
  rw[z81,Nat.one_mul]at hle; simp only[z158,z61,Instr.fill,hv0,ne_eq,not_true_eq_false,decide_false,z54]; have hl:v.cells.toList.length=size:=by simpa using hv0
  obtain⟨g1,g2⟩:=zE (i0*size) v.cells.toList 0 cs (by rw[hl]; omega)
  have hfold:v.cells.zipIdx.foldl (fun cs (x:Value×Nat)=>cs.setIfInBounds (i0*size+x.2) x.1) cs=(v.cells.toList.zipIdx 0).foldl (fun cs (x:Value×Nat)=>cs.setIfInBounds (i0*size+x.2) x.1) cs:=by
   rw[←TO]; simp
  have hnot: ¬ (decide (i0*size+size > cs.size)=true):=by simp; omega
  obtain⟨r',f1,f2,f3,f4⟩:=Jt size r (i0+1) (v.cells.zipIdx.foldl (fun cs (x:Value×Nat)=>cs.setIfInBounds (i0*size+x.2) x.1) cs) (fun x hx=>hv x (z25 _ hx))
   (by rw[hfold,g1]; exact z41 (z45 _ (by omega)) h)
  refine⟨r', ?_,by rw[f2,hfold,g1],fun k hk=> ?_,fun i x j hx hj=> ?_⟩
  ·rw[z13 (by simpa using hnot)]
   exact f1
  ·rw[f3 k (by rw[z81]; omega),hfold,g2 k,z13 (by omega)]
  ·cases i with
   | zero=>
    simp only[z20,z10]at hx
    subst hx; rw[z69,f3 _ (by rw[z81]; omega),hfold,g2,z19 (by rw[hl]; omega),z69,z77,z26]
   | succ i=>
    simp only[z23]at hx
    have:i0+(i+1)=i0+1+i:=by omega
    rw[this]; exact f4 i x j hx hj

def vY(t:Nat):Operand→Bool
 | .tmp t'=>t' == t
 | _=>false
def dD(ps:List Operand):Loc→Bool
 | .s t 0 _=>ps.any (vY t)
 | _=>false
theorem Kb{ps:List Operand}{t j:Nat}(h: .tmp t∈ps):dD ps (.s t 0 j)=true:=by
 simp only[dD,z157]; exact⟨.tmp t,h,by simp [vY]⟩
theorem AS{ps:List Operand}{l:Loc}(h:dD ps l=true):l.place=true:=by
 cases l<;>first | rfl | simp [dD]at h

def tIdx(ps:List Operand)(t:Nat):Nat:=ps.findIdx (vY t)

theorem QN{ps:List Operand}{t i:Nat}(h:ps[i]? =some (.tmp t))(hu: ∀i',ps[i']? =some (.tmp t)→i'=i):tIdx ps t=i:=by
 have hex: ∃x∈ps,vY t x=true:=⟨.tmp t,bI h,by simp [vY]⟩
 have hf:=List.findIdx_lt_length_of_exists hex; have hg:=List.findIdx_getElem (w:=hf); have:ps[ps.findIdx (vY t)]? =some (.tmp t):=by
  rw[z14 hf]
  congr 1
  generalize ps[ps.findIdx (vY t)]=y at hg; cases y<;>simp [vY]at hg
  rw[hg]
 exact hu _ this

def St.lowT(st:St)(ps:List Operand):St:=st.setf (dD ps) (fun m=>if dD ps m=true∧(st.fl m).hold=true then .D else st.fl m)

theorem bM.lowT{g0:G}{w0:World}{st:St}{a:Act}{g:G}{w:World}(h:bM g0 w0 st a g w)(ps:List Operand):bM g0 w0 (st.lowT ps) a g w:=by
 refine h.setf rfl (fun _=>rfl) h.ok (fun _ _=>rfl) (fun _ _ h=>h) (fun _ h=>h) (fun m x v hx hv hf=> ?_) (fun i k xs b off hcx hc=> ?_) (fun i hi hR hf=> ?_)
 ·by_cases e:dD ps m=true∧(st.fl m).hold=true
  ·rw[z19 e]; exact hf.lo (κ':= .D) h.ok (at_isPlace hx) (by cases st.fl m<;>rfl)
  ·rw[z13 e]; exact hf
 ·by_cases e:dD ps (.s i k 0)=true∧(st.fl (.s i k 0)).hold=true
  ·rw[z19 e]; trivial
  ·rw[z13 e]; exact hc
 ·refine⟨fun e=>hf (by rw[z13 (by rw[e]; simp [K.hold])]; exact e),fun hh=> ?_⟩
  rw[z13 (by rw[hR]; simp)]; exact hh

theorem IE{st:St}{ps:List Operand}{m:Loc}{x:T}(hx:st.at m=some x):(st.lowT ps).fl m=if dD ps m=true∧(st.fl m).hold=true then .D else st.fl m:=uN (f:=fun m=>if dD ps m=true∧(st.fl m).hold=true then K.D else st.fl m) rfl hx

def K.part(f:Bool):K→Bool
 | .S=>true
 | .N=>true
 | .F=> !f
 | .A _=> !f
 | .U _=>true
 | _=>false

def Cy(st:St):Operand→Nat→K
 | .tmp t,j=>st.fl (.s t 0 j)
 | .const v,j=>gH (bG v) 0 j
 | _,_=> .D

theorem LF.part{g g':G}{w w':World}{κ:K}{l:Loc}{c:Value}{x:T}{f:Bool}(h:LF g w κ l c x)(hk:κ.part f=true)(hZ: ∀b,frz g w b→frz g' w' b∧w'.heap[b]? =w.heap[b]?){F:Nat→Prop}(hF:κ.hold=true→ ∀b,g.own b=l→F b∧w'.heap[b]? =w.heap[b]?):Ow (frz g' w') f w' none F c x:=by
 cases κ with
 | D=>simp [K.part]at hk
 | V=>simp [K.part]at hk
 | F=>
  have:f=false:=by simpa [K.part]using hk
  subst this; exact .frz _ _ _ rfl (Rd.mono hZ h)
 | A n=>
  have:f=false:=by simpa [K.part]using hk
  subst this; exact(Ow.sub h).mono id (fun _=>hZ) (hF rfl)
 | U n=>
  have h:Ow (frz g w) true w (gC n) (fun b=>g.own b=l) c x:=h
  exact h.any.mono (deep':=f) (by simp) (by simp) (hF rfl)
 | S=>exact h.2.ow h.1
 | N=>obtain⟨rfl,a,rfl⟩:=h; exact .nil _ _ _

section
variable {P:Program} {τ:TypeId→Option TI} {g0:G} {w0:World} {o:Oper} {st:St} {d:Nat}

def G.lit(g:G)(ps:List Operand)(L:Loc)(nb:Nat):G:=
 { β:=g.β,own:=fun b=>if b=nb then L else if dD ps (g.own b)=true then L else g.own b }

theorem zL{v:V}{xs:List T}(h:aT v=some xs)(j:Nat):v.leaf 0 j=xs[j]? :=by
 unfold aT at h; split at h
 ·simp only[z10]at h; subst h; cases j<;>rfl
 ·simp only[z10]at h; subst h; rfl
 ·cases h

theorem Tz(hT:aY P τ){n:Nat}{t e:TypeId}{ei:TI}{parts:Array (Nat×Operand)}{ps:List Operand}{es:List (List T)}(f:Bool)(hd:o.dst=some d)(hn:d<st.n)(ho:o.op= .buildSlice t n parts)(hparts:parts.toList=ps.zipIdx.map fun p=>(p.2,p.1))(hlen:n=ps.length)
  (ht:tk τ t=some (.sl e))(he:τ e=some ei)(hes:ps.map (fun x=>aT (ev st.sl x))=es.map some)(hl: ∀e∈es,e.length=ei.size)(hsz:n*ei.size≤16777216)
  (hu: ∀(i i' t:Nat),ps[i]? =some (Operand.tmp t)→ps[i']? =some (Operand.tmp t)→i=i')
  (hk: ∀x∈ps, ∀j,j<ei.size→(Cy st x j).part f=true):
  nL P g0 w0 o st ((st.lowT ps).put d (.one (.c (.sl es))) (fun _ _=>if f then .U ei.size else .A ei.size)):=by
 intro a w ⟨g,hs⟩; obtain⟨info,de,z0,q1,q2,q3,q4,q5,q6,q7,q8,q9⟩:=hT.get he; obtain⟨dt,hdt,rfl⟩:=jI hT ht; have hzs:z0.cells.size=ei.size:=by
  have:=(gK q6).1; simp only[z47]at this; omega
 have hel:es.length=n:=by
  have:=congrArg List.length hes; simp only[z89]at this; omega
 have hpart: ∀(i:Nat) x e,ps[i]? =some x→es[i]? =some e→aT (ev st.sl x)=some e:=by
  intro i x e hx he; have:(ps.map (fun x=>aT (ev st.sl x)))[i]? =(es.map some)[i]? :=by rw[hes]
  rw[z36,z36,hx,he]at this
  exact z46 this
 have hpair: ∀(i:Nat) x,ps[i]? =some x→ ∃e,es[i]? =some e:=fun i x hx=>by
  have:=bW hx; exact⟨es[i]'(by omega),z14 (by omega)⟩
 have hcs: ∀(i:Nat) x e,ps[i]? =some x→es[i]? =some e→(a.eval x).cells.size=ei.size∧ ∀(j:Nat) z,e[j]? =some z→ ∃c,(a.eval x).cells[j]? =some c∧mL c∧
   LF g w (Cy st x j) (match x with | .tmp t=> .s t 0 j | _=> .none) c z:=by
  intro i x e hx he; have hc:=hpart i x e hx he; have hle:=hl e (bI he); cases x with
  | tmp t=>
   obtain⟨k1,k2,_⟩:=fW (hs.slots t) hc; exact⟨by rw[show a.eval (.tmp t)=a.tmps.getD t undef from rfl,k1]; exact hle,fun j z hz=>k2 j z hz⟩
  | const v=>
   obtain⟨k1,k2,_⟩:=fW (sQ g w (fun _ _=> .none) v) hc
   exact⟨by rw[show a.eval (.const v)=v from rfl,k1]; exact hle,fun j z hz=>k2 j z hz⟩
  | func f=>simp [ev,aT]at hc
  | global n=>simp [ev,aT]at hc
 let vs:List Value:=ps.map a.eval
 have hvs: ∀(i:Nat) x,ps[i]? =some x→vs[i]? =some (a.eval x):=fun i x hx=>by simp [vs,hx]
 obtain⟨r,f1,f2,_,f4⟩:=Jt ei.size vs 0 ((Array.range (n*info.size)).map ((if n*info.size=0 then(#[]:Array Value)else z0.cells)[· % (if n*info.size=0 then(#[]:Array Value)else z0.cells).size]!)) (fun v hv=>by
  obtain⟨x,hx,rfl⟩:=z51.1 hv; obtain⟨i,hi⟩:=z72 hx
  obtain⟨e,he⟩:=hpair i x hi; exact(hcs i x e hi he).1) (by simp [vs,q3,hlen])
 have hrsz:r.size=n*ei.size:=by rw[f2]; simp [q3]
 have hv:(execOp a.eval o).run P w= .ok (.value (.slice (some ⟨w.heap.size,0,none⟩) n n)) (w.alloc (.cells r e)):=by
  obtain⟨dst,op,ty,pos,after,guard⟩:=o; simp only at ho; subst ho; have hp2:(parts.map fun x=>(x.fst,a.eval x.snd)).toList=(vs.zipIdx 0).map fun p=>(p.2,p.1):=by
   rw[Array.toList_map,hparts]; simp [vs,List.zipIdx_map,Function.comp_def]
  have hnot: ¬ (n*info.size > 2 ^ 24):=by rw[q3]; omega
  simp only[execOp,Instr.buildSlice,Sem.run_bind,run_underlying hdt,Result.andThen_ok,sizeOf,typeInfo,run_program,q1,Sem.run_pure,z13 hnot,Sem.run_ite,zeroValue,q5]; rw[show(fun i=>some (i*ei.size,ei.size))=(fun i=>some (i*info.size,info.size))by rw[q3]]at f1
  by_cases h0:n*info.size=0
  ·rw[z19 h0]at f1 ⊢
   rw[hp2,f1]; rfl
  ·rw[z13 h0]at f1 ⊢
   rw[hp2,f1]; rfl
 refine⟨_,_,hv, .inl ⟨_,rfl,g.lit ps (.s d 0 0) w.heap.size, ?_⟩⟩
 rw[hd]; have hold: ∀b,b<w.heap.size→(w.alloc (.cells r e)).heap[b]? =w.heap[b]? :=mO w _; have hnew:(w.alloc (.cells r e)).heap[w.heap.size]? =some (.cells r e (0,0)):=heap_alloc_new w _; have hown: ∀b,b<w.heap.size→dD ps (g.own b)=false→(g.lit ps (.s d 0 0) w.heap.size).own b=g.own b:=by
  intro b hb hi; show(if b=w.heap.size then _ else if dD ps (g.own b)=true then _ else g.own b)=_
  rw[z13 (by omega),z13 (by rw[hi]; simp)]
 have hE:Evo g w (g.lit ps (.s d 0 0) w.heap.size) (w.alloc (.cells r e)) (fun l=>dD ps l=true):=⟨by simp,fun b hb hX=>⟨hown b hb (by simpa using hX),hold b hb⟩⟩
 have hZ: ∀b,frz g w b→frz (g.lit ps (.s d 0 0) w.heap.size) (w.alloc (.cells r e)) b∧(w.alloc (.cells r e)).heap[b]? =w.heap[b]? :=fun b hb=>⟨⟨by simp; have:=hb.1; omega,by rw[hown b hb.1 (by rw[hb.2]; rfl)]; exact hb.2⟩,hold b hb.1⟩
 have hok:GOk (g.lit ps (.s d 0 0) w.heap.size) (w.alloc (.cells r e)):=by
  refine⟨fun b hb=> ?_⟩
  by_cases eb:b=w.heap.size
  ·subst eb; simp
  ·have hb':(if b=w.heap.size then Loc.s d 0 0 else if dD ps (g.own b)=true then Loc.s d 0 0 else g.own b)≠ .none:=hb
   rw[z13 eb]at hb'; have:g.own b≠ .none:=by
    intro e2; rw[e2]at hb'; exact hb' (by rw[z13 (by simp [dD])])
   have:=hs.ok.own b this; simp; omega
 have hA: ∀b,all g w b→all (g.lit ps (.s d 0 0) w.heap.size) (w.alloc (.cells r e)) b∧(w.alloc (.cells r e)).heap[b]? =w.heap[b]? :=fun b hb=>⟨⟨by simp; have:=hb.1; omega,fun o=>by
  show(if b=w.heap.size then Loc.s d 0 0 else if dD ps (g.own b)=true then Loc.s d 0 0 else g.own b)≠ .obj o
  rw[z13 (by have:=hb.1; omega)]
  split
  ·simp
  ·exact hb.2 o⟩,hold b hb.1⟩
 have h1:=hs.lowT ps
 have hC:wT g w (g.lit ps (.s d 0 0) w.heap.size) (w.alloc (.cells r e)) (fun l=>dD ps l=true) (st.lowT ps):=
  ⟨hE,fun l hl=>⟨fun hf=>by rcases hf with h | h<;>(rw[h]at hl; simp [dD]at hl),(Loc.place_ne (AS hl)).2.2⟩, .inl hA,rfl,rfl,rfl,hok⟩
 have hnmax:n≤maxLen:=by
  have h1:n≤n*ei.size:=z153 n q8; simp only[maxLen]; omega
 have hLnew:(g.lit ps (.s d 0 0) w.heap.size).own w.heap.size= .s d 0 0:=by
  show(if w.heap.size=w.heap.size then _ else _)=_
  rw[z19 rfl]
 have hOw:Ow (frz (g.lit ps (.s d 0 0) w.heap.size) (w.alloc (.cells r e))) f (w.alloc (.cells r e)) (some ei.size) (fun b=>(g.lit ps (.s d 0 0) w.heap.size).own b= .s d 0 0) (.slice (some ⟨w.heap.size,0,none⟩) n n) (.sl es):=by
  refine .sl _ _ w.heap.size n n ei.size r e es (fun k=>match g.own k with | .s t 0 j=>(tIdx ps t,j) | _=>(0,0)) (fun i j=>(r[i*ei.size+j]?).getD undef) (by simp) hLnew hnew hel (z53 _) hnmax (fun i e' he'=>hl e' (bI he')) hrsz
   (fun i e' j x he' hx=> ?_) (fun i e' j x he' hx=> ?_)
  all_goals
   have hj:j<ei.size:=by have:=bW hx; have:=hl e' (bI he'); omega
   have hlt:=bW he'; have hp:ps[i]? =some (ps[i]'(by omega)):=z14 (by omega)
   obtain⟨c1,c2⟩:=hcs i _ e' hp he'; obtain⟨c,c3,c4,c5⟩:=c2 j x hx; have hrc:r[i*ei.size+j]? =some c:=by
    have:=f4 i _ j (hvs i _ hp) hj; rw[z32]at this; rw[this]; exact c3
   rw[hrc]
  ·rfl
  ·simp only[z63]
   have hkp:=hk _ (bI hp) j hj; refine c5.part hkp hZ (fun hh b hb=> ?_)
   generalize hpe:ps[i]'(by omega)=x at hp hb hh
   cases x with
   | tmp t'=>
    have hb':g.own b= .s t' 0 j:=hb; have hbs:b<w.heap.size:=hs.ok.own b (by rw[hb']; simp)
    refine⟨⟨?_,by omega, ?_⟩,hold b hbs⟩
    ·show(if b=w.heap.size then _ else if dD ps (g.own b)=true then _ else g.own b)=_
     rw[z13 (by omega),hb',z19 (Kb (bI hp))]
    ·simp only[hb']
     rw[QN hp (fun i' hi'=>hu i' i t' hi' hp)]
   | const v=>
    exfalso
    simp only[Cy,gH]at hh; revert hh
    split
    ·split<;>simp [K.hold]
    ·simp [K.hold]
   | func f=>simp [Cy,K.hold]at hh
   | global n=>simp [Cy,K.hold]at hh
 refine h1.put hC (fun _=>rfl) hn (fun l hkl ⟨y,hy⟩ _ hX=> ?_) ⟨⟨by simp,by simp⟩, ?_⟩ (fun h=>absurd rfl h)
 ·have hy':st.at l=some y:=hy
  rw[IE hy']at hkl; by_cases hh:(st.fl l).hold=true
  ·rw[z19 ⟨hX,hh⟩]at hkl; simp [K.hold]at hkl
  ·rw[z13 (fun h=>hh h.2)]at hkl; exact hh hkl
 ·show LF _ _ (if f then .U ei.size else .A ei.size) (.s d 0 0) _ (.sl es)
  cases f with
  | true=>
   show Ow _ true _ (gC ei.size) _ _ _; rw[oI q8]; exact hOw
  | false=>exact hOw

theorem Qg(hT:aY P τ){t e:TypeId}{ei:TI}{x y:Operand}{k k':IntKind}{n:Int}(hd:o.dst=some d)(hn:d<st.n)(ho:o.op= .makeSlice t x y)(ht:tk τ t=some (.sl e))(he:τ e=some ei)
  (hx:ev st.sl x= .one (.c (.int k n)))(hy:ev st.sl y= .one (.c (.int k' n)))(h0:0≤n)(h1:n≤maxLen)(hb:ei.bytes*n≤281474976710656):
  nL P g0 w0 o st (st.put d (.one (.c (.sl (List.replicate n.toNat ei.zero)))) (fun _ _=> .U ei.size)):=by
 intro a w ⟨g,hs⟩; obtain⟨info,de,z0,q1,q2,q3,q4,q5,q6,q7,q8,q9⟩:=hT.get he; obtain⟨dt,hdt,rfl⟩:=jI hT ht; obtain⟨ze,hz⟩:=gK q6; have hzs:z0.cells.size=ei.size:=by
  simp only[z47]at ze; omega
 have hmax:(maxLen:Int)≤9223372036854775807:=by simp only[maxLen]; omega
 have hv:(execOp a.eval o).run P w= .ok (.value (.slice (some ⟨w.heap.size,0,none⟩) n.toNat n.toNat)) (w.alloc (.cells (madeCells z0.cells (n.toNat*info.size)) e)):=by
  have ex:=hs.int hx; have ey:=hs.int hy; have hrun:=run_make (P:=P) w t e info z0 hdt q1 q5 k k' n n h0 (Pd _) (by rw[q4]; exact hb) (by omega)
  obtain⟨dst,op,ty,pos,after,guard⟩:=o; simp only at ho; subst ho; simp only[execOp,ex,ey,Sem.run_bind,hrun,Result.andThen_ok,Sem.run_pure]
 refine⟨_,_,hv, .inl ⟨_,rfl,{ β:=g.β,own:=fun b=>if b=w.heap.size then .s d 0 0 else g.own b }, ?_⟩⟩
 rw[hd]; generalize hw':w.alloc (.cells (madeCells z0.cells (n.toNat*info.size)) e)=w'; have hold: ∀b,b<w.heap.size→w'.heap[b]? =w.heap[b]? :=by rw[←hw']; exact mO w _
 have hnew:w'.heap[w.heap.size]? =some (.cells (madeCells z0.cells (n.toNat*info.size)) e (0,0)):=by rw[←hw']; exact heap_alloc_new w _
 have hsz':w'.heap.size=w.heap.size+1:=by rw[←hw']; simp
 have hown: ∀b,b<w.heap.size→(if b=w.heap.size then Loc.s d 0 0 else g.own b)=g.own b:=fun b hb=>z13 (by omega)
 have hC:wT g w { β:=g.β,own:=fun b=>if b=w.heap.size then .s d 0 0 else g.own b } w' (fun _=>False) st:=by
  refine⟨⟨by omega,fun b hb _=>⟨hown b hb,hold b hb⟩⟩,fun _ h=>h.elim, .inl fun b hb=>⟨⟨by have:=hb.1; omega,fun o=>by show(if b=w.heap.size then Loc.s d 0 0 else g.own b)≠_; rw[hown b hb.1]; exact hb.2 o⟩,hold b hb.1⟩,by rw[←hw']; rfl,by rw[←hw']; rfl,by rw[←hw']; rfl,⟨fun b hb=> ?_⟩⟩
  have hb':(if b=w.heap.size then Loc.s d 0 0 else g.own b)≠ .none:=hb
  by_cases e:b=w.heap.size
  ·omega
  ·rw[z13 e]at hb'
   have:=hs.ok.own b hb'; omega
 refine hs.put hC (fun _=>rfl) hn (fun _ _ _ _ h=>h) ⟨⟨by simp,by simp⟩, ?_⟩ (fun h=>absurd rfl h)
 show Ow _ true w' (gC ei.size) _ _ _; rw[oI q8]; refine .sl _ _ w.heap.size n.toNat n.toNat ei.size (madeCells z0.cells (n.toNat*info.size)) e _ (fun _=>(0,0)) (fun _ j=>z0.cells[j]!) (by simp) (by simp) hnew (by simp) (z53 _) (by omega) (fun i e' he'=> ?_) (by rw[size_madeCells,q3]) (fun i e' j x he' hx=> ?_) (fun i e' j x he' hx=> ?_)
 ·rw[z154]at he'
  split at he'<;>simp only[z10,reduceCtorEq]at he'
  subst he'; exact q7
 all_goals
  rw[z154]at he'
  split at he'<;>simp only[z10,reduceCtorEq]at he'
  rename_i hi; subst he'; have hj:j<ei.size:=by have:=bW hx; omega
  obtain⟨v,hv1,hv2⟩:=hz j x hx; have hzj:z0.cells[j]! =v:=by
   rw[z26]at hv1
   rw[getElem!_def,hv1]
 ·have hlt:=DN hi hj
  have hm:(i*ei.size+j) % z0.cells.size=j:=by rw[hzs,Nat.mul_comm,Nat.mul_add_mod]; exact Nat.mod_eq_of_lt hj
  simp only[madeCells,q3,Array.getElem?_map,Array.getElem?_range,hlt,if_true,z35,hm]
 ·rw[hzj]
  exact(oL hv2).2 _ _ _ _ _

def qQ(fs:List (Nat×Nat×Bool)):List T→List (Nat×V)→Option (List T)
 | cs,[]=>some cs
 | cs,(i,v)::r=>match fs[i]?,aT v with
  | some (off,size,_),some xs=>if xs.length=size∧off+size≤cs.length then qQ fs (cs.take off++xs++cs.drop (off+xs.length)) r else none
  | _,_=>none

def Ab(fs:List (Nat×Nat×Bool)):(Nat→K)→List (Nat×(Nat→K))→Nat→K
 | κ,[]=>κ
 | κ,(i,q)::r=>match fs[i]? with
  | some (off,size,_)=>Ab fs (fun j=>if off≤j∧j<off+size then q (j - off)else κ j) r
  | none=>κ

def AZ(fs:List (Nat×Nat×Bool))(k:Nat)(ps:List (Nat×Operand)):Prop:= ∀p∈ps, ∀off size b,fs[p.1]? =some (off,size,b)→k<off∨off+size≤k

theorem CO{g:G}{w:World}{fs:List (Nat×Nat×Bool)}{places:Array (Nat×Nat)}(hp: ∀(i off size:Nat) b,fs[i]? =some (off,size,b)→places[i]? =some (off,size)){ρ:Operand→Value}{ρV:Operand→V}{ρK:Operand→Nat→K}{lab:Nat→Loc}
  (hρ: ∀x xs (l:Nat→Nat→Loc),aT (ρV x)=some xs→RV g w (fun _=>ρK x) l (ρ x) (ρV x)):
  ∀(ps:List (Nat×Operand)) (cs:List T) (cv:Array Value) (κ:Nat→K) {rs:List T},qQ fs cs (ps.map fun p=>(p.1,ρV p.2))=some rs→cv.size=cs.length→(∀(j:Nat) x,cs[j]? =some x→ ∃c,cv[j]? =some c∧mL c∧LF g w (κ j) (lab j) c x)→
  ∃rv,Instr.fill (places[·]?) cv (ps.map fun p=>(p.1,ρ p.2))=some rv∧rv.size=rs.length∧(∀(j:Nat) x,rs[j]? =some x→ ∃c,rv[j]? =some c∧mL c∧LF g w (Ab fs κ (ps.map fun p=>(p.1,ρK p.2)) j) (lab j) c x)∧
   (∀k,AZ fs k ps→rv[k]? =cv[k]? ∧rs[k]? =cs[k]?)∧
   ∀(p i off size j:Nat) b x,ps[p]? =some (i,x)→fs[i]? =some (off,size,b)→j<size→AZ fs (off+j) (ps.drop (p+1))→rv[off+j]? =pR (ρ x) 0 j∧rs[off+j]? =(ρV x).leaf 0 j
 | [],cs,cv,κ,rs,h,hsz,hc=>by
  simp only[RO,qQ,z10]at h; subst h; exact⟨cv,rfl,hsz,hc,fun _ _=>⟨rfl,rfl⟩,fun p i off size j b x hx=>by simp at hx⟩
 | (i,x)::r,cs,cv,κ,rs,h,hsz,hc=>by
  simp only[z61]at h; unfold qQ at h; split at h
  ·rename_i off size b xs hf hxs
   split at h
   ·rename_i hle
    obtain⟨hl,hle⟩:=hle; subst hl; obtain⟨k1,k2,k3,k4,_⟩:=fW (hρ x xs (fun _ j=>lab (off+j)) hxs) hxs
    have hl2:(ρ x).cells.toList.length=xs.length:=by simpa using k1
    obtain⟨s1,s2⟩:=zE off (ρ x).cells.toList 0 cv (by rw[hl2,hsz]; omega)
    have hfold:(ρ x).cells.zipIdx.foldl (fun cs (x:Value×Nat)=>cs.setIfInBounds (off+x.2) x.1) cv=((ρ x).cells.toList.zipIdx 0).foldl (fun cs (x:Value×Nat)=>cs.setIfInBounds (off+x.2) x.1) cv:=by
     rw[←TO]; simp
    have hget: ∀k,((ρ x).cells.zipIdx.foldl (fun cs (x:Value×Nat)=>cs.setIfInBounds (off+x.2) x.1) cv)[k]? =if off≤k∧k<off+xs.length then(ρ x).cells[k - off]? else cv[k]? :=by
     intro k; rw[hfold,s2 k,hl2]; simp only[z69,z26]
    have hseg:=fun k=>pL cs xs off hle k
    obtain⟨rv,f1,f2,f3,f4,f5⟩:=CO hp hρ r (cs.take off++xs++cs.drop (off+xs.length)) ((ρ x).cells.zipIdx.foldl (fun cs (x:Value×Nat)=>cs.setIfInBounds (off+x.2) x.1) cv) (fun j=>if off≤j∧j<off+xs.length then ρK x (j - off)else κ j) h
     (by rw[hfold,s1,hsz]; simp only[z30,z38,z65]; omega) (fun j y hy=>by
      rw[hseg]at hy; rw[hget]; by_cases hin:off≤j∧j<off+xs.length
      ·rw[z19 hin]at hy ⊢
       obtain⟨c,c1,c2,c3⟩:=k2 _ y hy; refine⟨c,c1,c2, ?_⟩
       rw[show off+(j - off)=j by omega]at c3
       rw[z19 hin]; exact c3
      ·rw[z13 hin]at hy ⊢
       obtain⟨c,c1,c2,c3⟩:=hc _ y hy; exact⟨c,c1,c2,by rw[z13 hin]; exact c3⟩)
    refine⟨rv, ?_,f2,fun j y hy=> ?_,fun k hk=> ?_,fun p i' off' size' j b' x' hx' hf' hj hfr=> ?_⟩
    ·simp only[z61,Instr.fill,hp i off xs.length b hf,k1]
     have hnot: ¬ (decide (off+xs.length > cv.size)=true):=by simp; omega
     simp only[ne_eq,not_true_eq_false,decide_false,z54,hnot]; exact f1
    ·simp only[z61,Ab,hf]
     exact f3 j y hy
    ·have h1:=f4 k (fun p hp=>hk p (z25 _ hp))
     have h2:=hk (i,x) z29 off xs.length b hf; rw[hget,hseg,z13 (by omega),z13 (by omega)]at h1
     exact h1
    ·cases p with
     | zero=>
      simp only[z20,z10,z48]at hx'
      obtain⟨rfl,rfl⟩:=hx'; rw[hf]at hf'; simp only[z10,z48]at hf'; obtain⟨rfl,rfl,rfl⟩:=hf'; have h1:=f4 (off+j) (by simpa using hfr)
      rw[hget,hseg,z19 (by omega),z19 (by omega),z77]at h1
      rw[h1.1,h1.2,k3 j hj,k4 j]; exact⟨rfl,rfl⟩
     | succ p=>
      simp only[z23]at hx'
      exact f5 p i' off' size' j b' x' hx' hf' hj (by simpa using hfr)
   ·cases h
  ·cases h

theorem PA(hT:aY P τ){t:TypeId}{ti:TI}{fs:List (Nat×Nat×Bool)}{parts:Array (Nat×Operand)}{rs:List T}(M:List (Loc×Loc))(hd:o.dst=some d)(hn:d<st.n)(ho:o.op= .build t parts)(ht:τ t=some ti)(hk:ti.kind= .struct fs)
  (hr:qQ fs ti.zero (parts.toList.map fun p=>(p.1,ev st.sl p.2))=some rs)
  (hM: ∀m∈M, ∃(p i off size j t':Nat) (b:Bool),parts.toList[p]? =some (i,Operand.tmp t')∧fs[i]? =some (off,size,b)∧j<size∧AZ fs (off+j) (parts.toList.drop (p+1))∧m=(.s t' 0 j, .s d 0 (off+j))∧t'≠d∧ ∃y,st.at (.s t' 0 j)=some y):
  nL P g0 w0 o st ((st.put d (.one (.ag rs)) (fun _=>Ab fs (Bb ti.zero) (parts.toList.map fun p=>(p.1,opK st p.2 0)))).mvs M):=by
 intro a w ⟨g,hs⟩; obtain⟨info,dt,z,q1,q2,q3,q4,q5,q6,q7,q8,q9⟩:=hT.get ht; obtain⟨gs,hgs,hlen,hfld⟩:=CK hT (s:=t) (fs:=fs) (by unfold tk; rw[ht]; simp [hk])
 obtain⟨e,hz⟩:=gK q6; let places:Array (Nat×Nat):=gs.map fun f=>(f.offset,((P.info? f.type).map (·.size)).getD 0)
 have hp: ∀(i off size:Nat) b,fs[i]? =some (off,size,b)→places[i]? =some (off,size):=by
  intro i off size b hf; obtain⟨gf,inf,h1,h2,h3,h4,_⟩:=hfld i _ hf; simp [places,h1,h3,h2,h4]
 have hmapM:(gs.mapM fun f=>(do pure (f.offset, ←sizeOf f.type):Sem (Nat×Nat))).run P w= .ok places w:=by
  have gen: ∀(l:List Field),(∀f∈l, ∃inf,P.info? f.type=some inf)→(l.mapM fun f=>(do pure (f.offset, ←sizeOf f.type):Sem (Nat×Nat))).run P w= .ok (l.map fun f=>(f.offset,((P.info? f.type).map (·.size)).getD 0)) w:=by
   intro l; induction l with
   | nil=>intro _; rfl
   | cons f r ih=>
    intro h; obtain⟨inf,hi⟩:=h f z29; have hsz:(sizeOf f.type).run P w= .ok inf.size w:=by simp [sizeOf,typeInfo,hi]
    rw[List.mapM_cons]; simp only[Sem.run_bind,hsz,Result.andThen_ok,Sem.run_pure]; rw[ih (fun x hx=>h x (z25 _ hx))]
    simp [hi]
  have h:=gen gs.toList (fun f hf=>by
   obtain⟨i,hi⟩:=z72 hf
   have hlt:i<fs.length:=by have:=bW hi; rw[←hlen]; simpa using this
   obtain⟨gf,inf,h1,_,h3,_⟩:=hfld i _ (z14 hlt)
   rw[←z26,hi]at h1
   cases h1; exact⟨inf,h3⟩)
  rw[z140]; simp only[Sem.run_map,h,Result.andThen_ok]; congr 1
  apply LC
  simp [places]
 obtain⟨rv,f1,f2,f3,_,f5⟩:=CO (g:=g) (w:=w) (lab:=fun j=> .s d 0 j) hp (ρ:=a.eval) (ρV:=ev st.sl) (ρK:=fun x=>opK st x 0) (fun x xs l hc=>by
  have h1:=hs.ev_rv x l; cases hv:ev st.sl x with
  | one y=>rw[hv]at h1; exact h1
  | tup ws=>rw[hv]at hc; simp [aT]at hc) parts.toList ti.zero z.cells (Bb ti.zero) hr (by simpa using e) (fun j x hx=>by
  obtain⟨v,hv,hc⟩:=hz j x hx; obtain⟨c1,c2⟩:=oL hc; refine⟨v,by simpa using hv,(c1 (fun _=>False) w).not_agg, ?_⟩
  unfold Bb iO; rw[hx]; simp only; by_cases hsc:scal x=true
  ·rw[z19 hsc]; exact⟨hsc,c1 _ _⟩
  ·rw[z13 hsc]; exact zK hc (by simpa using hsc))
 have hv:(execOp a.eval o).run P w= .ok (.value (.agg rv)) w:=by
  obtain⟨dst,op,ty,pos,after,guard⟩:=o; simp only at ho; subst ho; have hp2:(parts.map fun x=>(x.fst,a.eval x.snd)).toList=parts.toList.map fun p=>(p.1,a.eval p.2):=by simp
  simp only[execOp,Instr.build,Sem.run_bind,zeroValue,typeInfo,run_program,Result.andThen_ok,q1,Sem.run_pure,q5,run_underlying hgs]; rw[hmapM]; simp only[Result.andThen_ok]; rw[hp2,f1]; rfl
 refine⟨_,w,hv, .inl ⟨_,rfl, ?_⟩⟩
 rw[hd]; have hd':d<a.tmps.size:=by rw[hs.size]; exact hn
 have h1:=hs.set hn (u:= .agg rv) (r:= .one (.ag rs)) (κ:=fun _=>Ab fs (Bb ti.zero) (parts.toList.map fun p=>(p.1,opK st p.2 0))) ⟨rv,rfl,f2,f3⟩ (fun h=>absurd rfl h)
 obtain⟨g',_,h2⟩:=h1.mvs M (fun m hm=>by
  obtain⟨p,i,off,size,j,t',b,e1,e2,e3,e4,rfl,e6,y,hy⟩:=hM m hm; obtain⟨v1,v2⟩:=f5 p i off size j b _ e1 e2 e3 e4; have e7:(st.put d (.one (.ag rs)) (fun _=>Ab fs (Bb ti.zero) (parts.toList.map fun p=>(p.1,opK st p.2 0)))).at (.s t' 0 j)=st.at (.s t' 0 j):=at_put (by simp [aS,e6])
  refine⟨rfl,rfl,by simp [e6], ?_,⟨y,by rw[e7]; exact hy⟩, ?_⟩
  ·rw[mP,e7]
   exact v2
  ·rw[yB (l:= .s t' 0 j) hd' (by simp [aS,e6])]
   simp only[vAt]; rw[Act.put_getD a d _ _ hd',z19 rfl]; exact v1)
 exact⟨g',h2⟩
end
end Go.Own

namespace Go.Own
open Go.RowKit

structure St.le (t s:St):Prop where
 n:t.n=s.n
 sl: ∀i,t.sl i= .one .junk∨t.sl i=s.sl i
 ob: ∀o,t.ob o=none∨t.ob o=s.ob o
 fl: ∀l x,t.at l=some x→(s.fl l).lo (t.fl l)=true
 cp: ∀i k xs,(t.sl i).comp k=some (.cp xs)→(s.fl (.s i k 0)).lo (t.fl (.s i k 0))=true
 pl: ∀i,aH (t.sl i)≠ .none→t.fl (.s i 0 0)≠ .D→s.fl (.s i 0 0)≠ .D∧ ∀y,s.at (aH (t.sl i))=some y→t.at (aH (t.sl i))=s.at (aH (t.sl i))∧(t.fl (aH (t.sl i))).hold=true

theorem bM.relax{g0:G}{w0:World}{s t:St}{a:Act}{g:G}{w:World}(h:bM g0 w0 s a g w)(hle:t.le s):bM g0 w0 t a g w:=by
 refine⟨h.framed,h.ok,by rw[hle.n]; exact h.size,h.defers,fun i=> ?_,fun o cells hc=> ?_,fun i hi hf=> ?_,h.bp,by rw[hle.n]; exact h.nle⟩
 ·rcases hle.sl i with e | e
  ·rw[e]; trivial
  ·have hs:=h.slots i
   have hat: ∀k j x,(t.sl i).leaf k j=some x→t.at (.s i k j)=some x:=fun k j x hx=>hx
   have hcp:=hle.cp i; rw[e]at hat hcp ⊢; exact hs.map (fun _=>rfl) (fun k j x u hx hu _ hf=>hf.lo h.ok rfl (hle.fl _ _ (hat k j x hx))) (fun k xs hx b off hc=>hc.lo (hcp k xs hx))
 ·rcases hle.ob o with e | e
  ·rw[e]at hc; cases hc
  ·have hc':s.ob o=some cells:=by rw[←e]; exact hc
   obtain⟨arr,ty,h1,h2,h3,h4⟩:=h.obs o cells hc'; refine⟨arr,ty,h1,h2,h3,fun j x hx=> ?_⟩
   obtain⟨c,c1,c2,c3⟩:=h4 j x hx; refine⟨c,c1,c2,c3.lo h.ok rfl (hle.fl _ x ?_)⟩
   rw[St.at_oc,hc]; exact hx
 ·obtain⟨p1,p23⟩:=hle.pl i hi hf
  rcases hle.sl i with e | e
  ·rw[e]at hi; exact absurd rfl hi
  ·rw[e]at hi p23 ⊢
   obtain⟨q1,q2⟩:=h.pls i hi p1; obtain⟨y,hy⟩:=q2.root hi; obtain⟨p2,p3⟩:=p23 y hy; refine⟨p3, ?_⟩
   exact q2.congr rfl p2 (fun _ _ _ _ _ _ _ h=>h)

theorem Sim.relax{g0:G}{w0:World}{s t:St}{a:Act}{w:World}(h:Sim g0 w0 s a w)(hle:t.le s):Sim g0 w0 t a w:=by
 obtain⟨g,h⟩:=h; exact⟨g,h.relax hle⟩

theorem nL.relax{P:Program}{g0:G}{w0:World}{o:Oper}{st s t:St}(h:nL P g0 w0 o st s)(hle:t.le s):nL P g0 w0 o st t:=by
 intro a w hs; obtain⟨r,w',h1,h2⟩:=h a w hs; refine⟨r,w',h1, ?_⟩
 rcases h2 with⟨v,e,h2⟩ | ⟨e,h2⟩
 ·exact .inl ⟨v,e,h2.relax hle⟩
 ·exact .inr ⟨e,h2.relax hle⟩

def mvK:List (Loc×Loc)→(Loc→K)→Loc→K
 | [],f=>f
 | (a,b)::r,f=>mvK r (fun m=>if m=b then f a else if m=a then(f a).cp else f m)

theorem Ts(M:List (Loc×Loc)): ∀(st:St),(st.mvs M).sl=st.sl:=by
 induction M with
 | nil=>intro st; rfl
 | cons m r ih=>intro st; exact(ih _).trans rfl

theorem Tt(M:List (Loc×Loc)): ∀(st:St),(st.mvs M).ob=st.ob:=by
 induction M with
 | nil=>intro st; rfl
 | cons m r ih=>intro st; exact(ih _).trans rfl

theorem Tu(M:List (Loc×Loc)): ∀(st:St),(st.mvs M).n=st.n:=by
 induction M with
 | nil=>intro st; rfl
 | cons m r ih=>intro st; exact(ih _).trans rfl

theorem Mc(M:List (Loc×Loc)): ∀ {f f':Loc→K} {l:Loc},f l=f' l→(∀m∈M,f m.1=f' m.1∧f m.2=f' m.2)→mvK M f l=mvK M f' l:=by
 induction M with
 | nil=>intro f f' l h _; exact h
 | cons m r ih=>
  intro f f' l h hM; obtain⟨a,b⟩:=m; have ha:f a=f' a:=(hM (a,b) z29).1; have key: ∀m,f m=f' m→(if m=b then f a else if m=a then(f a).cp else f m)=(if m=b then f' a else if m=a then(f' a).cp else f' m):=fun m hm=>by rw[ha,hm]
  exact ih (key l h) (fun m' hm'=>by
   obtain⟨h1,h2⟩:=hM m' (z25 _ hm'); exact⟨key _ h1,key _ h2⟩)

theorem Tv(M:List (Loc×Loc)): ∀ {st:St} {l:Loc} {x:T},st.at l=some x→(∀m∈M,(∃y,st.at m.1=some y)∧(∃y,st.at m.2=some y))→(∀m∈M,m.1≠ .none∧m.2≠ .none)→(st.mvs M).fl l=mvK M st.fl l:=by
 induction M with
 | nil=>intro st l x _ _ _; rfl
 | cons m r ih=>
  intro st l x hx hM hn; obtain⟨a,b⟩:=m; have hn1:=hn (a,b) z29; have hR:(fun m=>decide (m=a)||decide (m=b)) Loc.none=false:=by simp [Ne.symm hn1.1,Ne.symm hn1.2]
  have hfl: ∀m y,st.at m=some y→(st.mv a b).fl m=(if m=b then st.fl a else if m=a then(st.fl a).cp else st.fl m):=fun m y hy=>uN hR hy
  rw[St.mvs,ih (st:=st.mv a b) (x:=x) hx (fun m' hm'=>hM m' (z25 _ hm')) (fun m' hm'=>hn m' (z25 _ hm'))]
  refine Mc r (hfl l x hx) (fun m' hm'=> ?_)
  obtain⟨⟨y1,h1⟩,⟨y2,h2⟩⟩:=hM m' (z25 _ hm'); exact⟨hfl _ y1 h1,hfl _ y2 h2⟩

theorem Ig(M:List (Loc×Loc)): ∀ {st:St} {i k j:Nat},(∀m∈M,aH (st.sl i)≠m.1∧aH (st.sl i)≠m.2)→(∀m∈M,Loc.s i k j≠m.1∧Loc.s i k j≠m.2)→(st.mvs M).fl (.s i k j)=st.fl (.s i k j):=by
 induction M with
 | nil=>intro st i k j _ _; rfl
 | cons m r ih=>
  intro st i k j h1 h2; obtain⟨a,b⟩:=m; rw[St.mvs,ih (st:=st.mv a b) (fun m' hm'=>h1 m' (z25 _ hm')) (fun m' hm'=>h2 m' (z25 _ hm'))]
  obtain⟨e1,e2⟩:=h1 (a,b) z29; obtain⟨e3,e4⟩:=h2 (a,b) z29; simp only at e1 e2 e3 e4; simp [St.mv,St.setf,e1,e2,e3,e4]

theorem Qd(M:List (Loc×Loc)): ∀ {f:Loc→K} {l:Loc},(∀m∈M,l≠m.1∧l≠m.2)→mvK M f l=f l:=by
 induction M with
 | nil=>intro f l _; rfl
 | cons m r ih=>
  intro f l h; obtain⟨a,b⟩:=m; obtain⟨e1,e2⟩:=h (a,b) z29; simp only at e1 e2; rw[mvK,ih (fun m' hm'=>h m' (z25 _ hm')),z13 e2,z13 e1]

end Go.Own

namespace Go.Own
open Go.RowKit

structure D where
  sl:Nat→V
  ob:Rg

def D.put(x:D)(d:Nat)(v:V):D:= { x with sl:=fun i=>if i=d then v else x.sl i }
def D.setO(x:D)(o:Nat)(cs:List T):D:= { x with ob:=fun o'=>if o'=o then some cs else x.ob o' }
def D.at(x:D)(l:Loc):Option T:=atL x.sl x.ob l

def bP:W→W→Bool
  | .junk, .junk=>false
  | .c x, .c y=>qX x y
  | .ag xs, .ag ys=>eH xs ys
  | .ptr o p, .ptr o' p'=>Nat.beq o o'&&Nat.beq p p'
  | .cp xs, .cp ys=>eH xs ys
  | .pp l p _ j, .pp l' p' _ j'=>decide (l=l')&&Nat.beq p.length p'.length&&Nat.beq j j'
  | .al l p, .al l' p'=>decide (l=l')&&Nat.beq p.length p'.length
  | .nilp, .nilp=>true
  | .nilp, .ptr _ _=>true
  | .nilp, .cp _=>true
  | .ifc _, .ifc _=>true
  | .fn f cs, .fn f' cs'=>Nat.beq f f'&&decide (cs=cs')
  | _,_=>false
def lG:List W→List W→Bool
  | [],[]=>true
  | x::xs,y::ys=>bP x y&&lG xs ys
  | _,_=>false
def fits:V→V→Bool
  | .one x, .one y=>bP x y
  | .tup xs, .tup ys=>lG xs ys
  | _,_=>false

structure FA where
  n:Nat
  sh:List V
  obs:List (Nat×List T)
  al:List Nat:=[]
  tk:List Nat:=[]
  dp:List Nat:=[]
  keep:List (Nat×List Nat):=[]
  fz:List Nat:=[]
  fx:List (Nat×Nat):=[]
  nw:List Nat:=[]
  n0:Option Nat:=none
  io:Option Nat:=none
  ioa:List Nat:=[]
  mks:List (Nat×List (Nat×Nat)):=[]
  lb:Option (List (List (List K))×List (List K)×Bool):=none

def cQ{α:Type}(i:Nat):List (Nat×α)→Option α
  | []=>none
  | (j,a)::r=>bif Nat.beq i j then some a else cQ i r

def FA.shOf(F:FA)(i:Nat):V:=match F.sh[i]? with | some v=>v | none=> .one .junk
def FA.obOf(F:FA)(o:Nat):List T:=match cQ o F.obs with | some v=>v | none=> []

structure B where
  sl:List (Nat×List (List K))
  ob:List (Nat×List K)

def AU(κ:List (List K))(k j:Nat):Option K:=match κ[k]? with | some r=>r[j]? | none=>none
def B.get(b:B):Loc→Option K
  | .s i k j=>match cQ i b.sl with | some κ=>AU κ k j | none=>none
  | .oc o j=>match cQ o b.ob with | some r=>r[j]? | none=>none
  | _=>none
def B.kd(b:B)(l:Loc):K:=match b.get l with | some q=>q | none=> .D
def B.has(b:B)(i:Nat):Bool:=(cQ i b.sl).isSome
def B.hasO(b:B)(o:Nat):Bool:=(cQ o b.ob).isSome
def B.hasL(b:B):Loc→Bool
  | .s i _ _=>b.has i
  | .oc o _=>b.hasO o
  | _=>false

def B.S(n:Nat)(b:B)(x:D):St:=
  { n:=n
    sl:=fun i=>if b.has i then x.sl i else .one .junk
    ob:=fun o=>if b.hasO o then x.ob o else none
    fl:=b.kd }

structure Ag (F:FA) (b:B) (x:D):Prop where
  sl: ∀i,b.has i=true→x.sl i= .tup []∨fits (x.sl i) (F.shOf i)=true
  ob: ∀o,b.hasO o=true→ ∃cs,x.ob o=some cs∧eH cs (F.obOf o)=true

theorem wM{α β:Type}(f:Nat→α→β)(i:Nat): ∀l:List (Nat×α),cQ i (l.map fun p=>(p.1,f p.1 p.2))=(cQ i l).map (f i)
  | []=>rfl
  | (j,a)::r=>by
    simp only[z61,cQ]; cases h:Nat.beq i j with
    | true=>have:=z16 h; subst this; rfl
    | false=>exact wM f i r

theorem dQ{α:Type}(p:Nat→Bool)(i:Nat): ∀l:List (Nat×α),cQ i (l.filter fun q=>p q.1)=if p i=true then cQ i l else none
  | []=>by simp [cQ]
  | (j,a)::r=>by
    simp only[List.filter_cons]; by_cases hj:p j=true
    · simp only[z19 hj,cQ]
      cases h:Nat.beq i j with
      | true=>have:=z16 h; subst this; simp [hj]
      | false=>simpa using dQ p i r
    · simp only[z13 hj,cQ]
      rw[dQ p i r]; cases h:Nat.beq i j with
      | true=>have:=z16 h; subst this; simp [hj]
      | false=>rfl

def tD(f:Nat→K→K):Nat→List K→List K
  | _,[]=> []
  | j,q::r=>f j q::tD f (j+1) r
def qS(f:Nat→Nat→K→K):Nat→List (List K)→List (List K)
  | _,[]=> []
  | k,q::r=>tD (f k) 0 q::qS f (k+1) r

theorem zG(f:Nat→K→K): ∀(l:List K) (j0 j:Nat),(tD f j0 l)[j]? =(l[j]?).map (f (j0+j))
  | [],_,_=>by simp [tD]
  | q::r,j0,0=>by simp [tD]
  | q::r,j0,j+1=>by simp only[tD,z23]; rw[zG f r (j0+1) j]; congr 2; omega

theorem CH(f:Nat→Nat→K→K): ∀(l:List (List K)) (k0 k:Nat),(qS f k0 l)[k]? =(l[k]?).map (fun r=>tD (f (k0+k)) 0 r)
  | [],_,_=>by simp [qS]
  | q::r,k0,0=>by simp [qS]
  | q::r,k0,k+1=>by simp only[qS,z23]; rw[CH f r (k0+1) k]; congr 2; funext; congr 2; omega

theorem HP(f:Nat→Nat→K→K)(κ:List (List K))(k j:Nat):AU (qS f 0 κ) k j=(AU κ k j).map (f k j):=by
  simp only[AU,CH,z32]; cases κ[k]? with
  | none=>rfl
  | some r=>simp only[z35,zG,z32]

def B.mapK(f:Loc→K→K)(b:B):B:=
  { sl:=b.sl.map fun p=>(p.1,qS (fun k j=>f (.s p.1 k j)) 0 p.2),ob:=b.ob.map fun p=>(p.1,tD (fun j=>f (.oc p.1 j)) 0 p.2) }

theorem FD(f:Loc→K→K)(b:B)(l:Loc):(b.mapK f).get l=(b.get l).map (f l):=by
  cases l with
  | s i k j=>
    simp only[B.get,B.mapK]; rw[wM (fun i κ=>qS (fun k j=>f (.s i k j)) 0 κ)]
    cases cQ i b.sl with
    | none=>rfl
    | some κ=>simp only[z35,HP]
  | oc o j=>
    simp only[B.get,B.mapK]; rw[wM (fun o r=>tD (fun j=>f (.oc o j)) 0 r)]
    cases cQ o b.ob with
    | none=>rfl
    | some r=>simp only[z35,zG,z32]
  | _=>rfl

theorem Jf(f:Loc→K→K)(b:B)(i:Nat):(b.mapK f).has i=b.has i:=by
  simp only[B.has,B.mapK]; rw[wM (fun i κ=>qS (fun k j=>f (.s i k j)) 0 κ)]
  cases cQ i b.sl<;>rfl

theorem Gk(f:Loc→K→K)(b:B)(o:Nat):(b.mapK f).hasO o=b.hasO o:=by
  simp only[B.hasO,B.mapK]; rw[wM (fun o r=>tD (fun j=>f (.oc o j)) 0 r)]
  cases cQ o b.ob<;>rfl

theorem Lt(f:Loc→K→K)(b:B)(l:Loc):(b.mapK f).kd l=match b.get l with | some q=>f l q | none=> .D:=by
  simp only[B.kd,FD]; cases b.get l<;>rfl

def B.filt(p:Nat→Bool)(b:B):B:= { b with sl:=b.sl.filter fun q=>p q.1 }
theorem dT(p:Nat→Bool)(b:B)(i:Nat):(b.filt p).has i=(p i&&b.has i):=by
  simp only[B.has,B.filt]; rw[dQ p i b.sl]; cases p i<;>simp
theorem xF(p:Nat→Bool)(b:B)(o:Nat):(b.filt p).hasO o=b.hasO o:=rfl
theorem wS(p:Nat→Bool)(b:B)(l:Loc):(b.filt p).get l=match l with | .s i _ _=>if p i=true then b.get l else none | _=>b.get l:=by
  cases l with
  | s i k j=>
    simp only[B.get,B.filt]; rw[dQ p i b.sl]; by_cases h:p i=true
    · rw[z19 h,z19 h]
    · rw[z13 h,z13 h]
  | _=>rfl

theorem fF{p:Nat→Bool}{b:B}{i k j:Nat}(h:p i=true):(b.filt p).kd (.s i k j)=b.kd (.s i k j):=by
  simp only[B.kd,wS,z19 h]
theorem EP{p:Nat→Bool}{b:B}{o j:Nat}:(b.filt p).kd (.oc o j)=b.kd (.oc o j):=by
  simp only[B.kd,wS]

def Nl(f:Nat→K):Nat→List T→List K
  | _,[]=> []
  | j,_::r=>f j::Nl f (j+1) r
def yZ(f:Nat→K):W→List K
  | .ag xs=>Nl f 0 xs
  | _=> [f 0]
def yE(f:Nat→Nat→K):Nat→List W→List (List K)
  | _,[]=> []
  | k,x::r=>yZ (f k) x::yE f (k+1) r
def nS(v:V)(f:Nat→Nat→K):List (List K):=match v with
  | .one w=> [yZ (f 0) w]
  | .tup ws=>yE f 0 ws

theorem Ad(f:Nat→K): ∀(l:List T) (j0 j:Nat),(Nl f j0 l)[j]? =if j<l.length then some (f (j0+j))else none
  | [],_,_=>by simp [Nl]
  | _::r,j0,0=>by simp [Nl]
  | _::r,j0,j+1=>by
    simp only[Nl,z23,z43]
    rw[Ad f r (j0+1) j,show j0+1+j=j0+(j+1)by omega]
    by_cases h:j<r.length
    · rw[z19 h,z19 (by omega)]
    · rw[z13 h,z13 (by omega)]

theorem vX(f:Nat→Nat→K): ∀(l:List W) (k0 k:Nat),(yE f k0 l)[k]? =(l[k]?).map (yZ (f (k0+k)))
  | [],_,_=>by simp [yE]
  | x::r,k0,0=>by simp [yE]
  | x::r,k0,k+1=>by simp only[yE,z23]; rw[vX f r (k0+1) k,show k0+1+k=k0+(k+1)by omega]

theorem xI{xs ys:List T}(h:eH xs ys=true):xs.length=ys.length:=(qN h).1

theorem EJ{x y:W}(h:bP x y=true)(f:Nat→K)(j:Nat):(∀t,x.leaf j=some t→(yZ f y)[j]? =some (f j))∧(∀q,(yZ f y)[j]? =some q→q=f j):=by
  have h1: ∀z:W,(∀ys,z≠ .ag ys)→yZ f z=[f 0]:=by intro z hz; cases z<;>first | rfl | exact absurd rfl (hz _)
  have h2: ∀q,[f 0][j]? =some q→q=f j:=by
    intro q hq; cases j with
    | zero=>simpa using hq.symm
    | succ j=>simp at hq
  refine⟨fun t ht=> ?_,fun q hq=> ?_⟩
  · cases x with
    | c a=>
      cases y<;>simp [bP]at h
      cases j with
      | zero=>rfl
      | succ j=>simp [W.leaf]at ht
    | ag xs=>
      cases y<;>simp [bP]at h
      simp only[yZ,Ad,z32]; rw[z19]; rw[←xI h]; exact bW ht
    | _=>simp [W.leaf]at ht
  · by_cases ha: ∃ys,y= .ag ys
    · obtain⟨ys,rfl⟩:=ha
      simp only[yZ,Ad,z32]at hq; split at hq<;>simp at hq
      exact hq.symm
    · rw[h1 y (fun ys e=>ha ⟨ys,e⟩)]at hq
      exact h2 q hq

theorem zH: ∀ {xs ys:List W},lG xs ys=true→ ∀ {k:Nat} {x:W},xs[k]? =some x→ ∃y,ys[k]? =some y∧bP x y=true
  | [],_,_,_,_,h=>by simp at h
  | x::xs,[],h,_,_,_=>by simp [lG]at h
  | x::xs,y::ys,h,0,_,hk=>by
    simp only[lG,z7]at h; simp only[z20,z10]at hk
    subst hk; exact⟨y,rfl,h.1⟩
  | x::xs,y::ys,h,k+1,_,hk=>by
    simp only[lG,z7]at h; simp only[z23]at hk ⊢
    exact zH h.2 hk

theorem AQ{v s:V}(h:fits v s=true)(f:Nat→Nat→K){k j:Nat}{x:T}(hx:v.leaf k j=some x):AU (nS s f) k j=some (f k j):=by
  cases v with
  | one w=>
    cases s with
    | tup ws=>simp [fits]at h
    | one y=>
      cases k with
      | succ k=>simp [V.leaf]at hx
      | zero=>simp only[AU,nS,z20]; exact(EJ h (f 0) j).1 x hx
  | tup ws=>
    cases s with
    | one y=>simp [fits]at h
    | tup ys=>
      simp only[V.leaf,z18]at hx; obtain⟨w,hw,hx⟩:=hx; obtain⟨y,hy,hf⟩:=zH h hw; simp only[AU,nS,vX,z32,hy,z35]; exact(EJ hf (f k) j).1 x hx

theorem Js{xs:List T}{y:W}(h:bP (.cp xs) y=true): ∃ys,y= .cp ys:=by cases y<;>simp [bP]at h; exact⟨_,rfl⟩

theorem EK{v s:V}(h:fits v s=true)(f:Nat→Nat→K){k:Nat}{xs:List T}(hx:v.comp k=some (.cp xs)):AU (nS s f) k 0=some (f k 0):=by
  cases v with
  | one w=>
    cases s with
    | tup ws=>simp [fits]at h
    | one y=>
      cases k with
      | succ k=>simp [V.comp]at hx
      | zero=>
        simp only[V.comp,z10]at hx; subst hx; obtain⟨ys,rfl⟩:=Js h; rfl
  | tup ws=>
    cases s with
    | one y=>simp [fits]at h
    | tup ys=>
      simp only[V.comp]at hx; obtain⟨y,hy,hf⟩:=zH h hx; obtain⟨zs,rfl⟩:=Js hf; simp only[AU,nS,vX,z32,hy,z35]; rfl

theorem dK{v s:V}(h:fits v s=true):aH v=aH s:=by
  cases v with
  | tup ws=>cases s with
    | one y=>simp [fits]at h
    | tup ys=>rfl
  | one w=>
    cases s with
    | tup ws=>simp [fits]at h
    | one y=>
      cases w<;>cases y<;>simp [fits,bP]at h<;>first | rfl | exact h.1 | exact h.1.1

theorem HS{v s:V}(h:fits v s=true)(f:Nat→Nat→K)(hr:aH v≠ .none):AU (nS s f) 0 0=some (f 0 0):=by
  rw[dK h]at hr; cases s with
  | tup ws=>exact absurd rfl hr
  | one y=>cases y<;>first | rfl | exact absurd rfl hr
end Go.Own

namespace Go.Own
open Go.RowKit

theorem cV(q:K):q.lo q=true:=by cases q<;>simp [K.lo]
theorem GQ(q:K):q.lo .D=true:=by cases q<;>rfl
theorem lo_cp{a b:K}(h:a.lo b=true):a.cp.lo b.cp=true:=by
 cases a<;>cases b<;>simp_all [K.lo,K.cp]

structure Low (n:Nat) (b:B) (x:D) (s:St):Prop where
 n:s.n=n
 sl: ∀i,b.has i=true→s.sl i=x.sl i
 ob: ∀o,b.hasO o=true→s.ob o=x.ob o
 fl: ∀l t,b.hasL l=true→x.at l=some t→(s.fl l).lo (b.kd l)=true
 cp: ∀i k xs,b.has i=true→(x.sl i).comp k=some (.cp xs)→(s.fl (.s i k 0)).lo (b.kd (.s i k 0))=true
 al: ∀i,b.has i=true→aH (x.sl i)≠ .none→b.kd (.s i 0 0)≠ .D→s.fl (.s i 0 0)≠ .D

theorem Low.self(n:Nat)(b:B)(x:D):Low n b x (b.S n x):=
 ⟨rfl,fun i h=>by simp only[B.S]; rw[z19 h],fun o h=>by simp only[B.S]; rw[z19 h],fun _ _ _ _=>cV _,fun _ _ _ _ _=>cV _,fun _ _ _ h=>h⟩

theorem PY{b:B}{l:Loc}(h:b.hasL l=false):b.kd l= .D:=by
 cases l with
 | s i k j=>
  simp only[B.hasL,B.has,z134,z83]at h; simp only[B.kd,B.get,h]
 | oc o j=>
  simp only[B.hasL,B.hasO,z134,z83]at h; simp only[B.kd,B.get,h]
 | _=>rfl

theorem S_at{n:Nat}{b:B}{x:D}{l:Loc}{t:T}(h:(b.S n x).at l=some t):b.hasL l=true∧x.at l=some t:=by
 cases l with
 | s i k j=>
  simp only[St.at,atL,B.S]at h; by_cases e:b.has i=true
  ·rw[z19 e]at h; exact⟨e,h⟩
  ·rw[z13 e]at h
   cases k with
   | zero=>simp [V.leaf,W.leaf]at h
   | succ k=>simp [V.leaf]at h
 | oc o j=>
  simp only[St.at,atL,B.S]at h; by_cases e:b.hasO o=true
  ·rw[z19 e]at h; exact⟨e,h⟩
  ·rw[z13 e]at h; simp at h
 | _=>simp [St.at,atL]at h

theorem Hr{n:Nat}{b:B}{x:D}{l:Loc}(h:b.hasL l=true):(b.S n x).at l=x.at l:=by
 cases l with
 | s i k j=>have h:b.has i=true:=h; simp only[St.at,D.at,atL,B.S]; rw[z19 h]
 | oc o j=>have h:b.hasO o=true:=h; simp only[St.at,D.at,atL,B.S]; rw[z19 h]
 | _=>cases h

def B.nrm(F:FA)(b:B):B:=b.filt fun i=>match aH (F.shOf i)with | .none=>true | l=>b.hasL l&&(b.kd l).hold

theorem Ag.filt{F:FA}{b:B}{x:D}(h:Ag F b x)(p:Nat→Bool):Ag F (b.filt p) x:=
 ⟨fun i hi=>h.sl i (by rw[dT]at hi; simp only[z7]at hi; exact hi.2),h.ob⟩

theorem Ag.nrm{F:FA}{b:B}{x:D}(h:Ag F b x):Ag F (b.nrm F) x:=h.filt _

theorem Ag.leaf_root{F:FA}{b:B}{x:D}(hA:Ag F b x){i k j:Nat}{t:T}(hi:b.has i=true)(hx:(x.sl i).leaf k j=some t):aH (F.shOf i)= .none:=by
 rcases hA.sl i hi with e | e
 ·rw[e]at hx
  cases k with
  | zero=>simp [V.leaf,W.leaf]at hx
  | succ k=>simp [V.leaf]at hx
 ·rw[←dK e]
  cases hv:x.sl i with
  | tup ws=>rfl
  | one w=>
   cases k with
   | zero=>cases w<;>first | rfl | (rw[hv]at hx; simp [V.leaf,W.leaf]at hx)
   | succ k=>rw[hv]at hx; simp [V.leaf]at hx

def JG(F:FA)(b:B)(i:Nat):Bool:=match aH (F.shOf i)with | .none=>true | l=>b.hasL l&&(b.kd l).hold

theorem vM(F:FA)(b:B):b.nrm F=b.filt (JG F b):=rfl

theorem Bk{F:FA}{b:B}{i:Nat}(h:aH (F.shOf i)= .none):JG F b i=true:=by simp only[JG,h]
theorem Mb{F:FA}{b:B}{i:Nat}(h:aH (F.shOf i)≠ .none)(hp:JG F b i=true):b.hasL (aH (F.shOf i))=true∧(b.kd (aH (F.shOf i))).hold=true:=by
 unfold JG at hp; split at hp
 ·rename_i e; exact absurd e h
 ·simpa using hp

theorem Low.le{F:FA}{n:Nat}{b:B}{x:D}{s:St}(hA:Ag F b x)(h:Low n b x s):((b.nrm F).S n x).le s:=by
 have hhas: ∀i,(b.nrm F).has i=true→b.has i=true∧JG F b i=true:=fun i hi=>by
  rw[vM,dT]at hi; simpa [and_comm]using hi
 have hhasO: ∀o,(b.nrm F).hasO o=b.hasO o:=fun o=>rfl
 have hkd: ∀i k j,JG F b i=true→(b.nrm F).kd (.s i k j)=b.kd (.s i k j):=fun i k j hp=>by rw[vM]; exact fF hp
 refine⟨h.n.symm,fun i=> ?_,fun o=> ?_,fun l t ht=> ?_,fun i k xs hx=> ?_,fun i hi hf=> ?_⟩
 ·simp only[B.S]
  by_cases e:(b.nrm F).has i=true
  ·rw[z19 e]; exact .inr (h.sl i (hhas i e).1).symm
  ·rw[z13 e]; exact .inl rfl
 ·simp only[B.S]
  by_cases e:(b.nrm F).hasO o=true
  ·rw[z19 e]; exact .inr (h.ob o (by rw[←hhasO]; exact e)).symm
  ·rw[z13 e]; exact .inl rfl
 ·obtain⟨h1,h2⟩:=S_at ht
  show(s.fl l).lo ((b.nrm F).kd l)=true; cases l with
  | s i k j=>
   obtain⟨q1,q2⟩:=hhas i h1; rw[hkd i k j q2]; exact h.fl _ t q1 h2
  | oc o j=>exact h.fl (.oc o j) t h1 h2
  | _=>exact GQ _
 ·simp only[B.S]at hx
  by_cases e:(b.nrm F).has i=true
  ·rw[z19 e]at hx
   obtain⟨q1,q2⟩:=hhas i e; show(s.fl (.s i k 0)).lo ((b.nrm F).kd (.s i k 0))=true; rw[hkd i k 0 q2]; exact h.cp i k xs q1 hx
  ·rw[z13 e]at hx
   cases k<;>simp [V.comp]at hx
 ·simp only[B.S]at hi
  by_cases e:(b.nrm F).has i=true
  ·rw[z19 e]at hi
   obtain⟨q1,q2⟩:=hhas i e; have hf':b.kd (.s i 0 0)≠ .D:=by rw[←hkd i 0 0 q2]; exact hf
   have hsl:((b.nrm F).S n x).sl i=x.sl i:=by simp only[B.S]; rw[z19 e]
   have hroot:aH (x.sl i)=aH (F.shOf i):=by
    rcases hA.sl i q1 with e2 | e2
    ·rw[e2]at hi; exact absurd rfl hi
    ·exact dK e2
   obtain⟨r1,r2⟩:=Mb (by rw[←hroot]; exact hi) q2
   rw[←hroot]at r1 r2; rw[hsl]; refine⟨h.al i q1 hi hf',fun y hy=> ?_⟩
   generalize hl:aH (x.sl i)=l at r1 r2 hy; cases l with
   | s i' k' j'=>
    have h1:b.has i'=true:=r1; have hy':(x.sl i').leaf k' j'=some y:=by rw[←h.sl i' h1]; exact hy
    have h2:JG F b i'=true:=Bk (hA.leaf_root h1 hy'); have h3:(b.nrm F).has i'=true:=by rw[vM,dT,h1,h2]; rfl
    refine⟨?_, ?_⟩
    ·rw[Hr (show(b.nrm F).hasL (.s i' k' j')=true from h3),St.at_s,h.sl i' h1]; rfl
    ·show((b.nrm F).kd (.s i' k' j')).hold=true
     rw[hkd i' k' j' h2]; exact r2
   | oc o' j'=>
    refine⟨?_,r2⟩
    rw[Hr (show(b.nrm F).hasL (.oc o' j')=true from r1),St.at_oc,h.ob o' r1]; rfl
   | _=>simp [B.hasL]at r1
  ·rw[z13 e]at hi; exact absurd rfl hi
end Go.Own
