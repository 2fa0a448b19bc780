/- A calculus for runs on plain data (part 1): whoever runs code on data, with its owners checked, runs the program. No conditions. -/
import Derived.Below
import Derived.Laws.AppendOwn
import Derived.Laws.BytesString
import Derived.Laws.Cells
import Derived.Laws.Entries
import Derived.Laws.MakeOwn
import Derived.Laws.OwnMore
import Derived.Laws.Pointers
import Derived.Laws.Rows
import Derived.Laws.Slices
import Derived.Laws.Small
import Derived.Laws.Strings
import Derived.Laws.StructEq
import Derived.Lib.AppendStr
import Derived.Orders
set_option linter.unusedVariables false
set_option linter.unusedSimpArgs false
set_option linter.unnecessarySimpa false
namespace Go.Own
abbrev z7 := @Bool.and_eq_true
abbrev z8 := @Option.bind_some
abbrev z9 := @Option.some.injEq
abbrev z10 := @decide_eq_false
abbrev z11 := @if_neg
abbrev z12 := @cond_false
abbrev z13 := @decide_eq_true
abbrev z14 := @Nat.eq_of_beq_eq_true
abbrev z15 := @cond_true
abbrev z16 := @List.getElem?_eq_getElem
abbrev z17 := @if_pos
abbrev z18 := @List.all_eq_true
abbrev z19 := @Option.bind_eq_some_iff
abbrev z20 := @List.getElem?_cons_zero
abbrev z21 := @List.getElem?_cons_succ
abbrev z22 := @Option.map_eq_some_iff
abbrev z23 := @List.mem_cons_of_mem
abbrev z24 := @List.mem_of_getElem?
abbrev z25 := @Array.getElem?_eq_some_iff
abbrev z26 := @Array.getElem?_toList
abbrev z27 := @List.mem_cons_self
abbrev z28 := @List.getElem?_map
abbrev z29 := @Nat.le_of_ble_eq_true
abbrev z30 := @Nat.zero_add
abbrev z31 := @Bool.not_true
abbrev z32 := @List.length_append
abbrev z33 := @Option.map_some
abbrev z34 := @List.length_cons
abbrev z35 := @Bool.not_eq_true'
abbrev z36 := @decide_eq_true_eq
abbrev z37 := @List.length_singleton
abbrev z38 := @Prod.mk.injEq
abbrev z39 := @decide_eq_false_iff_not
abbrev z40 := @Array.mem_toList_iff
abbrev z41 := @Bool.true_and
abbrev z42 := @Nat.beq_refl
abbrev z43 := @Array.getD_eq_getD_getElem?
abbrev z44 := @List.length_take
abbrev z45 := @Array.length_toList
abbrev z46 := @Nat.lt_of_lt_of_le
abbrev z47 := @List.getElem?_drop
abbrev z48 := @Bool.or_eq_true
abbrev z49 := @List.mem_map
abbrev z50 := @Option.some.inj
abbrev z51 := @Bool.false_eq_true
abbrev z52 := @List.map_congr_left
abbrev z53 := @Int.toNat_natCast
abbrev z54 := @List.map_cons
abbrev z55 := @List.getElem?_append_right
abbrev z56 := @Bool.false_or
abbrev z57 := @List.mem_range
abbrev z58 := @List.countP_eq_length_filter
abbrev z59 := @Nat.le_refl
abbrev z60 := @List.getElem?_set_self
abbrev z61 := @Bool.or_eq_false_iff
abbrev z62 := @Option.getD_some
abbrev z63 := @List.getElem?_append_left
abbrev z64 := @Nat.mul_le_mul_right
abbrev z65 := @List.length_drop
abbrev z66 := @List.getElem?_take
abbrev z67 := @List.getElem?_eq_none
abbrev z68 := @Array.getElem?_eq_getElem
abbrev z69 := @Nat.add_zero
abbrev z70 := @List.nil_append
abbrev z71 := @List.getElem?_of_mem
abbrev z72 := @List.mem_singleton
abbrev z73 := @List.mem_filter
abbrev z74 := @List.getElem?_eq_some_iff
abbrev z75 := @List.append_assoc
abbrev z76 := @List.length_eq_zero_iff
abbrev z77 := @List.length_nil
abbrev z78 := @Nat.add_sub_cancel_left
abbrev z79 := @List.length_map
abbrev z80 := @Array.all_eq_true_iff_forall_mem
abbrev z81 := @List.getD_eq_getElem?_getD
abbrev z82 := @Nat.add_mul
abbrev z83 := @Bool.and_false
abbrev z84 := @Option.isNone_iff_eq_none
abbrev z85 := @List.getElem?_toArray
abbrev z86 := @List.eq_nil_of_length_eq_zero
abbrev z87 := @List.size_toArray
abbrev z88 := @List.length_set
abbrev z89 := @List.cons_append
abbrev z90 := @Bool.not_eq_true
abbrev z91 := @List.all_cons
abbrev z92 := @Array.getElem?_setIfInBounds_ne
abbrev z93 := @Nat.le_trans
abbrev z94 := @Nat.lt_or_ge
abbrev z95 := @Bool.and_self
abbrev z96 := @Nat.testBit_two_pow
abbrev z97 := @Bool.not_false
abbrev z98 := @List.filter_eq_nil_iff
abbrev z99 := @Nat.sub_self
abbrev z100 := @Array.getElem?_setIfInBounds_self_of_lt
abbrev WE := @Array.getElem?_append
abbrev WD := @Array.getElem?_modify
abbrev WC := @Nat.ble_eq_true_of_le
abbrev Qr := @Nat.add_assoc
abbrev Qq := @List.mem_cons
abbrev WB := @List.getElem?_set_ne
abbrev WA := @List.range_eq_range'
abbrev Sk := @Nat.testBit_or
abbrev Uh := @List.not_mem_nil
abbrev Ug := @List.take_length
abbrev Vz := @List.getElem?_range
abbrev z112 := @Array.size_setIfInBounds
abbrev Nd := @Array.ext'
abbrev z114 := @Option.isSome_iff_exists
abbrev Uf := @Option.map_none
abbrev Vy := @Array.foldl_toList
abbrev z117 := @List.getElem?_replicate
abbrev Vx := @List.set_cons_zero
abbrev Ue := @List.append_nil
abbrev Sj := @Bool.and_true
abbrev z121 := @Array.getElem?_eq_none
abbrev Vw := @List.any_eq_false
abbrev Vv := @Nat.add_sub_of_le
abbrev z124 := @List.eq_nil_iff_forall_not_mem
abbrev z125 := @Array.mem_of_getElem?
abbrev Ud := @List.any_cons
abbrev Vu := @Bool.eq_iff_iff
abbrev Si := @Nat.zero_le
abbrev Vt := @List.foldl_cons
abbrev Vs := @List.mem_append
abbrev z131 := @Option.isSome_eq_false_iff
abbrev Nc := @true_and
abbrev Uc := @List.map_nil
abbrev Ub := @Nat.succ_mul
abbrev z135 := @List.set_cons_succ
abbrev z136 := @List.filter_append
abbrev z137 := @Array.mapM_eq_mapM_toList
abbrev Vr := @List.nodup_nil
abbrev z139 := @List.drop_eq_getElem_cons
abbrev z140 := @List.mem_take_iff_getElem
abbrev Vq := @Bool.and_assoc
abbrev z142 := @List.mem_of_find?_eq_some
abbrev z143 := @Classical.not_not
abbrev z144 := @Array.getElem?_replicate
abbrev z145 := @List.mem_range'_1
abbrev z146 := @Bool.eq_false_or_eq_true
abbrev z147 := @List.nodup_append
abbrev z148 := @Nat.le_mul_of_pos_right
abbrev z149 := @List.filter_cons_of_pos
abbrev Vp := @List.map_take
abbrev z151 := @List.any_eq_true
abbrev z152 := @List.zipIdx_cons
abbrev z153 := @List.isEmpty_iff
abbrev z154 := @List.range'_succ
abbrev z155 := @beq_self_eq_true
abbrev Vn := @List.map_map
abbrev Vm := @Nat.sub_zero
abbrev z158 := @List.mem_append_right
abbrev z159 := @Array.size_push
abbrev z160 := @List.take_append_drop
abbrev z161 := @List.set_append_right
abbrev z162 := @List.singleton_append
abbrev Vl := @List.set_set
abbrev z164 := @List.take_zero
abbrev z165 := @List.drop_zero
abbrev z166 := @Nat.add_comm
abbrev z167 := @Bool.or_true
end Go.Own
namespace Go.Own
open Go.RowKit

inductive T where
 | int (k:IntKind) (n:Int)
 | bool (b:Bool)
 | np
 | str (s:List UInt8)
 | sl (es:List (List T))
 | hole

inductive Loc where
 | none
 | ext
 | s (i k j:Nat)
 | obj (o:Nat)
 | oc (o j:Nat)
 deriving DecidableEq

inductive W where
 | junk
 | c (x:T)
 | ag (xs:List T)
 | ptr (o off:Nat)
 | cp (xs:List T)
 | pp (l:Loc) (p:List (Nat×Nat)) (i j:Nat)
 | al (l:Loc) (p:List (Nat×Nat))
 | nilp
 | ifc (isNil:Bool)
 | fn (f:FuncId) (caps:List (Nat×Nat))

inductive V where
 | one (w:W)
 | tup (ws:List W)

inductive K where
 | D | V | F | A (s:Nat) | U (s:Nat) | S | N
 deriving DecidableEq

def K.hold:K→Bool
 | .A _=>true
 | .U _=>true
 | _=>false

structure G where
 β:Nat→Nat
 own:Nat→Loc

abbrev Un:=Nat→Option (List T)

def scal:T→Bool
 | .sl _=>false
 | .hole=>false
 | _=>true

inductive Rd (P:Nat→Prop) (w:World):Value→T→Prop
 | hole (v:Value) (h1: ∀cs,v≠ .agg cs) (h2: ∀vs,v≠ .tuple vs):Rd P w v .hole
 | int (k:IntKind) (n:Int):Rd P w (.int k n) (.int k n)
 | bool (b:Bool):Rd P w (.bool b) (.bool b)
 | np:Rd P w (.pointer none) .np
 | str (s:ByteArray):Rd P w (.string s) (.str s.data.toList)
 | nil (a:Option Addr) (cap:Nat):Rd P w (.slice a 0 cap) (.sl [])
 | sl (b off len cap s:Nat) (es:List (List T)) (cs:Nat→Nat→Value) (hl:es.length=len) (hc:len≤cap) (hs: ∀(i:Nat) (e:List T),es[i]? =some e→e.length=s) (hP:P b)
   (hm: ∀(i:Nat) (e:List T) (j:Nat) (x:T),es[i]? =some e→e[j]? =some x→w.cell? ⟨b,off+i*s+j,none⟩=some (cs i j))
   (hr: ∀(i:Nat) (e:List T) (j:Nat) (x:T),es[i]? =some e→e[j]? =some x→Rd P w (cs i j) x):Rd P w (.slice (some ⟨b,off,none⟩) len cap) (.sl es)

theorem cI{w w':World}{b k:Nat}(h:w'.heap[b]? =w.heap[b]?):w'.cell? ⟨b,k,none⟩=w.cell? ⟨b,k,none⟩:=by simp [World.cell?,h]

theorem Rd.mono{P m:Nat→Prop}{w w':World}(hP: ∀b,P b→m b∧w'.heap[b]? =w.heap[b]?){v:Value}{x:T}(h:Rd P w v x):Rd m w' v x:=by
 induction h with
 | hole v h1 h2=>exact .hole v h1 h2
 | int k n=>exact .int k n
 | bool b=>exact .bool b
 | np=>exact .np
 | str s=>exact .str s
 | nil a cap=>exact .nil a cap
 | sl b off len cap s es cs hl hc hs d hm hr q=>
  exact .sl b off len cap s es cs hl hc hs (hP b d).1 (fun i e j x h1 h2=>(cI (hP b d).2).trans (hm i e j x h1 h2)) q

theorem Rd.weaken{P d:Nat→Prop}{w:World}(hP: ∀b,P b→d b){v:Value}{x:T}(h:Rd P w v x):Rd d w v x:=h.mono fun b hb=>⟨hP b hb,rfl⟩

theorem Rd.scal{P m:Nat→Prop}{w w':World}{v:Value}{x:T}(h:Rd P w v x)(d:scal x=true):Rd m w' v x:=by
 cases h with
 | hole=>cases d
 | int k n=>exact .int k n
 | bool b=>exact .bool b
 | np=>exact .np
 | str s=>exact .str s
 | nil a cap=>cases d
 | sl=>cases d

theorem Rd.not_agg{P:Nat→Prop}{w:World}{v:Value}{x:T}(h:Rd P w v x):(∀cs,v≠ .agg cs)∧ ∀vs,v≠ .tuple vs:=by
 cases h with
 | hole v h1 h2=>exact⟨h1,h2⟩
 | _=>exact⟨(by intro _ e; cases e),(by intro _ e; cases e)⟩

inductive Ow (Z:Nat→Prop) (deep:Bool) (w:World):Option Nat→(Nat→Prop)→Value→T→Prop
 | hole (t:Option Nat) (F:Nat→Prop) (v:Value) (h1: ∀cs,v≠ .agg cs) (h2: ∀vs,v≠ .tuple vs):Ow Z deep w t F v .hole
 | int (t:Option Nat) (F:Nat→Prop) (k:IntKind) (n:Int):Ow Z deep w t F (.int k n) (.int k n)
 | bool (t:Option Nat) (F:Nat→Prop) (b:Bool):Ow Z deep w t F (.bool b) (.bool b)
 | np (t:Option Nat) (F:Nat→Prop):Ow Z deep w t F (.pointer none) .np
 | str (t:Option Nat) (F:Nat→Prop) (s:ByteArray):Ow Z deep w t F (.string s) (.str s.data.toList)
 | nil (t:Option Nat) (F:Nat→Prop) (a:Option Addr):Ow Z deep w t F (.slice a 0 0) (.sl [])
 | frz (F:Nat→Prop) (v:Value) (x:T) (hd:deep=false) (h:Rd Z w v x):Ow Z deep w none F v x
 | sl (t:Option Nat) (F:Nat→Prop) (b len cap s:Nat) (arr:Array Value) (ty:TypeId) (es:List (List T)) (own:Nat→Nat×Nat) (cs:Nat→Nat→Value) (ht: ∀s0,t=some s0→s=s0) (hb:F b) (hh:w.heap[b]? =some (.cells arr ty (0,0))) (hl:es.length=len)
   (hc:len≤cap) (hcap:cap≤maxLen) (hs: ∀(i:Nat) (e:List T),es[i]? =some e→e.length=s) (ha:arr.size=cap*s)
   (hm: ∀(i:Nat) (e:List T) (j:Nat) (x:T),es[i]? =some e→e[j]? =some x→arr[i*s+j]? =some (cs i j))
   (hr: ∀(i:Nat) (e:List T) (j:Nat) (x:T),es[i]? =some e→e[j]? =some x→Ow Z deep w none (fun k=>F k∧k≠b∧own k=(i,j)) (cs i j) x):Ow Z deep w t F (.slice (some ⟨b,0,none⟩) len cap) (.sl es)

theorem Ow.mono{Z Z':Nat→Prop}{deep deep':Bool}{w w':World}{t:Option Nat}{F:Nat→Prop}{v:Value}{x:T}(h:Ow Z deep w t F v x)(hd:deep=false→deep'=false)(r:deep=false→ ∀b,Z b→Z' b∧w'.heap[b]? =w.heap[b]?):
  ∀ {d:Nat→Prop},(∀b,F b→d b∧w'.heap[b]? =w.heap[b]?)→Ow Z' deep' w' t d v x:=by
 induction h with
 | hole t F v h1 h2=>intro d _; exact .hole t d v h1 h2
 | int t F k n=>intro d _; exact .int t d k n
 | bool t F b=>intro d _; exact .bool t d b
 | np t F=>intro d _; exact .np t d
 | str t F s=>intro d _; exact .str t d s
 | nil t F a=>intro d _; exact .nil t d a
 | frz F v x h0 h=>intro d _; exact .frz d v x (hd h0) (h.mono (r h0))
 | sl t F b len cap s arr ty es own cs ht hb hh hl hc hcap hs ha hm hr u=>
  intro d m; exact .sl t d b len cap s arr ty es own cs ht (m b hb).1 ((m b hb).2.trans hh) hl hc hcap hs ha hm (fun i e j x h1 h2=>u i e j x h1 h2 (fun k q=>⟨⟨(m k q.1).1,q.2⟩,(m k q.1).2⟩))

theorem cJ(w:World)(b k:Nat)(arr:Array Value)(ty:TypeId)(d:Nat×Nat)(h:w.heap[b]? =some (.cells arr ty d)):w.cell? ⟨b,k,none⟩=arr[k]? :=by simp [World.cell?,h]

theorem Ow.rd{Z:Nat→Prop}{deep:Bool}{w:World}{t:Option Nat}{F:Nat→Prop}{v:Value}{x:T}(h:Ow Z deep w t F v x): ∀ {P:Nat→Prop},(∀b,F b→P b)→(∀b,Z b→P b)→Rd P w v x:=by
 induction h with
 | hole t F v h1 h2=>intro P _ _; exact .hole v h1 h2
 | int t F k n=>intro P _ _; exact .int k n
 | bool t F b=>intro P _ _; exact .bool b
 | np t F=>intro P _ _; exact .np
 | str t F s=>intro P _ _; exact .str s
 | nil t F a=>intro P _ _; exact .nil a 0
 | frz F v x h0 h=>intro P _ d; exact h.weaken d
 | sl t F b len cap s arr ty es own cs ht hb hh hl hc hcap hs ha hm hr r=>
  intro P m d; exact .sl b 0 len cap s es cs hl hc hs (m b hb) (fun i e j x h1 h2=>by rw[z30,cJ w b _ arr ty (0,0) hh]; exact hm i e j x h1 h2) (fun i e j x h1 h2=>r i e j x h1 h2 (fun k q=>m k q.1) d)

theorem Ow.sub{Z:Nat→Prop}{deep:Bool}{w:World}{n:Nat}{F:Nat→Prop}{v:Value}{x:T}(h:Ow Z deep w (some n) F v x):Ow Z deep w none F v x:=by
 cases h with
 | hole t F v h1 h2=>exact .hole none _ v h1 h2
 | int t F k n=>exact .int none _ k n
 | bool t F b=>exact .bool none _ b
 | np t F=>exact .np none _
 | str t F s=>exact .str none _ s
 | nil t F a=>exact .nil none _ a
 | sl t F b len cap s arr ty es own cs ht hb hh hl hc hcap hs ha hm hr=>exact .sl none _ b len cap s arr ty es own cs (by simp) hb hh hl hc hcap hs ha hm hr

theorem Ow.any{Z:Nat→Prop}{deep:Bool}{w:World}{t:Option Nat}{F:Nat→Prop}{v:Value}{x:T}(h:Ow Z deep w t F v x):Ow Z deep w none F v x:=by
 cases t with
 | none=>exact h
 | some n=>exact h.sub
theorem Rd.ow{P Z:Nat→Prop}{deep:Bool}{w w':World}{t:Option Nat}{F:Nat→Prop}{v:Value}{x:T}(h:Rd P w v x)(d:Own.scal x=true):Ow Z deep w' t F v x:=by
 cases h with
 | hole=>cases d
 | int k n=>exact .int t F k n
 | bool b=>exact .bool t F b
 | np=>exact .np t F
 | str s=>exact .str t F s
 | nil a cap=>cases d
 | sl=>cases d

def frz(g:G)(w:World)(b:Nat):Prop:=b<w.heap.size∧g.own b= .none
def all(g:G)(w:World)(b:Nat):Prop:=b<w.heap.size∧ ∀o,g.own b≠ .obj o

def Loc.place:Loc→Bool
 | .s _ _ _=>true
 | .oc _ _=>true
 | _=>false

theorem Loc.place_ne{l:Loc}(h:l.place=true):l≠ .none∧l≠ .ext∧ ∀o,l≠ .obj o:=by
 cases l<;>first | (simp [Loc.place]at h; done) | exact⟨by simp,by simp,by simp⟩

theorem frz.all{g:G}{w:World}{b:Nat}(h:frz g w b):all g w b:=⟨h.1,fun o e=>by rw[h.2]at e; cases e⟩

def gQ:Nat→Option Nat
 | 0=>none
 | s+1=>some (s+1)
theorem sX{s:Nat}(h:0<s):gQ s=some s:=by
 cases s with
 | zero=>omega
 | succ s=>rfl
def LF(g:G)(w:World)(κ:K)(l:Loc)(v:Value)(x:T):Prop:=
 match κ with
 | .D=>scal x=true→Rd (fun _=>False) w v x
 | .V=>Rd (all g w) w v x
 | .F=>Rd (frz g w) w v x
 | .A s=>Ow (frz g w) false w (some s) (fun b=>g.own b=l) v x
 | .U s=>Ow (frz g w) true w (gQ s) (fun b=>g.own b=l) v x
 | .S=>scal x=true∧Rd (fun _=>False) w v x
 | .N=>x= .sl []∧ ∃a,v= .slice a 0 0

structure GOk (g:G) (w:World):Prop where
 own: ∀b,g.own b≠ .none→b<w.heap.size

theorem LF.scal{g g':G}{w w':World}{κ κ':K}{l l':Loc}{v:Value}{x:T}(h:LF g w κ l v x)(d:Own.scal x=true)(hn:κ'≠ .N:=by simp):LF g' w' κ' l' v x:=by
 have h1:Rd (fun _=>False) w v x:=by
  cases κ with
  | D=>exact h d
  | V=>exact Rd.scal h d
  | F=>exact Rd.scal h d
  | A n=>exact(Ow.rd h (P:=fun _=>True) (fun _ _=>trivial) (fun _ _=>trivial)).scal d
  | U n=>exact(Ow.rd h (P:=fun _=>True) (fun _ _=>trivial) (fun _ _=>trivial)).scal d
  | S=>exact h.2
  | N=>obtain⟨rfl,_⟩:=h; cases d
 cases κ' with
 | D=>exact fun _=>h1.scal d
 | V=>exact Rd.scal h1 d
 | F=>exact Rd.scal h1 d
 | A n=>exact h1.ow d
 | U n=>exact h1.ow d
 | S=>exact⟨d,h1.scal d⟩
 | N=>exact absurd rfl hn

theorem LF.rd{g:G}{w:World}{κ:K}{l:Loc}{v:Value}{x:T}(d:GOk g w)(hl:l.place=true)(h:LF g w κ l v x)(q:κ≠ .D):Rd (all g w) w v x:=by
 have m: ∀b,g.own b=l→all g w b:=fun b hb=>⟨d.own b (fun e=>(Loc.place_ne hl).1 (hb.symm.trans e)),fun o e=>(Loc.place_ne hl).2.2 o (hb.symm.trans e)⟩
 cases κ with
 | D=>exact absurd rfl q
 | V=>exact h
 | F=>exact Rd.weaken (fun b hb=>hb.all) h
 | A n=>exact Ow.rd h m (fun b hb=>hb.all)
 | U n=>exact Ow.rd h m (fun b hb=>hb.all)
 | S=>exact h.2.scal h.1
 | N=>obtain⟨rfl,a,rfl⟩:=h; exact .nil _ _

def K.cp:K→K
 | .D=> .D
 | .V=> .V
 | .F=> .F
 | .A _=> .V
 | .U _=> .V
 | .S=> .S
 | .N=> .N

theorem LF.cp{g:G}{w:World}{κ:K}{l l':Loc}{v:Value}{x:T}(d:GOk g w)(hl:l.place=true)(h:LF g w κ l v x):LF g w κ.cp l' v x:=by
 cases κ with
 | D=>exact h
 | V=>exact h
 | F=>exact h
 | A n=>exact h.rd d hl (by simp)
 | U n=>exact h.rd d hl (by simp)
 | S=>exact h
 | N=>exact h

structure Evo (g:G) (w:World) (g':G) (w':World) (X:Loc→Prop):Prop where
 size:w.heap.size≤w'.heap.size
 keep: ∀b,b<w.heap.size→ ¬ X (g.own b)→g'.own b=g.own b∧w'.heap[b]? =w.heap[b]?

theorem Evo.refl(g:G)(w:World)(X:Loc→Prop):Evo g w g w X:=⟨z59 _,fun _ _ _=>⟨rfl,rfl⟩⟩
theorem Evo.mono{g g':G}{w w':World}{X Y:Loc→Prop}(h:Evo g w g' w' X)(d: ∀l,X l→Y l):Evo g w g' w' Y:=⟨h.size,fun b hb q=>h.keep b hb (fun m=>q (d _ m))⟩
theorem Evo.trans{g0 d m:G}{w0 r u:World}{X:Loc→Prop}(h:Evo g0 w0 d r X)(k:Evo d r m u X):Evo g0 w0 m u X:=by
 refine⟨z93 h.size k.size,fun b hb q=> ?_⟩
 obtain⟨h1,h2⟩:=h.keep b hb q; obtain⟨y,z⟩:=k.keep b (z46 hb h.size) (by rw[h1]; exact q)
 exact⟨y.trans h1,z.trans h2⟩

theorem LF.evo{g g':G}{w w':World}{X:Loc→Prop}{κ:K}{l:Loc}{v:Value}{x:T}(m:Evo g w g' w' X)(u:GOk g w)(hl:l≠ .none)(hn: ¬ X .none)(ho:κ.hold=true→ ¬ X l)(z:κ= .V→ ∀b,all g w b→all g' w' b∧w'.heap[b]? =w.heap[b]?)
  (h:LF g w κ l v x):LF g' w' κ l v x:=by
 have q: ∀b,frz g w b→frz g' w' b∧w'.heap[b]? =w.heap[b]? :=fun b hb=>by
  obtain⟨h1,h2⟩:=m.keep b hb.1 (by rw[hb.2]; exact hn)
  exact⟨⟨z46 hb.1 m.size,h1.trans hb.2⟩,h2⟩
 have y: ¬ X l→ ∀b,g.own b=l→g'.own b=l∧w'.heap[b]? =w.heap[b]? :=fun d b hb=>by
  have r:b<w.heap.size:=u.own b (fun e=>hl (hb.symm.trans e))
  obtain⟨h1,h2⟩:=m.keep b r (by rw[hb]; exact d)
  exact⟨h1.trans hb,h2⟩
 cases κ with
 | D=>exact fun d=>(h d).scal d
 | V=>exact Rd.mono (z rfl) h
 | F=>exact Rd.mono q h
 | A n=>exact Ow.mono h id (fun _=>q) (y (ho rfl))
 | U n=>exact Ow.mono h id (fun _=>q) (y (ho rfl))
 | S=>exact⟨h.1,h.2.scal h.1⟩
 | N=>exact h

theorem LF.moved{g g':G}{w:World}{κ:K}{l l':Loc}{v:Value}{x:T}(m: ∀b,g.own b=l→g'.own b=l')(r: ∀b,g.own b= .none→g'.own b= .none)(q: ∀b,all g w b→all g' w b)(h:LF g w κ l v x):LF g' w κ l' v x:=by
 have d: ∀b,frz g w b→frz g' w b∧w.heap[b]? =w.heap[b]? :=fun b hb=>⟨⟨hb.1,r b hb.2⟩,rfl⟩
 cases κ with
 | D=>exact h
 | V=>exact Rd.weaken q h
 | F=>exact Rd.mono d h
 | A n=>exact Ow.mono h id (fun _=>d) (fun b hb=>⟨m b hb,rfl⟩)
 | U n=>exact Ow.mono h id (fun _=>d) (fun b hb=>⟨m b hb,rfl⟩)
 | S=>exact h
 | N=>exact h

theorem LF.freeze{g g':G}{w:World}{κ:K}{l l':Loc}{v:Value}{x:T}(q:GOk g w)(hl:l≠ .none)(r:κ≠ .D∧κ≠ .V)(u: ∀b,g.own b=l→g'.own b= .none)(y: ∀b,g.own b= .none→g'.own b= .none)(h:LF g w κ l v x):LF g' w .F l' v x:=by
 have m: ∀b,g.own b=l→frz g' w b:=fun b hb=>⟨q.own b (fun e=>hl (hb.symm.trans e)),u b hb⟩
 have d: ∀b,frz g w b→frz g' w b:=fun b hb=>⟨hb.1,y b hb.2⟩
 cases κ with
 | A n=>exact Ow.rd h m d
 | U n=>exact Ow.rd h m d
 | F=>exact Rd.weaken d h
 | S=>exact Rd.scal h.2 h.1
 | N=>obtain⟨rfl,a,rfl⟩:=h; exact .nil _ _
 | D=>simp at r
 | V=>simp at r

inductive TK where
  | other | int (k:IntKind) | bool | str | ptr | ifc | sl (e:TypeId) | arr (n:Nat) (e:TypeId)
  | struct (fs:List (Nat×Nat×Bool))
structure TI where
  agg:Bool
  size:Nat
  bytes:Nat
  zero:List T
  kind:TK
  cmp:Bool:=false

def yA:Value→Option T
  | .int k n=>some (.int k n)
  | .bool b=>some (.bool b)
  | .string s=>some (.str s.data.toList)
  | .slice none 0 0=>some (.sl [])
  | .pointer none=>some .np
  | _=>none

def wZ:List Value→Option (List T)
  | []=>some []
  | v::r=>match yA v,wZ r with
    | some x,some xs=>some (x::xs)
    | _,_=>none

def bE:Value→V
  | .agg cs=>match wZ cs.toList with | some xs=> .one (.ag xs) | none=> .one .junk
  | .pointer none=> .one .nilp
  | .nilIface=> .one (.ifc true)
  | v=>match yA v with | some x=> .one (.c x) | none=> .one .junk

def SZ(P:Program):TK→TypeDesc→Prop
  | .other,_=>True
  | .int k,d=>d= .int k
  | .bool,d=>d= .bool
  | .str,d=>d= .string
  | .ptr,d=> ∃e,d= .pointer e
  | .ifc,d=> ∃a,d= .interface a
  | .sl e,d=>d= .slice e
  | .arr n e,d=>d= .array n e
  | .struct fs,d=> ∃gs,d= .struct gs∧gs.size=fs.length∧ ∀(j:Nat) f,fs[j]? =some f→ ∃g i,gs[j]? =some g∧g.offset=f.1∧P.info? g.type=some i∧i.size=f.2.1∧f.2.1≠0∧
      f.2.2=(match P.underlying g.type with | some (.struct _)=>true | some (.array _ _)=>true | _=>false)∧(P.underlying g.type).isSome

def CmpOk(P:Program)(t:TypeId)(a:List T):Prop:=P.eqGuardType P.depth t=false∧P.stoodInHeld t=false∧ ∃gs,P.underlying t=some (.struct gs)∧gs.size=a.length∧ ∀(j:Nat) g,gs[j]? =some g→g.name≠ "_" ∧g.offset=j∧
  (match a[j]? with | some (.int k _)=>P.underlying g.type=some (.int k) | some (.bool _)=>P.underlying g.type=some .bool | some (.str _)=>P.underlying g.type=some .string | _=>False)
def aX(P:Program)(τ:TypeId→Option TI):Prop:= ∀t i,τ t=some i→ ∃a d z,P.info? t=some a∧P.underlying t=some d∧a.size=i.size∧a.bytes=i.bytes∧a.zero=some z∧
  wZ z.cells.toList=some i.zero∧i.zero.length=i.size∧0<i.size∧i.agg=(match d with | .struct _=>true | .array _ _=>true | _=>false)∧SZ P i.kind d∧(i.cmp=true→CmpOk P t i.zero)

def tk(τ:TypeId→Option TI)(t:TypeId):Option TK:=(τ t).map (fun i=>i.kind)

def ev(sl:Nat→V):Operand→V
  | .tmp t=>sl t
  | .const v=>bE v
  | .func f=> .one (.fn f [])
  | .global _=> .one .junk

theorem rA{v:Value}{x:T}(h:yA v=some x):(∀P w,Rd P w v x)∧(∀Z d w t F,Ow Z d w t F v x):=by
  unfold yA at h; split at h<;>simp only[z9,reduceCtorEq]at h<;>subst h
  · exact⟨fun _ _=> .int _ _,fun _ _ _ _ _=> .int _ _ _ _⟩
  · exact⟨fun _ _=> .bool _,fun _ _ _ _ _=> .bool _ _ _⟩
  · exact⟨fun _ _=> .str _,fun _ _ _ _ _=> .str _ _ _⟩
  · exact⟨fun _ _=> .nil _ _,fun _ _ _ _ _=> .nil _ _ _⟩
  · exact⟨fun _ _=> .np,fun _ _ _ _ _=> .np _ _⟩

theorem jE: ∀ {l:List Value} {xs:List T},wZ l=some xs→l.length=xs.length∧ ∀(j:Nat) x,xs[j]? =some x→ ∃v,l[j]? =some v∧yA v=some x
  | [],xs,h=>by simp only[wZ,z9]at h; subst h; simp
  | v::r,xs,h=>by
    simp only[wZ]at h; split at h
    · rename_i x xs' h1 b
      simp only[z9]at h; subst h; obtain⟨e,g⟩:=jE b; refine⟨by simp [e],fun j y a=> ?_⟩
      cases j with
      | zero=>simp only[z20,z9]at a; subst a; exact⟨v,by simp,h1⟩
      | succ j=>simp only[z21]at a ⊢; exact g j y a
    · cases h

def TL(op:BinOp)(k:IntKind)(a b:Int):Option T:=
  match op with
  | .add=>some (.int k (k.wrap (a+b)))
  | .sub=>some (.int k (k.wrap (a - b)))
  | .mul=>some (.int k (k.wrap (a*b)))
  | .quo=>if b=0 then none else some (.int k (k.wrap (a.tdiv b)))
  | .rem=>if b=0 then none else some (.int k (a.tmod b))
  | .and=>some (.int k (bits .and k a b))
  | .or=>some (.int k (bits .or k a b))
  | .xor=>some (.int k (bits .xor k a b))
  | .eql=>some (.bool (decide (a=b)))
  | .neq=>some (.bool !decide (a=b))
  | .lss=>some (.bool (decide (a<b)))
  | .leq=>some (.bool (decide (a≤b)))
  | .gtr=>some (.bool (decide (b<a)))
  | .geq=>some (.bool (decide (b≤a)))
  | _=>none

def NP(x y:List UInt8):Bool:=Op.bytesLess x y

def Sx(op:BinOp)(x y:List UInt8):Option T:=
  match op with
  | .add=>if x.length+y.length≤9223372036854775807 then some (.str (x++y))else none
  | .eql=>some (.bool (decide (x=y)))
  | .neq=>some (.bool !decide (x=y))
  | .lss=>some (.bool (NP x y))
  | .leq=>some (.bool (NP x y||decide (x=y)))
  | .gtr=>some (.bool !(NP x y||decide (x=y)))
  | .geq=>some (.bool !(NP x y))
  | _=>none

def KD(op:BinOp)(b:Bool):Option T:=
  match op with
  | .eql=>some (.bool b)
  | .neq=>some (.bool !b)
  | _=>none

def eqT:T→T→Option Bool
  | .int k a, .int c b=>if k=c then some (decide (a=b))else none
  | .bool a, .bool b=>some (a == b)
  | .str a, .str b=>some (decide (a=b))
  | _,_=>none
def Lb:List T→List T→Option Bool
  | [],[]=>some true
  | x::r,y::q=>match eqT x y,Lb r q with
    | some a,some b=>some (a&&b)
    | _,_=>none
  | _,_=>none

def cmpZ(τ:TypeId→Option TI)(t:TypeId):Option (List T):=match τ t with
  | some i=>bif i.cmp then some i.zero else none
  | none=>none
def QX(τ:TypeId→Option TI)(op:BinOp)(t:TypeId)(x y:V):Option T:=
  match x,y with
  | .one (.c (.int k a)), .one (.c (.int d b))=>
    match op with
    | .shl=>if 0≤b then some (.int k (k.wrap (a*2 ^ min b.toNat k.bits)))else none
    | .shr=>if 0≤b then some (.int k (a.fdiv (2 ^ min b.toNat k.bits)))else none
    | _=>if k=d then TL op k a b else none
  | .one (.c (.str a)), .one (.c (.str b))=>Sx op a b
  | .one (.c (.bool a)), .one (.c (.bool b))=>match tk τ t with | some .bool=>KD op (a == b) | _=>none
  | .one .nilp, .one .nilp=>match tk τ t with | some .ptr=>KD op true | _=>none
  | .one (.cp _), .one .nilp=>match tk τ t with | some .ptr=>KD op false | _=>none
  | .one (.ptr _ _), .one .nilp=>match tk τ t with | some .ptr=>KD op false | _=>none
  | .one (.ifc b), .one (.ifc true)=>match tk τ t with | some .ifc=>KD op b | _=>none
  | .one (.ag xs), .one (.ag ys)=>match cmpZ τ t with
    | some zs=>(match Lb xs zs,Lb xs ys with | some _,some b=>KD op b | _,_=>none)
    | none=>none
  | _,_=>none

def RP(P:Nat→Prop)(β:Nat→Nat)(w:World)(v:Value):V→Prop
  | .one (.c x)=>Rd P w v x
  | .one (.ptr o off)=>v= .pointer (some ⟨β o,off,none⟩)
  | .one (.cp xs)=> ∃b off,v= .pointer (some ⟨b,off,none⟩)∧P b∧ ∀(j:Nat) x,xs[j]? =some x→ ∃c,w.cell? ⟨b,off+j,none⟩=some c∧Rd P w c x
  | .one .nilp=>v= .pointer none
  | .one (.ag xs)=> ∃cs:Array Value,v= .agg cs∧ ∀(j:Nat) x,xs[j]? =some x→scal x=true→ ∃c,cs[j]? =some c∧Rd P w c x
  | .one (.ifc b)=>if b then v= .nilIface else ∃d u,v= .iface d u
  | _=>True

theorem vK{P:Nat→Prop}{β:Nat→Nat}{w:World}{v:Value}{k:IntKind}{n:Int}(h:RP P β w v (.one (.c (.int k n)))):v= .int k n:=by have h:Rd P w v _:=h; cases h; rfl
theorem KI{P:Nat→Prop}{β:Nat→Nat}{w:World}{v:Value}{b:Bool}(h:RP P β w v (.one (.c (.bool b)))):v= .bool b:=by have h:Rd P w v _:=h; cases h; rfl
theorem FN{P:Nat→Prop}{β:Nat→Nat}{w:World}{v:Value}{s:List UInt8}(h:RP P β w v (.one (.c (.str s)))): ∃a:ByteArray,v= .string a∧a.data.toList=s:=by have h:Rd P w v _:=h; cases h; exact⟨_,rfl,rfl⟩

theorem lI{P:Program}{τ:TypeId→Option TI}(c:aX P τ){t:TypeId}{k:TK}(h:tk τ t=some k): ∃d,P.underlying t=some d∧SZ P k d:=by
  obtain⟨i,f,rfl⟩:=z22.1 h; obtain⟨_,d,_,_,a,_,_,_,_,_,_,_,b,_⟩:=c t i f; exact⟨d,a,b⟩

theorem kO{P:Program}{w:World}{op:BinOp}{t:TypeId}{xo yo:Operand}{x y:Value}(h:(∀cs,x≠ .agg cs)∧x≠ .nilIface):(eqGuard op t xo yo x y).run P w= .ok () w:=by
  have e:eqGuard op t xo yo x y=pure ():=by
    cases x<;>first | exact absurd rfl (h.1 _) | exact absurd rfl h.2 | (unfold eqGuard; cases op<;>rfl)
  rw[e]; rfl

theorem PD(a b:List UInt8):(a == b)=decide (a=b):=by
  rw[Vu]; simp

theorem LI{P:Program}{w:World}{t:TypeId}{f:Array (String×TypeId)}{x:Value}{b:Bool}(n:Nat)(a:P.underlying t=some (.interface f))(c:(x= .nilIface∧b=true)∨(∃d u,x= .iface d u)∧b=false):(Op.equalIn (n+1) t x .nilIface).run P w= .ok b w:=by
  rcases c with⟨rfl,rfl⟩ | ⟨⟨d,u,rfl⟩,rfl⟩<;>simp only[Op.equalIn,Sem.run_bind,run_underlying a,Result.andThen_ok,Sem.run_pure]

theorem NI{α:Type}{b:Bool}{a c:α}(h:(bif b then some a else none)=some c):b=true∧a=c:=by
  cases b with
  | true=>exact⟨rfl,z50 h⟩
  | false=>cases h
theorem UL{P:Program}{Q:Nat→Prop}{w:World}{d:Nat}{ty:TypeId}{c c':Value}{x y z:T}{r q:Bool}(l:Rd Q w c x)(m:Rd Q w c' y)(hz:eqT x z=some q)(h:eqT x y=some r)
    (g:match(some z:Option T)with | some (.int k _)=>P.underlying ty=some (.int k) | some (.bool _)=>P.underlying ty=some .bool | some (.str _)=>P.underlying ty=some .string | _=>False):(Op.equalIn (d+1) ty c c').run P w= .ok r w∧(∀b,(isAgg ty).run P w= .ok b w→b=false)∧(isAgg ty).run P w= .ok false w:=by
  have j: ∀i,P.underlying ty=some i→(∀fs,i≠ .struct fs)→(∀n e,i≠ .array n e)→(isAgg ty).run P w= .ok false w:=fun i h1 t u=>by
    simp only[isAgg,Sem.run_bind,run_underlying h1,Result.andThen_ok]; cases i<;>first | rfl | exact absurd rfl (t _) | exact absurd rfl (u _ _)
  have f:(isAgg ty).run P w= .ok false w→(∀b,(isAgg ty).run P w= .ok b w→b=false)∧(isAgg ty).run P w= .ok false w:=fun h=>⟨fun b o=>by rw[h]at o; cases o; rfl,h⟩
  cases x<;>cases z<;>simp only[eqT,reduceCtorEq]at hz<;>cases y<;>simp only[eqT,reduceCtorEq]at h
  · rename_i k a v a1 A a2
    split at hz<;>cases hz
    split at h<;>cases h
    rename_i p s; subst p s; cases l; cases m; exact⟨by rw[run_equalIn_int w d ty k k a a2 g]; rfl,f (j _ g (by simp) (by simp))⟩
  · cases h
    cases l; cases m; exact⟨run_equalIn_bool' w d ty _ _ g,f (j _ g (by simp) (by simp))⟩
  · cases h
    cases l; cases m; refine⟨?_,f (j _ g (by simp) (by simp))⟩
    rw[run_equalIn_string w d ty _ _ g,ByteArray.toList_eq,ByteArray.toList_eq,PD]
theorem PA{P:Program}{Q:Nat→Prop}{w:World}{d:Nat}{cs h:Array Value}{gs:Array Field}{s:List T}(C: ∀(j:Nat) g,gs[j]? =some g→g.name≠ "_" ∧g.offset=j∧
    (match s[j]? with | some (.int k _)=>P.underlying g.type=some (.int k) | some (.bool _)=>P.underlying g.type=some .bool | some (.str _)=>P.underlying g.type=some .string | _=>False)):
    ∀(l:List Field) (xs ys us:List T) (j:Nat) (r q:Bool),(∀k,l[k]? =gs[j+k]?)→us=s.drop j→l.length=us.length→Lb xs us=some q→Lb xs ys=some r→(∀(k:Nat) x,xs[k]? =some x→scal x=true→ ∃c,cs[j+k]? =some c∧Rd Q w c x)→(∀(k:Nat) x,ys[k]? =some x→scal x=true→ ∃c,h[j+k]? =some c∧Rd Q w c x)→
      (Op.eqFields (d+1) cs h l).run P w= .ok r w
  | [],xs,ys,us,j,r,q,_,_,i,h1,a,_,_=>by
    have:us=[]:=z76.1 (by simpa using i.symm)
    subst this; cases xs with
    | cons x xs=>simp [Lb]at h1
    | nil=>
      cases ys with
      | cons y ys=>simp [Lb]at a
      | nil=>simp only[Lb,z9]at a; subst a; rfl
  | f::l,xs,ys,us,j,r,q,B,D,i,h1,a,E,F=>by
    cases us with
    | nil=>simp at i
    | cons u us=>
    cases xs with
    | nil=>simp [Lb]at h1
    | cons x xs=>
    cases ys with
    | nil=>simp [Lb]at a
    | cons y ys=>
    simp only[Lb]at h1 a; split at h1<;>try cases h1
    rename_i V S t L; split at a<;>try cases a
    rename_i r1 r2 v M; have hz:s[j]? =some u:=by
      have:=congrArg (·[0]?) D
      simpa using this.symm
    obtain⟨N,z,A⟩:=C j f (by have:=B 0; simpa using this.symm)
    rw[hz]at A; have b:scal x=true:=by cases x<;>cases u<;>simp [eqT]at t<;>rfl
    have U:scal y=true:=by cases x<;>cases y<;>simp [eqT]at v<;>rfl
    obtain⟨c,H,I⟩:=E 0 x rfl b; obtain⟨c',J,K⟩:=F 0 y rfl U; obtain⟨R,_,G⟩:=UL (P:=P) (d:=d) I K t v A; have o:(part f.type cs f.offset).run P w= .ok c w:=by
      rw[z]; simp only[part,Sem.run_bind,G,Result.andThen_ok]; rw[show cs[j]? =some c from H]; rfl
    have p:(part f.type h f.offset).run P w= .ok c' w:=by
      rw[z]; simp only[part,Sem.run_bind,G,Result.andThen_ok]; rw[show h[j]? =some c' from J]; rfl
    have O:=PA (d:=d) C l xs ys us (j+1) r2 S (fun k=>by have:=B (k+1); rw[show j+1+k=j+(k+1)by omega]; simpa using this) (by
      have:=congrArg List.tail D; rw[List.tail_drop]at this; simpa using this) (by simpa using i) L M (fun k x m b=>by rw[show j+1+k=j+(k+1)by omega]; exact E (k+1) x m b) (fun k x m b=>by rw[show j+1+k=j+(k+1)by omega]; exact F (k+1) x m b)
    simp only[Op.eqFields]; rw[z17 N]; simp only[Sem.run_bind,o,p,R,Result.andThen_ok]; cases r1 with
    | false=>rfl
    | true=>exact O

theorem UW{P:Program}{τ:TypeId→Option TI}(B:aX P τ){Q:Nat→Prop}{β:Nat→Nat}{w:World}{op:BinOp}{t:TypeId}{x y:Value}{X Y:V}{r:T}(h:QX τ op t X Y=some r)
    (m:RP Q β w x X)(A:RP Q β w y Y)(xo yo:Operand)(F:Y= .one (.ifc true)→ ∃c,yo= .const c): ∃v,(do eqGuard op t xo yo x y; binOp op t x y:Sem Value).run P w= .ok v w∧scal r=true∧Rd (fun _=>False) w v r:=by
  unfold QX at h; split at h
  · rename_i k a S b
    have f:=vK m; have j:=vK A; subst f j; have l:=kO (P:=P) (w:=w) (op:=op) (t:=t) (xo:=xo) (yo:=yo) (x:= .int k a) (y:= .int S b) (by simp)
    simp only[Sem.run_bind,l,Result.andThen_ok]; split at h
    · split at h<;>simp only[z9,reduceCtorEq]at h
      rename_i s; subst h; exact⟨_,by simp [binOp,Op.shift,Int.not_lt.2 s],rfl, .int _ _⟩
    · split at h<;>simp only[z9,reduceCtorEq]at h
      rename_i s; subst h; exact⟨_,by simp [binOp,Op.shift,Int.not_lt.2 s],rfl, .int _ _⟩
    · rename_i n1 n2
      split at h
      · rename_i g
        subst g; cases op<;>simp only[TL,z9,reduceCtorEq]at h
        all_goals first
          | exact absurd rfl (by first | exact n1 | exact n2)
          | skip
        all_goals first
          | (subst h
             first
               | exact⟨_,by simp only[binOp,ne_eq,not_true_eq_false,if_false,Op.intArith]; rfl,rfl, .int _ _⟩
               | (refine⟨_, ?_,rfl, .bool _⟩; simp only[binOp,ne_eq,not_true_eq_false,if_false,Op.intCmp]; first | rfl | (simp only[Sem.run_pure]; congr 2; first | rfl | (rw[Vu]; simp) | (simp [bne]; rfl))))
          | (split at h
             · cases h
             · rename_i s
               simp only[z9]at h; subst h; exact⟨_,by simp only[binOp,ne_eq,not_true_eq_false,if_false,Op.intDiv,z11 s]; rfl,rfl, .int _ _⟩)
      · cases h
  · rename_i a b
    obtain⟨a,rfl,rfl⟩:=FN m; obtain⟨b,rfl,rfl⟩:=FN A; have l:=kO (P:=P) (w:=w) (op:=op) (t:=t) (xo:=xo) (yo:=yo) (x:= .string a) (y:= .string b) (by simp)
    simp only[Sem.run_bind,l,Result.andThen_ok]; cases op<;>simp only[Sx,z9,reduceCtorEq]at h
    case add=>
      split at h
      · rename_i O
        simp only[z9]at h; subst h; have L: ¬ (((a.size+b.size:Nat):Int) > IntKind.i64.max):=by
          have:IntKind.i64.max=9223372036854775807:=by decide
          have f:a.data.toList.length=a.size:=z45; have j:b.data.toList.length=b.size:=z45; rw[this]; omega
        refine⟨.string (a++b),by simp only[binOp,Op.stringOp,z11 L,Sem.run_pure],rfl, ?_⟩
        have e:(a++b).data.toList=a.data.toList++b.data.toList:=by simp
        rw[←e]; exact .str _
      · cases h
    all_goals
      subst h; refine⟨_, ?_,rfl, .bool _⟩
      simp only[binOp,Op.stringOp,Sem.run_pure,ByteArray.toList_eq,PD,NP]
  · rename_i a b
    have f:=KI m; have j:=KI A; subst f j; have l:=kO (P:=P) (w:=w) (op:=op) (t:=t) (xo:=xo) (yo:=yo) (x:= .bool a) (y:= .bool b) (by simp)
    simp only[Sem.run_bind,l,Result.andThen_ok]; split at h
    · rename_i g
      obtain⟨d,p,rfl⟩:=lI B g; cases op<;>simp only[KD,z9,reduceCtorEq]at h
      · subst h; exact⟨_,run_eql_bool w t a b p,rfl, .bool _⟩
      · subst h; exact⟨_,run_neq_bool w t a b p,rfl, .bool _⟩
    · cases h
  · have f:x= .pointer none:=m
    have j:y= .pointer none:=A; subst f j; have l:=kO (P:=P) (w:=w) (op:=op) (t:=t) (xo:=xo) (yo:=yo) (x:= .pointer none) (y:= .pointer none) (by simp)
    simp only[Sem.run_bind,l,Result.andThen_ok]; split at h
    · rename_i g
      obtain⟨d,p,e,rfl⟩:=lI B g; have z:P.underlying t=some (.pointer (P.pointee t)):=by unfold Program.pointee; rw[p]
      cases op<;>simp only[KD,z9,reduceCtorEq]at h
      · subst h; exact⟨_,run_eql_pointer_nil w t _ z,rfl, .bool _⟩
      · subst h; exact⟨_,run_neq_pointer_nil w t _ z,rfl, .bool _⟩
    · cases h
  · obtain⟨K,off,f,_⟩:=m
    have j:y= .pointer none:=A; subst f j; have l:=kO (P:=P) (w:=w) (op:=op) (t:=t) (xo:=xo) (yo:=yo) (x:= .pointer (some ⟨K,off,none⟩)) (y:= .pointer none) (by simp)
    simp only[Sem.run_bind,l,Result.andThen_ok]; split at h
    · rename_i g
      obtain⟨d,p,e,rfl⟩:=lI B g; have z:P.underlying t=some (.pointer (P.pointee t)):=by unfold Program.pointee; rw[p]
      cases op<;>simp only[KD,z9,reduceCtorEq]at h
      · subst h; exact⟨_,run_eql_pointer_nil w t _ z,rfl, .bool _⟩
      · subst h; exact⟨_,run_neq_pointer_nil w t _ z,rfl, .bool _⟩
    · cases h
  · have f:x= .pointer (some _):=m
    have j:y= .pointer none:=A; subst f j; rename_i o off; have l:=kO (P:=P) (w:=w) (op:=op) (t:=t) (xo:=xo) (yo:=yo) (x:= .pointer (some ⟨β o,off,none⟩)) (y:= .pointer none) (by simp)
    simp only[Sem.run_bind,l,Result.andThen_ok]; split at h
    · rename_i g
      obtain⟨d,p,e,rfl⟩:=lI B g; have z:P.underlying t=some (.pointer (P.pointee t)):=by unfold Program.pointee; rw[p]
      cases op<;>simp only[KD,z9,reduceCtorEq]at h
      · subst h; exact⟨_,run_eql_pointer_nil w t _ z,rfl, .bool _⟩
      · subst h; exact⟨_,run_neq_pointer_nil w t _ z,rfl, .bool _⟩
    · cases h
  · rename_i b
    have j:y= .nilIface:=A; subst j; obtain⟨c,rfl⟩:=F rfl; split at h
    · rename_i g
      obtain⟨d,p,ms,rfl⟩:=lI B g; have l:(eqGuard op t xo (.const c) x .nilIface).run P w= .ok () w:=by
        cases b with
        | true=>
          have f:x= .nilIface:=by simpa [RP]using m
          subst f; rw[eqGuard_nil_constR]; rfl
        | false=>
          obtain⟨d,u,f⟩: ∃d u,x= .iface d u:=by simpa [RP]using m
          subst f; rw[eqGuard_at_iface]; rfl
      simp only[Sem.run_bind,l,Result.andThen_ok]; have R:(Op.equal t x .nilIface).run P w= .ok b w:=by
        refine LI 9999 p (?_)
        cases b with
        | true=>exact .inl ⟨by simpa [RP]using m,rfl⟩
        | false=>exact .inr ⟨by simpa [RP]using m,rfl⟩
      have s: ∀(op:BinOp),(binOp .eql t x .nilIface).run P w= .ok (.bool b) w∧(binOp .neq t x .nilIface).run P w= .ok (.bool !b) w:=by
        intro _; have f:x= .nilIface∨ ∃d u,x= .iface d u:=by
          cases b with
          | true=>exact .inl (by simpa [RP]using m)
          | false=>exact .inr (by simpa [RP]using m)
        rcases f with rfl | ⟨d,u,rfl⟩<;>(constructor<;>simp only[binOp,Sem.run_bind,R,Result.andThen_ok,Sem.run_pure])
      cases op<;>simp only[KD,z9,reduceCtorEq]at h
      · subst h; exact⟨_,(s .add).1,rfl, .bool _⟩
      · subst h; exact⟨_,(s .add).2,rfl, .bool _⟩
    · cases h
  · rename_i xs ys
    obtain⟨cs,rfl,M⟩:=m; obtain⟨E,rfl,p⟩:=A; unfold cmpZ at h; split at h
    · rename_i zs hz
      split at hz<;>try cases hz
      rename_i i N; obtain⟨s,hz⟩:=NI hz; subst hz; split at h<;>try cases h
      rename_i q b f j; obtain⟨_,_,_,_,_,_,_,_,_,_,_,_,_,C⟩:=B t i N; obtain⟨I,U,gs,J,W,Z⟩:=C s; have D:P.fieldsOf t=gs:=by unfold Program.fieldsOf; rw[J]
      have H:(Op.equalIn 10000 t (.agg cs) (.agg E)).run P w= .ok b w:=by
        rw[run_equalIn_agg w 9999 t cs E (by rw[D]; exact J) U,D]
        exact PA (d:=9998) Z gs.toList xs ys i.zero 0 b q (fun k=>by rw[z30,z26]) rfl (by simpa using W) f j (fun k x g G=>by rw[z30]; exact M k x g G) (fun k x g G=>by rw[z30]; exact p k x g G)
      cases op<;>simp only[KD,z9,reduceCtorEq]at h
      · subst h
        refine⟨.bool b, ?_,rfl, .bool _⟩
        simp only[Sem.run_bind,run_eqGuard_agg w .eql t xo yo cs E I,Result.andThen_ok,run_eql_struct,H]
      · subst h
        refine⟨.bool (!b), ?_,rfl, .bool _⟩
        simp only[Sem.run_bind,run_eqGuard_agg w .neq t xo yo cs E I,Result.andThen_ok,run_neq_struct,H]
    · cases h
  · cases h

def FU:List V→Option (List (Nat×Nat))
 | []=>some []
 | .one (.ptr o off)::r=>(FU r).map ((o,off):: ·)
 | _::_=>none

def vP:V→Option Int
 | .one (.c (.int _ n))=>some n
 | _=>none

def nN(ρ:Operand→V)(len:Nat)(c b a:Option Operand):Option (Nat×Nat):=
 match a with
 | none=>
  (match b with | none=>some (len:Int) | some h=>vP (ρ h)).bind fun h=>
  (match c with | none=>some (0:Int) | some l=>vP (ρ l)).bind fun l=>
  if 0≤l∧l≤h∧h≤(len:Int)then some (l.toNat,h.toNat)else none
 | some m=>match b with
  | none=>none
  | some h=>
   (vP (ρ m)).bind fun m=>(vP (ρ h)).bind fun h=>
   (match c with | none=>some (0:Int) | some l=>vP (ρ l)).bind fun l=>
   if 0≤l∧l≤h∧h≤m∧m≤(len:Int)then some (l.toNat,h.toNat)else none

def xH:List (List T)→Option (List UInt8)
 | []=>some []
 | [.int .u8 n]::r=>if 0≤n∧n<256 then(xH r).map (UInt8.ofNat n.toNat:: ·)else none
 | _=>none

def iN(τ:TypeId→Option TI)(ρ:Operand→V)(o:Op):Option T:=
 match o with
 | .binOp op t x y _=>QX τ op t (ρ x) (ρ y)
 | .unOp op _ x=>match op,ρ x with
  | .not, .one (.c (.bool b))=>some (.bool !b)
  | .neg, .one (.c (.int k n))=>some (.int k (k.wrap (0 - n)))
  | _,_=>none
 | .convert s d x=>match tk τ s,tk τ d,ρ x with
  | some _,some (.int k), .one (.c (.int _ n))=>some (.int k (k.wrap n))
  | some (.sl e),some .str, .one (.c (.sl es))=>match tk τ e with
   | some (.int .u8)=>(xH es).map .str
   | _=>none
  | some .str,some .str, .one (.c (.str s))=>some (.str s)
  | _,_,_=>none
 | .index t x i=>match tk τ t,ρ x,ρ i with
  | some .str, .one (.c (.str s)), .one (.c (.int _ n))=>if 0≤n then(s[n.toNat]?).map fun b=> .int .u8 (b.toNat:Int)else none
  | _,_,_=>none
 | .slice t x h g f=>match tk τ t,ρ x with
  | some .str, .one (.c (.str s))=>if f.isSome then none else(nN ρ s.length h g none).map fun r=> .str ((s.drop r.1).take (r.2 - r.1))
  | some (.sl e), .one (.c (.sl es))=>(τ e).bind fun j=>if es.all (fun x=>x.length == j.size)then(nN ρ es.length h g f).map fun r=> .sl ((es.drop r.1).take (r.2 - r.1))else none
  | _,_=>none
 | .call c=>match c.callee,c.args.toList,c.argTypes.toList with
  | .builtin .len,[x],[t]=>match tk τ t,ρ x with
   | some .str, .one (.c (.str s))=>some (.int .i64 s.length)
   | some (.sl _), .one (.c (.sl es))=>some (.int .i64 es.length)
   | _,_=>none
  | .builtin .max,[x,y],_=>match ρ x,ρ y with
   | .one (.c (.int k a)), .one (.c (.int _ b))=>some (.int k (if b > a then b else a))
   | _,_=>none
  | .builtin .min,[x,y],_=>match ρ x,ρ y with
   | .one (.c (.int k a)), .one (.c (.int _ b))=>some (.int k (if b<a then b else a))
   | _,_=>none
  | _,_,_=>none
 | _=>none

theorem kW(b off n:Nat):(⟨b,off,none⟩:Addr).add n=⟨b,off+n,none⟩:=by
 unfold Addr.add; split
 ·rename_i h; subst h; rfl
 ·rfl

theorem Ba{P:Program}{Q:Nat→Prop}{β:Nat→Nat}{w:World}{ρ:Operand→Value}{ρV:Operand→V}{isSlice:Bool}{len b:Nat}{o j d:Option Operand}{l h:Nat}
  (H: ∀x,o=some x∨j=some x∨d=some x→RP Q β w (ρ x) (ρV x))(e:nN ρV len o j d=some (l,h))(C:len≤b):
  l≤h∧h≤len∧ ∃m,h≤m∧m≤b∧(d=none→m=b)∧(Instr.sliceBounds isSlice len b (o.map ρ) (j.map ρ) (d.map ρ)).run P w= .ok (l,h,m) w:=by
 have a: ∀x (n:Int),(o=some x∨j=some x∨d=some x)→vP (ρV x)=some n→ ∃k,ρ x= .int k n:=by
  intro x n G c; have:=H x G; unfold vP at c; split at c
  ·rename_i k m t
   simp only[z9]at c; subst c; rw[t]at this; exact⟨k,vK this⟩
  ·cases c
 unfold nN at e; split at e
 ·simp only[z19]at e
  obtain⟨f,h1,p,i,e⟩:=e; split at e
  ·rename_i s
   simp only[z9,z38]at e; obtain⟨rfl,rfl⟩:=e; refine⟨by omega,by omega,b,by omega,z59 _,fun _=>rfl, ?_⟩
   have D:f≤(b:Int):=by omega
   have h0:0≤f:=by omega
   have F:p≤((f.toNat:Nat):Int):=by omega
   cases o with
   | none=>
    simp only[z9]at i; subst i; cases j with
    | none=>simp only[z9]at h1; subst h1; simp [Instr.sliceBounds]
    | some c=>
     obtain⟨k,u⟩:=a c f (by simp) h1
     simp [Instr.sliceBounds,Instr.sliceBound,u,asIntOf,h0,D]
   | some lx=>
    obtain⟨I,g⟩:=a lx p (by simp) i
    cases j with
    | none=>
     simp only[z9]at h1; subst h1; have v:p≤(len:Int):=by omega
     simp [Instr.sliceBounds,Instr.sliceBound,g,asIntOf,s.1,v]
    | some c=>
     obtain⟨k,u⟩:=a c f (by simp) h1
     simp only[Instr.sliceBounds,Instr.sliceBound,z33,Uf,u,g,asIntOf,h0,D,s.1,and_self,if_true,Sem.run_bind,Sem.run_pure,Result.andThen_ok,F]
  ·cases e
 ·rename_i J
  split at e
  ·cases e
  ·rename_i c
   simp only[z19]at e; obtain⟨mv,h0,f,h1,p,i,e⟩:=e; split at e
   ·rename_i s
    simp only[z9,z38]at e; obtain⟨rfl,rfl⟩:=e; refine⟨by omega,by omega,mv.toNat,by omega,by omega,fun h=>by(cases h), ?_⟩
    obtain⟨k0,q⟩:=a J mv (by simp) h0
    obtain⟨K,r⟩:=a c f (by simp) h1
    have y:0≤mv:=by omega
    have z:mv≤(b:Int):=by omega
    have A:0≤f:=by omega
    have B:f≤((mv.toNat:Nat):Int):=by omega
    have E:p≤((f.toNat:Nat):Int):=by omega
    cases o with
    | none=>
     simp only[z9]at i; subst i; cases isSlice<;>simp only[Instr.sliceBounds,Instr.sliceBound,z33,Uf,q,r,asIntOf,y,z,A,B,and_self,if_true,Sem.run_bind,Sem.run_pure,Result.andThen_ok,Int.toNat_zero]
    | some lx=>
     obtain⟨I,g⟩:=a lx p (by simp) i
     cases isSlice<;>simp only[Instr.sliceBounds,Instr.sliceBound,z33,q,r,g,asIntOf,y,z,A,B,E,s.1,and_self,if_true,Sem.run_bind,Sem.run_pure,Result.andThen_ok]
   ·cases e

theorem nM{P:Program}{τ:TypeId→Option TI}(e:aX P τ){t:TypeId}{i:TI}(h:τ t=some i): ∃a,P.info? t=some a∧a.size=i.size∧0<i.size:=by
 obtain⟨a,d,z,h1,_,b,_,_,_,_,c,_⟩:=e t i h; exact⟨a,h1,b,c⟩

theorem Gu{P:Nat→Prop}{β:Nat→Nat}{w:World}{v:Value}{d:List (List T)}(h:Rd P w v (.sl d)){n:Nat}{e:List T}(hn:d[n]? =some e){size:Nat}(q:e.length=size)(h0:0<size):
  ∃b off len c,v= .slice (some ⟨b,off,none⟩) len c∧len=d.length∧RP P β w (.pointer (some ⟨b,off+n*size,none⟩)) (.one (.cp e)):=by
 cases h with
 | nil a c=>simp at hn
 | sl b off len c s _ cs k p f i l m=>
  have o:=f n _ hn; have:s=size:=by omega
  subst this; exact⟨b,off,len,c,rfl,k.symm,b,off+n*s,rfl,i,fun j x g=>⟨cs n j,l n _ j x hn g,m n _ j x hn g⟩⟩

theorem Lq{P:Nat→Prop}{w:World}{a:Option Addr}{len g:Nat}{d:List (List T)}(h:Rd P w (.slice a len g) (.sl d)){l k m size:Nat}(G:l≤k)(A:k≤d.length)(B:k≤m)(D:m≤g)
  (F: ∀x∈d,x.length=size):len=d.length∧len≤g∧Rd P w (.slice (if m=l then a else a.map (·.add (l*size))) (k - l) (m - l)) (.sl ((d.drop l).take (k - l))):=by
 cases h with
 | nil a g=>
  simp only[z77]at A; have h1:l=0:=by omega
  have u:k=0:=by omega
  subst h1 u; refine⟨rfl,Si _, ?_⟩
  simp only[List.drop_nil,List.take_nil,z99]; exact .nil _ _
 | sl b off _ _ s _ cs p z o y C E=>
  refine⟨p.symm,z, ?_⟩
  by_cases e:k - l=0
  ·rw[e,z164]; exact .nil _ _
  ·have q:m≠l:=by omega
   rw[z11 q]; simp only[z33,kW]; have r:s=size:=by
    have h0:0<d.length:=by omega
    have h1:=o 0 d[0] (z16 h0)
    have u:=F d[0] (List.getElem_mem h0); omega
   subst r; have c: ∀(i:Nat) (e:List T),((d.drop l).take (k - l))[i]? =some e→d[l+i]? =some e:=by
    intro i e f; rw[z66]at f
    split at f
    ·rwa[z47]at f
    ·cases f
   refine .sl b (off+l*s) (k - l) (m - l) s _ (fun i j=>cs (l+i) j) ?_ (by omega) (fun i e f=>o _ e (c i e f)) y (fun i e j x f t=> ?_) (fun i e j x f t=>E _ e j x (c i e f) t)
   ·simp only[z44,z65]; omega
   ·have:=C _ e j x (c i e f) t
    have v:off+l*s+i*s+j=off+(l+i)*s+j:=by rw[z82]; omega
    rw[v]; exact this

theorem Kd{P:Nat→Prop}{w:World}{v:Value}{d:List (List T)}(h:Rd P w v (.sl d)): ∃a c,v= .slice a d.length c∧d.length≤c:=by
 cases h with
 | nil a c=>exact⟨_,_,rfl,Si _⟩
 | sl b off _ _ s _ cs e f=>subst e; exact⟨_,_,rfl,f⟩

theorem EV: ∀ {c:List (List T)} {s:List UInt8},xH c=some s→c=s.map (fun b=> [.int .u8 (b.toNat:Int)])
 | [],s,h=>by simp only[xH,z9]at h; subst h; rfl
 | e::r,s,h=>by
  unfold xH at h; split at h
  ·rename_i a; cases a
  ·rename_i n f a
   cases a; split at h
   ·rename_i hn
    obtain⟨q,d,rfl⟩:=z22.1 h; rw[EV d]; have:((UInt8.ofNat n.toNat).toNat:Int)=n:=by
     rw[UInt8.toNat_ofNat']; omega
    rw[z54,this]
   ·cases h
  ·cases h

def Jc:Op→Bool
 | .slice _ _ _ _ _=>true
 | _=>false

theorem RM{P:Program}{τ:TypeId→Option TI}(G:aX P τ){Q:Nat→Prop}{β:Nat→Nat}{w:World}{ρ:Operand→Value}{ρV:Operand→V}(o:Oper)(F: ∀x∈o.op.operands,RP Q β w (ρ x) (ρV x))
  (hc2: ∀op t x y u,o.op= .binOp op t x y u→ρV y= .one (.ifc true)→ ∃c,y= .const c){r:T}(h:iN τ ρV o.op=some r):
  ∃v,(execOp ρ o).run P w= .ok (.value v) w∧Rd Q w v r∧(Jc o.op=true∨scal r=true):=by
 obtain⟨dst,op,type,pos,after,guard⟩:=o; simp only at h F hc2; unfold iN at h; split at h
 ·-- binOp
  rename_i bop t x y yt; obtain⟨v,hv,C,hr⟩:=UW G h (F x (by simp [Op.operands])) (F y (by simp [Op.operands])) x y (fun e=>hc2 _ _ _ _ _ rfl e)
  exact⟨v,by simp only[execOp,Sem.run_bind,hv,Result.andThen_ok,Sem.run_pure],hr.scal C, .inr C⟩
 ·-- unOp
  rename_i uop t x; have h1:=F x (by simp [Op.operands])
  split at h
  ·rename_i b f
   simp only[z9]at h; subst h; rw[f]at h1; have e:=KI h1; exact⟨.bool !b,by simp only[execOp,e]; rfl, .bool _, .inr rfl⟩
  ·rename_i k n f
   simp only[z9]at h; subst h; rw[f]at h1; have e:=vK h1; exact⟨.int k (k.wrap (0 - n)),by simp only[execOp,e]; rfl, .int _ _, .inr rfl⟩
  ·cases h
 ·-- convert
  rename_i s d x; have h1:=F x (by simp [Op.operands])
  split at h
  ·rename_i ks k _ n C E f
   simp only[z9]at h; subst h; obtain⟨ds,L,_⟩:=lI G C; obtain⟨dd,K,rfl⟩:=lI G E; rw[f]at h1; have e:=vK h1; refine⟨.int k (k.wrap n), ?_, .int _ _, .inr rfl⟩
   simp only[execOp,e,convert,Sem.run_bind,run_underlying L,run_underlying K,Result.andThen_ok,Conv.intToInt,Sem.run_pure]
  ·rename_i e H C E f
   split at h
   ·rename_i hke
    obtain⟨q,hq,rfl⟩:=z22.1 h; obtain⟨ds,L,rfl⟩:=lI G C; obtain⟨dd,K,rfl⟩:=lI G E; obtain⟨de,hde,rfl⟩:=lI G hke; rw[f]at h1; have g:Rd Q w (ρ x) (.sl H):=h1; have R:=EV hq; obtain⟨a,I,B,_⟩:=Kd g; have D:H.length=q.length:=by rw[R]; simp
    suffices hsuf:(Conv.bytesToString (.slice a H.length I)).run P w= .ok (.string ⟨q.toArray⟩) w by
     refine⟨.string ⟨q.toArray⟩, ?_,by simpa using Rd.str (P:=Q) (w:=w) ⟨q.toArray⟩, .inr rfl⟩
     simp only[execOp,B,Sem.run_bind,run_convert_bytes_string w s d e a H.length I L hde K,hsuf,Result.andThen_ok,Sem.run_pure]
    cases a with
    | none=>
     rw[B]at g; generalize hn:H.length=n at g; cases g with
     | nil=>
      have:q=[]:=by cases q with | nil=>rfl | cons a r=>rw[R]at hn; simp at hn
      subst this; rfl
    | some ad=>
     have Y:(loadCells ad H.length).run P w= .ok ((q.map fun b=>(b.toNat:Int)).map (Value.int .u8)).toArray w:=by
      rw[B]at g; generalize hn:H.length=n at g; cases g with
      | nil=>
       have:q=[]:=by cases q with | nil=>rfl | cons a r=>rw[R]at hn; simp at hn
       subst this; simp [loadCells,loadCellsFrom]
      | sl b off _ _ s1 _ cs hl hc' hs2 hP hm hr=>
       have A:=run_loadCells_list (P:=P) w ⟨b,off,none⟩ ((q.map fun b=>(b.toNat:Int)).map (Value.int .u8)) (fun j v hv=>by
        rw[Vn,z28]at hv
        obtain⟨c,hc1,rfl⟩:=z22.1 hv; have he:H[j]? =some [.int .u8 (c.toNat:Int)]:=by rw[R,z28,hc1]; rfl
        have U:s1=1:=(hs2 j _ he).symm; subst U; have Z:=hm j _ 0 _ he rfl; have h4:=hr j _ 0 _ he rfl; rw[kW]; rw[Nat.mul_one,z69]at Z; rw[Z]; generalize cs j 0=z at h4; cases h4; rfl)
       simpa [←D,hn]using A
     rw[run_bytesToString w ad H.length I _ Y]; congr 2
     have W: ∀(l:List UInt8) (O:ByteArray),((l.map fun b=>(b.toNat:Int)).foldl (fun r n=>r.push (UInt8.ofNat n.toNat)) O)=⟨O.data++l.toArray⟩:=by
      intro l; induction l with
      | nil=>intro O; simp
      | cons a r ih=>
       intro O; rw[z54,Vt,ih]; simp [ByteArray.push]
     rw[W]; have:ByteArray.empty.data= #[]:=rfl; rw[this,Array.empty_append]
   ·cases h
  ·rename_i s' C E f
   simp only[z9]at h; subst h; obtain⟨ds,L,rfl⟩:=lI G C; obtain⟨dd,K,rfl⟩:=lI G E; rw[f]at h1; obtain⟨a,e,rfl⟩:=FN h1; refine⟨.string a, ?_, .str _, .inr rfl⟩
   simp only[execOp,e,convert,Sem.run_bind,run_underlying L,run_underlying K,Result.andThen_ok,Sem.run_pure]
  ·cases h
 ·-- index
  rename_i t x i; have h1:=F x (by simp [Op.operands])
  have S:=F i (by simp [Op.operands])
  split at h
  ·rename_i s k n C f heqi
   split at h
   ·rename_i h0
    obtain⟨b,N,rfl⟩:=z22.1 h; obtain⟨d,E,rfl⟩:=lI G C; rw[f]at h1; rw[heqi]at S; obtain⟨a,B,rfl⟩:=FN h1; have U:=vK S; refine⟨.int .u8 (b.toNat:Int), ?_, .int _ _, .inr rfl⟩
    have hlt:n.toNat<a.size:=by
     rcases z94 n.toNat a.data.toList.length with Z | Z
     ·simpa using Z
     ·rw[z67 Z]at N; cases N
    have hg:a[n.toNat]? =some b:=by
     rw[getElem?_pos a n.toNat hlt]
     rw[z26]at N
     have hlt':n.toNat<a.data.size:=hlt; rw[z68 hlt']at N
     exact N
    simp only[execOp,Instr.index,B,U,asIntOf,Sem.run_bind,Sem.run_pure,Result.andThen_ok,run_underlying E,h0,if_true,hg]
   ·cases h
  ·cases h
 ·-- slice
  rename_i t x lo hi mx; have h1:=F x (by simp [Op.operands])
  split at h
  ·rename_i s C f
   split at h
   ·cases h
   ·rename_i hmx
    have hmx':mx=none:=by cases mx with | none=>rfl | some m=>simp at hmx
    subst hmx'; obtain⟨⟨l,u⟩,N,rfl⟩:=z22.1 h; obtain⟨d,E,rfl⟩:=lI G C; rw[f]at h1; obtain⟨a,B,rfl⟩:=FN h1; have D:a.data.toList.length=a.size:=z45; rw[D]at N; obtain⟨b1,b2,m,b3,b4,_,A⟩:=Ba (P:=P) (isSlice:=false) (fun y hy=>F y (by rcases hy with rfl | rfl | hy<;>simp_all [Op.operands])) N (z59 _)
    refine⟨.string (a.extract l u), ?_, ?_, .inl rfl⟩
    ·simp only[Uf]at A
     simp only[execOp,Instr.sliceAt,Instr.slice,B,Sem.run_bind,Sem.run_pure,Result.andThen_ok,run_underlying E,Uf,Option.isSome_none,z51,if_false,A]
    ·have e:(a.extract l u).data.toList=(a.data.toList.drop l).take (u - l):=by simp [ByteArray.data_extract]
     rw[←e]; exact .str _
  ·rename_i e H C f
   obtain⟨ei,he,h⟩:=z19.1 h; split at h
   ·rename_i hall
    obtain⟨⟨l,u⟩,N,rfl⟩:=z22.1 h; obtain⟨d,E,rfl⟩:=lI G C; obtain⟨info,X,hsz,_⟩:=nM G he; rw[f]at h1; have g:Rd Q w (ρ x) (.sl H):=h1; obtain⟨a,I,B,hcap⟩:=Kd g; rw[B]at g; obtain⟨b1,b2,m,b3,b4,_,A⟩:=Ba (P:=P) (isSlice:=true) (fun y hy=>F y (by rcases hy with rfl | rfl | rfl<;>simp [Op.operands])) N hcap
    obtain⟨_,_,hr⟩:=Lq g (l:=l) (k:=u) (m:=m) b1 b2 b3 b4 (size:=ei.size) (fun y hy=>by simpa using z18.1 hall y hy)
    refine⟨.slice (if m=l then a else a.map (·.add (l*ei.size))) (u - l) (m - l), ?_,hr, .inl rfl⟩
    simp only[execOp,Instr.sliceAt,Instr.slice,B,Sem.run_bind,Sem.run_pure,Result.andThen_ok,run_underlying E,A,sizeOf,typeInfo,run_program,X,hsz]
   ·cases h
  ·cases h
 ·-- call
  rename_i cl; obtain⟨callee,p,ats⟩:=cl; simp only at h; split at h
  ·-- len
   rename_i x t ha ht; have J:p= #[x]:=by cases p; simp_all
   have ht':ats= #[t]:=by cases ats; simp_all
   subst J ht'; have h1:=F x (by simp [Op.operands,Call.operands])
   split at h
   ·rename_i s C f
    simp only[z9]at h; subst h; obtain⟨d,E,rfl⟩:=lI G C; rw[f]at h1; obtain⟨a,B,rfl⟩:=FN h1; have D:a.data.toList.length=a.size:=z45; rw[D]; refine⟨.int .i64 a.size, ?_, .int _ _, .inr rfl⟩
    simp [execOp,resolve,invoke,builtin,Builtin.len_,B,run_underlying E,goInt]
   ·rename_i e H C f
    simp only[z9]at h; subst h; obtain⟨d,E,rfl⟩:=lI G C; rw[f]at h1; obtain⟨a,I,B,_⟩:=Kd h1; refine⟨.int .i64 H.length, ?_, .int _ _, .inr rfl⟩
    simp [execOp,resolve,invoke,builtin,Builtin.len_,B,run_underlying E,goInt]
   ·cases h
  ·-- max
   rename_i ts x y ha; have J:p= #[x,y]:=by cases p; simp_all
   subst J; have h1:=F x (by simp [Op.operands,Call.operands])
   have S:=F y (by simp [Op.operands,Call.operands])
   split at h
   ·rename_i k a _ b f M
    simp only[z9]at h; subst h; rw[f]at h1; rw[M]at S; have B:=vK h1; have U:=vK S; refine⟨_, ?_, .int _ _, .inr rfl⟩
    simp [execOp,resolve,invoke,builtin,B,U,run_max_int2]
   ·cases h
  ·-- min
   rename_i ts x y ha; have J:p= #[x,y]:=by cases p; simp_all
   subst J; have h1:=F x (by simp [Op.operands,Call.operands])
   have S:=F y (by simp [Op.operands,Call.operands])
   split at h
   ·rename_i k a _ b f M
    simp only[z9]at h; subst h; rw[f]at h1; rw[M]at S; have B:=vK h1; have U:=vK S; refine⟨_, ?_, .int _ _, .inr rfl⟩
    simp [execOp,resolve,invoke,builtin,B,U,run_min_int2]
   ·cases h
  ·cases h
 ·cases h

structure St where
  n:Nat
  sl:Nat→V
  ob:Un
  fl:Loc→K

def W.leaf:W→Nat→Option T
  | .c x,0=>some x
  | .ag xs,j=>xs[j]?
  | _,_=>none
def V.leaf:V→Nat→Nat→Option T
  | .one w,0,j=>w.leaf j
  | .tup d,k,j=>(d[k]?).bind (·.leaf j)
  | _,_,_=>none
def atL(sl:Nat→V)(ob:Un):Loc→Option T
  | .s i k j=>(sl i).leaf k j
  | .oc o j=>(ob o).bind (·[j]?)
  | _=>none
def St.at(st:St)(l:Loc):Option T:=atL st.sl st.ob l

def Hh:Value→Nat→Option Value
  | .agg cs,j=>cs[j]?
  | v,0=>some v
  | _,_=>none
def sG:Value→Nat→Nat→Option Value
  | .tuple vs,k,j=>(vs[k]?).bind (Hh · j)
  | v,0,j=>Hh v j
  | _,_,_=>none
def vAt(tmps:Array Value)(β:Nat→Nat)(w:World):Loc→Option Value
  | .s i k j=>sG (tmps.getD i undef) k j
  | .oc o j=>w.cell? ⟨β o,j,none⟩
  | _=>none

def nV(v:Value):Prop:=(∀cs,v≠ .agg cs)∧ ∀vs,v≠ .tuple vs

def CpR(g:G)(w:World)(κ:K)(b off:Nat)(xs:List T):Prop:=
  match κ with
  | .D=>True
  | .F=>frz g w b∧ ∀(j:Nat) x,xs[j]? =some x→ ∃c,w.cell? ⟨b,off+j,none⟩=some c∧Rd (frz g w) w c x
  | .V=>all g w b∧ ∀(j:Nat) x,xs[j]? =some x→ ∃c,w.cell? ⟨b,off+j,none⟩=some c∧Rd (all g w) w c x
  | _=>False

def RW(g:G)(w:World)(κ:Nat→K)(l:Nat→Loc)(v:Value):W→Prop
  | .c x=>nV v∧LF g w (κ 0) (l 0) v x
  | .ag xs=> ∃cs:Array Value,v= .agg cs∧cs.size=xs.length∧ ∀(j:Nat) x,xs[j]? =some x→ ∃c,cs[j]? =some c∧nV c∧LF g w (κ j) (l j) c x
  | .ptr o off=>v= .pointer (some ⟨g.β o,off,none⟩)
  | .cp xs=> ∃b off,v= .pointer (some ⟨b,off,none⟩)∧CpR g w (κ 0) b off xs
  | .nilp=>v= .pointer none
  | .ifc b=>if b then v= .nilIface else ∃d u,v= .iface d u
  | .fn f caps=>v= .func (.func f) #[] (caps.map fun c=>Value.pointer (some ⟨g.β c.1,c.2,none⟩)).toArray
  | _=>True

def RV(g:G)(w:World)(κ:Nat→Nat→K)(l:Nat→Nat→Loc)(v:Value):V→Prop
  | .one x=>RW g w (κ 0) (l 0) v x
  | .tup d=> ∃vs:Array Value,v= .tuple vs∧vs.size=d.length∧ ∀(k:Nat) x,d[k]? =some x→ ∃u,vs[k]? =some u∧RW g w (κ k) (l k) u x

inductive Pl (w:World):Value→T→List (Nat×Nat)→Value→T→Prop
  | nil (v:Value) (x:T):Pl w v x [] v x
  | cons (b off len cap:Nat) (es:List (List T)) (e:List T) (c:Value) (y:T) (i j:Nat) (p:List (Nat×Nat)) (v':Value) (x':T) (he:es[i]? =some e) (hy:e[j]? =some y)
      (hc:w.cell? ⟨b,off+i*e.length+j,none⟩=some c) (h:Pl w c y p v' x'):Pl w (.slice (some ⟨b,off,none⟩) len cap) (.sl es) ((i,j)::p) v' x'

def aI:V→Loc
  | .one (.al l _)=>l
  | .one (.pp l _ _ _)=>l
  | _=> .none

def GC(st:St)(tmps:Array Value)(β:Nat→Nat)(w:World)(v:Value):V→Prop
  | .one (.al l p)=> ∃d x0 x',vAt tmps β w l=some d∧st.at l=some x0∧Pl w d x0 p v x'
  | .one (.pp l p i j)=> ∃d x0 b off len cap es e,vAt tmps β w l=some d∧st.at l=some x0∧Pl w d x0 p (.slice (some ⟨b,off,none⟩) len cap) (.sl es)∧es[i]? =some e∧v= .pointer (some ⟨b,off+i*e.length+j,none⟩)
  | _=>True

def par:Nat:=1000000

def qQ(l:Loc):Prop:=l= .none∨l= .ext

def TB:Nat→Option (Array Value):=fun _=>none
def Tab(g:G)(w:World):Prop:= ∀b arr,TB b=some arr→g.own b= .none∧ ∃ty d,w.heap[b]? =some (.cells arr ty d)

structure pO (g0:G) (w0:World) (g:G) (w:World):Prop where
  tab:Tab g0 w0
  os:w.os=w0.os
  tape:w.tape=w0.tape
  output:w.output=w0.output
  evo:Evo g0 w0 g w (fun l=> ¬ qQ l)

structure bP (g0:G) (w0:World) (st:St) (a:Act) (g:G) (w:World):Prop where
  framed:pO g0 w0 g w
  ok:GOk g w
  size:a.tmps.size=st.n
  defers:a.defers=[]
  slots: ∀i,RV g w (fun k j=>st.fl (.s i k j)) (fun k j=> .s i k j) (a.tmps.getD i undef) (st.sl i)
  obs: ∀o cells,st.ob o=some cells→ ∃arr ty,w.heap[g.β o]? =some (.cells arr ty (0,0))∧arr.size=cells.length∧g.own (g.β o)= .obj o∧
    ∀(j:Nat) x,cells[j]? =some x→ ∃c,arr[j]? =some c∧nV c∧LF g w (st.fl (.oc o j)) (.oc o j) c x
  pls: ∀i,aI (st.sl i)≠ .none→st.fl (.s i 0 0)≠ .D→(st.fl (aI (st.sl i))).hold=true∧GC st a.tmps g.β w (a.tmps.getD i undef) (st.sl i)
  bp: ∀o,par≤o→g.β o=g0.β o
  nle:st.n≤par

def Sim(g0:G)(w0:World)(st:St)(a:Act)(w:World):Prop:= ∃g,bP g0 w0 st a g w

theorem pO.refl(g:G)(w:World)(d:Tab g w):pO g w g w:=⟨d,rfl,rfl,rfl,Evo.refl _ _ _⟩
theorem pO.now{g0 g:G}{w0 w:World}(h:pO g0 w0 g w):Tab g w:=fun b arr m=>by
  obtain⟨h1,ty,f,d⟩:=h.tab b arr m; obtain⟨r,t⟩:=h.evo.keep b (z25.1 d).1 (by rw[h1]; exact fun q=>q (.inl rfl))
  exact⟨r.trans h1,ty,f,t.trans d⟩
theorem pO.trans{g0 d f:G}{w0 m q:World}(h:pO g0 w0 d m)(k:pO d m f q):pO g0 w0 f q:=⟨h.tab,k.os.trans h.os,k.tape.trans h.tape,k.output.trans h.output,h.evo.trans k.evo⟩

theorem St.at_s(st:St)(i k j:Nat):st.at (.s i k j)=(st.sl i).leaf k j:=rfl
theorem St.at_oc(st:St)(o j:Nat):st.at (.oc o j)=(st.ob o).bind (·[j]?):=rfl

theorem iX{v:Value}(h:nV v):Hh v 0=some v∧sG v 0 0=some v:=by
  cases v<;>first | exact⟨rfl,rfl⟩ | exact absurd rfl (h.1 _) | exact absurd rfl (h.2 _)

theorem RW.leaf{g:G}{w:World}{κ:Nat→K}{l:Nat→Loc}{v:Value}{x:W}{j:Nat}{t:T}(h:RW g w κ l v x)(d:x.leaf j=some t): ∃u,Hh v j=some u∧sG v 0 j=some u∧nV u∧LF g w (κ j) (l j) u t:=by
  cases x with
  | c y=>
    cases j with
    | zero=>
      simp only[W.leaf,z9]at d; subst d; exact⟨v,(iX h.1).1,(iX h.1).2,h.1,h.2⟩
    | succ j=>simp [W.leaf]at d
  | ag xs=>
    obtain⟨cs,rfl,q,f⟩:=h; obtain⟨c,hc,hn,m⟩:=f j t d; exact⟨c,hc,hc,hn,m⟩
  | _=>simp [W.leaf]at d

theorem RV.leaf{g:G}{w:World}{κ:Nat→Nat→K}{l:Nat→Nat→Loc}{v:Value}{x:V}{k j:Nat}{t:T}(h:RV g w κ l v x)(d:x.leaf k j=some t): ∃u,sG v k j=some u∧nV u∧LF g w (κ k j) (l k j) u t:=by
  cases x with
  | one x=>
    cases k with
    | zero=>
      obtain⟨u,_,m,hn,f⟩:=RW.leaf h d; exact⟨u,m,hn,f⟩
    | succ k=>simp [V.leaf]at d
  | tup C=>
    obtain⟨vs,rfl,B,r⟩:=h; simp only[V.leaf,z19]at d; obtain⟨y,hy,d⟩:=d; obtain⟨u,m,z⟩:=r k y hy; obtain⟨A,q,_,hn,f⟩:=RW.leaf z d; exact⟨A,by simp [sG,m,q],hn,f⟩

theorem bP.get{g0:G}{w0:World}{st:St}{a:Act}{g:G}{w:World}(h:bP g0 w0 st a g w){l:Loc}{x:T}(d:st.at l=some x): ∃v,vAt a.tmps g.β w l=some v∧nV v∧LF g w (st.fl l) l v x:=by
  cases l with
  | none=>simp [St.at,atL]at d
  | ext=>simp [St.at,atL]at d
  | obj o=>simp [St.at,atL]at d
  | s i k j=>exact(h.slots i).leaf d
  | oc o j=>
    simp only[St.at,atL,z19]at d; obtain⟨cells,hc,d⟩:=d; obtain⟨arr,ty,h1,t,u,r⟩:=h.obs o cells hc; obtain⟨c,f,m,q⟩:=r j x d; exact⟨c,by simp only[vAt]; rw[cJ w _ j arr ty _ h1]; exact f,m,q⟩

theorem He{st:St}{l:Loc}{x:T}(d:st.at l=some x):l≠ .none∧l≠ .ext∧ ∀o,l≠ .obj o:=by
  cases l<;>first | (simp [St.at,atL]at d; done) | exact⟨by simp,by simp,by simp⟩

theorem at_isPlace{st:St}{l:Loc}{x:T}(d:st.at l=some x):l.place=true:=by
  cases l<;>first | (simp [St.at,atL]at d; done) | rfl

theorem CpR.evo{g g':G}{w w':World}{X:Loc→Prop}{κ:K}{b off:Nat}{xs:List T}(z:Evo g w g' w' X)(hn: ¬ X .none)(B:κ= .D∨κ= .F∨ ∀b,all g w b→all g' w' b∧w'.heap[b]? =w.heap[b]?)(h:CpR g w κ b off xs):CpR g' w' κ b off xs:=by
  have m: ∀b,frz g w b→frz g' w' b∧w'.heap[b]? =w.heap[b]? :=fun b f=>by
    obtain⟨h1,d⟩:=z.keep b f.1 (by rw[f.2]; exact hn)
    exact⟨⟨z46 f.1 z.size,h1.trans f.2⟩,d⟩
  have u:(∀b,all g w b→all g' w' b∧w'.heap[b]? =w.heap[b]?)→(all g w b∧ ∀(j:Nat) x,xs[j]? =some x→ ∃c,w.cell? ⟨b,off+j,none⟩=some c∧Rd (all g w) w c x)→
      (all g' w' b∧ ∀(j:Nat) x,xs[j]? =some x→ ∃c,w'.cell? ⟨b,off+j,none⟩=some c∧Rd (all g' w') w' c x):=by
    rintro q ⟨h1,d⟩
    refine⟨(q b h1).1,fun j x t=> ?_⟩
    obtain⟨c,hc,r⟩:=d j x t; exact⟨c,(cI (q b h1).2).trans hc,r.mono q⟩
  cases κ with
  | D=>trivial
  | F=>
    obtain⟨h1,d⟩:=h; refine⟨(m b h1).1,fun j x t=> ?_⟩
    obtain⟨c,hc,r⟩:=d j x t; exact⟨c,(cI (m b h1).2).trans hc,r.mono m⟩
  | V=>exact u (by simpa using B) h
  | A n=>exact h.elim
  | U n=>exact h.elim
  | S=>exact h.elim
  | N=>exact h.elim

structure zW (g:G) (w:World) (g':G) (w':World) (X:Loc→Prop) (st:St):Prop where
  evo:Evo g w g' w' X
  X: ∀l,X l→ ¬ qQ l∧ ∀o,l≠ .obj o
  V:(∀b,all g w b→all g' w' b∧w'.heap[b]? =w.heap[b]?)∨ ∀l,st.fl l≠ .V
  os:w'.os=w.os
  tape:w'.tape=w.tape
  output:w'.output=w.output
  ok:GOk g' w'

theorem zW.none{g g':G}{w w':World}{X:Loc→Prop}{st:St}(h:zW g w g' w' X st): ¬ X .none:=fun d=>(h.X _ d).1 (.inl rfl)
theorem zW.framed{g g':G}{w w':World}{X:Loc→Prop}{st:St}(h:zW g w g' w' X st)(f:Tab g w):pO g w g' w':=⟨f,h.os,h.tape,h.output,h.evo.mono fun l d=>(h.X l d).1⟩

theorem zW.lf{g g':G}{w w':World}{X:Loc→Prop}{st:St}(h:zW g w g' w' X st)(d:GOk g w){l:Loc}{v:Value}{x:T}(q:l≠ .none)(r:(st.fl l).hold=true→ ¬ X l)(m:LF g w (st.fl l) l v x):LF g' w' (st.fl l) l v x:=by
  refine LF.evo h.evo d q h.none r (fun f=> ?_) m
  rcases h.V with h1 | h1
  · exact h1
  · exact absurd f (h1 l)

theorem RW.calm{g g':G}{w w':World}{X:Loc→Prop}{st:St}(h:zW g w g' w' X st)(q:GOk g w)(u: ∀o,g'.β o=g.β o){i k:Nat}(t: ∀j,(st.fl (.s i k j)).hold=true→ ¬ X (.s i k j)){v:Value}{x:W}(m:RW g w (fun j=>st.fl (.s i k j)) (fun j=> .s i k j) v x):
    RW g' w' (fun j=>st.fl (.s i k j)) (fun j=> .s i k j) v x:=by
  cases x with
  | c y=>exact⟨m.1,h.lf q (by simp) (t 0) m.2⟩
  | ag xs=>
    obtain⟨cs,h1,d,E⟩:=m; refine⟨cs,h1,d,fun j y hy=> ?_⟩
    obtain⟨c,z,B,C⟩:=E j y hy; exact⟨c,z,B,h.lf q (by simp) (t j) C⟩
  | ptr o off=>simp only[RW]at m ⊢; rw[u]; exact m
  | cp xs=>
    obtain⟨b,off,h1,d⟩:=m; refine⟨b,off,h1, ?_⟩
    have hc: ∀κ,κ=st.fl (.s i k 0)→CpR g w κ b off xs→CpR g' w' κ b off xs:=by
      intro κ H d; rcases h.V with r | r
      · exact d.evo h.evo h.none (.inr (.inr r))
      · cases κ with
        | D=>trivial
        | F=>exact d.evo h.evo h.none (.inr (.inl rfl))
        | V=>exact absurd H.symm (r (.s i k 0))
        | A n=>exact d.elim
        | U n=>exact d.elim
        | S=>exact d.elim
        | N=>exact d.elim
    exact hc _ rfl d
  | nilp=>exact m
  | ifc b=>exact m
  | fn f caps=>simp only[RW]at m ⊢; simp only[u]; exact m
  | _=>trivial

theorem RV.calm{g g':G}{w w':World}{X:Loc→Prop}{st:St}(h:zW g w g' w' X st)(d:GOk g w)(q: ∀o,g'.β o=g.β o){i:Nat}(f: ∀k j,(st.fl (.s i k j)).hold=true→ ¬ X (.s i k j)){v:Value}{x:V}(m:RV g w (fun k j=>st.fl (.s i k j)) (fun k j=> .s i k j) v x):
    RV g' w' (fun k j=>st.fl (.s i k j)) (fun k j=> .s i k j) v x:=by
  cases x with
  | one x=>exact RW.calm h d q (f 0) m
  | tup C=>
    obtain⟨vs,h1,r,t⟩:=m; refine⟨vs,h1,r,fun k x B=> ?_⟩
    obtain⟨u,A,z⟩:=t k x B; exact⟨u,A,RW.calm h d q (f k) z⟩

theorem Rd.pl{P:Nat→Prop}{w w':World}{v:Value}{x:T}(h:Rd P w v x)(t: ∀b,P b→w'.heap[b]? =w.heap[b]?): ∀ {p:List (Nat×Nat)} {v':Value} {x':T},Pl w v x p v' x'→Pl w' v x p v' x':=by
  induction h with
  | sl b off len cap s es cs z hc f q r A u=>
    intro p v' x' d; cases d with
    | nil=>exact .nil _ _
    | cons b off len cap es e c y i j p v' x' he hy hc h=>
      have m:=f i e he; have h1:=r i e j y he hy; rw[m]at hc; rw[h1]at hc; cases hc; exact .cons b off len cap es e _ y i j p v' x' he hy (by rw[m,cI (t b q)]; exact h1) (u i e j y he hy h)
  | nil a cap=>
    intro p v' x' d; cases d with
    | nil=>exact .nil _ _
    | cons b off len cap es e c y i j p v' x' he hy hc h=>simp at he
  | _=>
    intro p v' x' d; cases d with
    | nil=>exact .nil _ _

theorem Ow.pl{Z:Nat→Prop}{f:Bool}{w w':World}{t:Option Nat}{F:Nat→Prop}{v:Value}{x:T}(h:Ow Z f w t F v x)(z: ∀b,Z b→w'.heap[b]? =w.heap[b]?):(∀b,F b→w'.heap[b]? =w.heap[b]?)→ ∀ {p:List (Nat×Nat)} {v':Value} {x':T},Pl w v x p v' x'→Pl w' v x p v' x':=by
  induction h with
  | frz F v x J h=>intro _ p v' x' d; exact h.pl z d
  | sl t F b len cap s arr ty es own cs N A u L hc r E I C M H=>
    intro q p v' x' d; cases d with
    | nil=>exact .nil _ _
    | cons _ off len cap es e c y i j p v' x' he hy hc h=>
      have m:=E i e he; have h1:=C i e j y he hy; rw[z30,m,cJ w b _ arr ty _ u,h1]at hc; cases hc; exact .cons b 0 len cap es e _ y i j p v' x' he hy (by rw[z30,m,cI (q b A),cJ w b _ arr ty _ u]; exact h1) (H i e j y he hy (fun k B=>q k B.1) h)
  | nil t F a=>
    intro _ p v' x' d; cases d with
    | nil=>exact .nil _ _
    | cons b off len cap es e c y i j p v' x' he hy hc h=>simp at he
  | _=>
    intro _ p v' x' d; cases d with
    | nil=>exact .nil _ _

theorem Act.put_getD(a:Act)(d:Nat)(u:Value)(i:Nat)(f:d<a.tmps.size):(a.put (some d) u).tmps.getD i undef=if i=d then u else a.tmps.getD i undef:=by
  simp only[Act.put,z43]; by_cases h:i=d
  · subst h
    rw[z17 rfl,z100 f]; rfl
  · rw[z11 h,z92 (Ne.symm h)]

def aS(d:Nat):Loc→Bool
  | .s i _ _=>i == d
  | _=>false

def St.put(st:St)(d:Nat)(r:V)(κ:Nat→Nat→K):St:=
  { n:=st.n
    sl:=fun i=>if i=d then r else st.sl i
    ob:=st.ob
    fl:=fun l=>match l with
      | .s i k j=>if i=d then κ k j else if k=0∧j=0∧aS d (aI (st.sl i))=true then .D else st.fl (.s i k j)
      | l=>st.fl l }

theorem Ua{g:G}{w:World}{κ κ':Nat→Nat→K}{l l':Nat→Nat→Loc}{v:Value}{x:V}(d:aI x≠ .none):RV g w κ l v x=RV g w κ' l' v x:=by
  cases x with
  | one x=>cases x<;>first | rfl | exact absurd rfl d
  | tup f=>exact absurd rfl d

theorem LG(d:Nat):aS d .none=false:=rfl

theorem AY{a:Act}{d:Nat}{u:Value}(f:d<a.tmps.size){β:Nat→Nat}{w:World}{l:Loc}(m:aS d l=false):vAt (a.put (some d) u).tmps β w l=vAt a.tmps β w l:=by
  cases l with
  | s i k j=>
    have:i≠d:=by intro e; subst e; simp [aS]at m
    simp only[vAt]; rw[Act.put_getD a d u i f,z11 this]
  | _=>rfl

theorem at_put{st:St}{d:Nat}{r:V}{κ:Nat→Nat→K}{l:Loc}(f:aS d l=false):(st.put d r κ).at l=st.at l:=by
  cases l with
  | s i k j=>
    have:i≠d:=by intro e; subst e; simp [aS]at f
    simp only[St.at,atL,St.put,z11 this]
  | _=>rfl

theorem GC.congr{st r:St}{tmps d:Array Value}{β β':Nat→Nat}{w w':World}{v:Value}{x:V}(h:GC st tmps β w v x)(h1:vAt d β' w' (aI x)=vAt tmps β w (aI x))(u:r.at (aI x)=st.at (aI x))
    (z: ∀f x0 p v' x',vAt tmps β w (aI x)=some f→st.at (aI x)=some x0→Pl w f x0 p v' x'→Pl w' f x0 p v' x'):GC r d β' w' v x:=by
  cases x with
  | tup B=>trivial
  | one x=>
    cases x with
    | al l p=>
      obtain⟨f,x0,x',m,q,t⟩:=h; exact⟨f,x0,x',h1.trans m,u.trans q,z _ _ _ _ _ m q t⟩
    | pp l p i j=>
      obtain⟨f,x0,b,off,len,cap,es,e,m,q,t,A⟩:=h; exact⟨f,x0,b,off,len,cap,es,e,h1.trans m,u.trans q,z _ _ _ _ _ m q t,A⟩
    | _=>trivial

theorem bP.pl_evo{g0:G}{w0:World}{st:St}{a:Act}{g:G}{w:World}(h:bP g0 w0 st a g w){g':G}{w':World}{X:Loc→Prop}(r:Evo g w g' w' X)(hn: ¬ X .none){l:Loc}(z:(st.fl l).hold=true)(E: ¬ X l){m:Value}{x0:T}(H:vAt a.tmps g.β w l=some m)(C:st.at l=some x0)
    {p:List (Nat×Nat)}{v':Value}{x':T}(B:Pl w m x0 p v' x'):Pl w' m x0 p v' x':=by
  obtain⟨v,q,_,f⟩:=h.get C; rw[H]at q; cases q; have F:=(He C).1; have u: ∀b,frz g w b→w'.heap[b]? =w.heap[b]? :=fun b d=>(r.keep b d.1 (by rw[d.2]; exact hn)).2
  have t: ∀b,g.own b=l→w'.heap[b]? =w.heap[b]? :=fun b d=>(r.keep b (h.ok.own b (by rw[d]; exact F)) (by rw[d]; exact E)).2
  generalize st.fl l=κ at z f; cases κ with
  | A n=>exact Ow.pl f u t B
  | U n=>exact Ow.pl f u t B
  | _=>simp [K.hold]at z

theorem bP.put{g0:G}{w0:World}{st:St}{a:Act}{g:G}{w:World}(h:bP g0 w0 st a g w){g':G}{w':World}{X:Loc→Prop}(H:zW g w g' w' X st)(hβ: ∀o,g'.β o=g.β o){d:Nat}(hd:d<st.n)
    (hX: ∀l,(st.fl l).hold=true→(∃x,st.at l=some x)→aS d l=false→ ¬ X l){u:Value}{r:V}{κ:Nat→Nat→K}(hr:RV g' w' κ (fun k j=> .s d k j) u r)
    (hpl:aI r≠ .none→κ 0 0≠ .D→(st.fl (aI r)).hold=true∧aS d (aI r)=false∧GC st a.tmps g'.β w' u r):
    bP g0 w0 (st.put d r κ) (a.put (some d) u) g' w':=by
  have M:d<a.tmps.size:=by rw[h.size]; exact hd
  have Q: ∀l x,st.at l=some x→aS d l=false→(st.fl l).hold=true→ ¬ X l:=fun l x E hl hk=>hX l hk ⟨x,E⟩ hl
  refine⟨h.framed.trans (H.framed h.framed.now),H.ok, ?_,h.defers,fun i=> ?_,fun o cells hc=> ?_,fun i P Z=> ?_,fun o ho=>(hβ o).trans (h.bp o ho),h.nle⟩
  · simp only[Act.put,z112]; exact h.size
  · rw[Act.put_getD a d u i M]
    by_cases P:i=d
    · subst P
      simp only[St.put,if_true]; exact hr
    · simp only[St.put,z11 P]
      by_cases B:aI (st.sl i)= .none
      · have e:(fun k j=>if k=0∧j=0∧aS d (aI (st.sl i))=true then K.D else st.fl (.s i k j))=fun k j=>st.fl (.s i k j):=by
          funext k j
          rw[B,LG,z11 (by simp)]
        rw[e]; have q:=h.slots i; generalize hs:st.sl i=x at q; have hat: ∀k j t,x.leaf k j=some t→st.at (.s i k j)=some t:=fun k j t ht=>by rw[St.at_s,hs]; exact ht
        have Y: ∀k j,aS d (.s i k j)=false:=fun k j=>by simp [aS,P]
        have hW: ∀k (y:W),(∀j t,y.leaf j=some t→st.at (.s i k j)=some t)→ ∀v,RW g w (fun j=>st.fl (.s i k j)) (fun j=> .s i k j) v y→RW g' w' (fun j=>st.fl (.s i k j)) (fun j=> .s i k j) v y:=by
          intro k y hy v L; cases y with
          | c z=>exact⟨L.1,H.lf h.ok (by simp) (Q _ z (hy 0 z rfl) (Y k 0)) L.2⟩
          | ag xs=>
            obtain⟨cs,h1,m,J⟩:=L; refine⟨cs,h1,m,fun j z hz=> ?_⟩
            obtain⟨c,c1,c2,c3⟩:=J j z hz; exact⟨c,c1,c2,H.lf h.ok (by simp) (Q _ z (hy j z hz) (Y k j)) c3⟩
          | ptr o off=>simp only[RW]at L ⊢; rw[hβ]; exact L
          | cp xs=>
            obtain⟨b,off,h1,m⟩:=L; refine⟨b,off,h1, ?_⟩
            have hc: ∀κ,κ=st.fl (.s i k 0)→CpR g w κ b off xs→CpR g' w' κ b off xs:=by
              intro κ hκ m; rcases H.V with hV | hV
              · exact m.evo H.evo H.none (.inr (.inr hV))
              · cases κ with
                | D=>trivial
                | F=>exact m.evo H.evo H.none (.inr (.inl rfl))
                | V=>exact absurd hκ.symm (hV (.s i k 0))
                | A n=>exact m.elim
                | U n=>exact m.elim
                | S=>exact m.elim
                | N=>exact m.elim
            exact hc _ rfl m
          | nilp=>exact L
          | ifc b=>exact L
          | fn f caps=>simp only[RW]at L ⊢; simp only[hβ]; exact L
          | _=>trivial
        cases x with
        | one y=>exact hW 0 y (fun j t ht=>hat 0 j t ht) _ q
        | tup ws=>
          obtain⟨vs,h1,m,J⟩:=q; refine⟨vs,h1,m,fun k y hy=> ?_⟩
          obtain⟨v,hv,L⟩:=J k y hy; exact⟨v,hv,hW k y (fun j t ht=>hat k j t (by simp [V.leaf,hy,ht])) v L⟩
      · have q:=h.slots i
        have: ∀(x:V),aI x≠ .none→ ∀κ l v,RV g' w' κ l v x:=by
          intro x E κ l v; cases x with
          | one x=>cases x<;>first | trivial | exact absurd rfl E
          | tup ws=>exact absurd rfl E
        exact this _ B _ _ _
  · obtain⟨arr,ty,h1,m,J,h4⟩:=h.obs o cells hc
    have hb:g.β o<w.heap.size:=h.ok.own _ (by rw[J]; simp)
    obtain⟨k1,k2⟩:=H.evo.keep (g.β o) hb (by rw[J]; exact fun E=>(H.X _ E).2 o rfl)
    rw[hβ]; refine⟨arr,ty,k2.trans h1,m,k1.trans J,fun j x E=> ?_⟩
    obtain⟨c,c1,c2,c3⟩:=h4 j x E; exact⟨c,c1,c2,H.lf h.ok (by simp) (Q _ x (by rw[St.at_oc]; have:st.ob o=some cells:=hc; rw[this]; exact E) rfl) c3⟩
  · by_cases R:i=d
    · subst R
      have e1:(st.put i r κ).sl i=r:=by simp [St.put]
      have e2:(st.put i r κ).fl (.s i 0 0)=κ 0 0:=by simp [St.put]
      rw[e1]at P ⊢; rw[e2]at Z; obtain⟨h1,m,J⟩:=hpl P Z
      · refine⟨?_, ?_⟩
        · have:(st.put i r κ).fl (aI r)=st.fl (aI r):=by
            generalize C:aI r=l at*; cases l with
            | s i' k j=>
              have hne:i'≠i:=by intro e; subst e; simp [aS]at m
              have Y:aS i (aI (st.sl i'))=false∨ ¬ (k=0∧j=0):=by
                by_cases hkj:k=0∧j=0
                · left
                  obtain⟨rfl,rfl⟩:=hkj; have E: ∃x,st.at (.s i' 0 0)=some x:=by
                    generalize hrv:r=rv at J C; cases rv with
                    | tup ws=>simp [aI]at C
                    | one y=>
                      cases y with
                      | al l p=>simp only[aI]at C; subst C; obtain⟨_,x0,_,_,e,_⟩:=J; exact⟨x0,e⟩
                      | pp l p a b=>simp only[aI]at C; subst C; obtain⟨_,x0,_,_,_,_,_,_,_,e,_⟩:=J; exact⟨x0,e⟩
                      | _=>simp [aI]at C
                  obtain⟨x,E⟩:=E; rw[St.at_s]at E; cases q:st.sl i' with
                  | tup ws=>rfl
                  | one y=>cases y<;>first | rfl | (rw[q]at E; simp [V.leaf,W.leaf]at E)
                · exact .inr hkj
              simp only[St.put,z11 hne]; rw[z11]; rintro ⟨a1,a2,a3⟩
              rcases Y with h | h
              · rw[h]at a3; cases a3
              · exact h ⟨a1,a2⟩
            | _=>rfl
          rw[this]; exact h1
        · have h4:(a.put (some i) u).tmps.getD i undef=u:=by rw[Act.put_getD a i u i M,z17 rfl]
          rw[h4]; exact J.congr (AY M m) (at_put m) (fun _ _ _ _ _ _ _ h=>h)
    · have e1:(st.put d r κ).sl i=st.sl i:=by simp [St.put,R]
      rw[e1]at P ⊢; have O:aS d (aI (st.sl i))=false∧st.fl (.s i 0 0)≠ .D:=by
        simp only[St.put,z11 R,Nc]at Z; by_cases hs:aS d (aI (st.sl i))=true
        · rw[z17 hs]at Z; exact absurd rfl Z
        · rw[z11 hs]at Z; exact⟨by simpa using hs,Z⟩
      obtain⟨h1,m⟩:=h.pls i P O.2; have B: ∃x,st.at (aI (st.sl i))=some x:=by
        generalize hrv:st.sl i=rv at m P; cases rv with
        | tup ws=>simp [aI]at P
        | one y=>
          cases y with
          | al l p=>obtain⟨_,x0,_,_,e,_⟩:=m; exact⟨x0,e⟩
          | pp l p a b=>obtain⟨_,x0,_,_,_,_,_,_,_,e,_⟩:=m; exact⟨x0,e⟩
          | _=>simp [aI]at P
      obtain⟨x0,I⟩:=B; have hnX:=Q _ _ I O.1 h1; refine⟨?_, ?_⟩
      · have:(st.put d r κ).fl (aI (st.sl i))=st.fl (aI (st.sl i)):=by
          generalize C:aI (st.sl i)=l at*; cases l with
          | s i' k j=>
            have hne:i'≠d:=by intro e; subst e; simp [aS]at O
            simp only[St.put,z11 hne]; rw[z11]; rintro ⟨rfl,rfl,a3⟩
            rw[St.at_s]at I; cases q:st.sl i' with
            | tup ws=>rw[q]at a3; simp [aI,aS]at a3
            | one y=>cases y<;>first | (rw[q]at a3; simp [aI,aS]at a3; done) | (rw[q]at I; simp [V.leaf,W.leaf]at I)
          | _=>rfl
        rw[this]; exact h1
      · rw[Act.put_getD a d u i M,z11 R]
        refine m.congr ?_ (at_put O.1) (fun v0 x0 p v' x' e1 e2 hp=>h.pl_evo H.evo H.none h1 hnX e1 e2 hp)
        rw[AY M O.1]; generalize aI (st.sl i)=l at*; cases l with
        | oc o j=>
          simp only[vAt]; rw[hβ]; simp only[St.at,atL,z19]at I; obtain⟨cells,hc,_⟩:=I; obtain⟨arr,ty,k1,k2,k3,k4⟩:=h.obs o cells hc; exact cI (H.evo.keep (g.β o) (h.ok.own _ (by rw[k3]; simp)) (by rw[k3]; exact fun E=>(H.X _ E).2 o rfl)).2
        | _=>rfl

def V.comp:V→Nat→Option W
 | .one w,0=>some w
 | .tup a,k=>a[k]?
 | _,_=>none

theorem RW.map{g g':G}{w w':World}{κ κ':Nat→K}{l l':Nat→Loc}{v:Value}{x:W}(p: ∀o,g'.β o=g.β o)(a: ∀j t u,x.leaf j=some t→Hh v j=some u→nV u→LF g w (κ j) (l j) u t→LF g' w' (κ' j) (l' j) u t)
  (e: ∀xs,x= .cp xs→ ∀b off,CpR g w (κ 0) b off xs→CpR g' w' (κ' 0) b off xs)(h:RW g w κ l v x):RW g' w' κ' l' v x:=by
 cases x with
 | c y=>exact⟨h.1,a 0 y v rfl (iX h.1).1 h.1 h.2⟩
 | ag xs=>
  obtain⟨cs,rfl,d,r⟩:=h; refine⟨cs,rfl,d,fun j y m=> ?_⟩
  obtain⟨c,i,k,q⟩:=r j y m; exact⟨c,i,k,a j y c m i k q⟩
 | ptr o off=>simp only[RW]at h ⊢; rw[p]; exact h
 | cp xs=>
  obtain⟨b,off,h1,d⟩:=h; exact⟨b,off,h1,e xs rfl b off d⟩
 | nilp=>exact h
 | ifc b=>exact h
 | fn f caps=>simp only[RW]at h ⊢; simp only[p]; exact h
 | _=>trivial

theorem RV.map{g g':G}{w w':World}{κ κ':Nat→Nat→K}{l l':Nat→Nat→Loc}{v:Value}{x:V}(r: ∀o,g'.β o=g.β o)(a: ∀k j t u,x.leaf k j=some t→sG v k j=some u→nV u→LF g w (κ k j) (l k j) u t→LF g' w' (κ' k j) (l' k j) u t)
  (d: ∀k xs,x.comp k=some (.cp xs)→ ∀b off,CpR g w (κ k 0) b off xs→CpR g' w' (κ' k 0) b off xs)(h:RV g w κ l v x):RV g' w' κ' l' v x:=by
 cases x with
 | one x=>
  refine RW.map r (fun j t u f e hn m=>a 0 j t u f ?_ hn m) (fun xs c=>d 0 xs (by rw[c]; rfl)) h
  have c:RW g w (κ 0) (l 0) v x:=h; obtain⟨s,h1,i,_⟩:=RW.leaf c f; rw[h1]at e; cases e; exact i
 | tup A=>
  obtain⟨vs,rfl,i,y⟩:=h; refine⟨vs,rfl,i,fun k x c=> ?_⟩
  obtain⟨u,e,z⟩:=y k x c; refine⟨u,e,RW.map r (fun j t s f p hn m=>a k j t s (by simp [V.leaf,c,f]) (by simp [sG,e,p]) hn m) (fun xs q=>d k xs (by simp only[V.comp]; rw[c,q])) z⟩

theorem CpR.own{g g':G}{w:World}{κ:K}{b off:Nat}{xs:List T}(m: ∀b,g.own b= .none→g'.own b= .none)(k: ∀b,all g w b→all g' w b)(h:CpR g w κ b off xs):CpR g' w κ b off xs:=by
 have a: ∀b,frz g w b→frz g' w b:=fun b l=>⟨l.1,m b l.2⟩
 cases κ with
 | F=>
  obtain⟨h1,d⟩:=h; refine⟨a _ h1,fun j x i=> ?_⟩
  obtain⟨c,e,f⟩:=d j x i; exact⟨c,e,f.weaken a⟩
 | V=>
  obtain⟨h1,d⟩:=h; refine⟨k _ h1,fun j x i=> ?_⟩
  obtain⟨c,e,f⟩:=d j x i; exact⟨c,e,f.weaken k⟩
 | _=>exact h

def St.setf(st:St)(R:Loc→Bool)(f:Loc→K):St:=
 { st with fl:=fun m=>match m with
  | .s i k j=>if k=0∧j=0∧R (aI (st.sl i))=true then .D else f (.s i k j)
  | m=>f m }

theorem uM{st:St}{i:Nat}{x:T}(h:st.at (.s i 0 0)=some x):aI (st.sl i)= .none:=by
 rw[St.at_s]at h; cases hsl:st.sl i with
 | tup a=>rfl
 | one y=>cases y<;>first | rfl | (rw[hsl]at h; simp [V.leaf,W.leaf]at h)

theorem xA{st:St}{R:Loc→Bool}{f:Loc→K}(a:R .none=false){l:Loc}{x:T}(b:st.at l=some x):(st.setf R f).fl l=f l:=by
 cases l with
 | s i k j=>
  simp only[St.setf]; rw[z11]; rintro ⟨rfl,rfl,h⟩
  rw[uM b,a]at h; cases h
 | _=>rfl

theorem GC.root{st:St}{tmps:Array Value}{β:Nat→Nat}{w:World}{v:Value}{x:V}(h:GC st tmps β w v x)(c:aI x≠ .none): ∃t,st.at (aI x)=some t:=by
 cases x with
 | tup d=>exact absurd rfl c
 | one y=>
  cases y with
  | al l p=>obtain⟨_,x0,_,_,e,_⟩:=h; exact⟨x0,e⟩
  | pp l p a b=>obtain⟨_,x0,_,_,_,_,_,_,_,e,_⟩:=h; exact⟨x0,e⟩
  | _=>exact absurd rfl c

theorem bP.setf{g0:G}{w0:World}{st:St}{a:Act}{g:G}{w:World}(h:bP g0 w0 st a g w){g':G}{R:Loc→Bool}{f:Loc→K}(H:R .none=false)(L: ∀o,g'.β o=g.β o)(O:GOk g' w)
  (m: ∀b,qQ (g.own b)→g'.own b=g.own b)(E: ∀b o,g.own b= .obj o→g'.own b= .obj o)(hA: ∀b,all g w b→all g' w b)
  (T: ∀l x v,st.at l=some x→vAt a.tmps g.β w l=some v→LF g w (st.fl l) l v x→LF g' w (f l) l v x)
  (N: ∀i k xs b off,(st.sl i).comp k=some (.cp xs)→CpR g w (st.fl (.s i k 0)) b off xs→CpR g w (f (.s i k 0)) b off xs)
  (z: ∀i,aI (st.sl i)≠ .none→R (aI (st.sl i))=false→f (.s i 0 0)≠ .D→st.fl (.s i 0 0)≠ .D∧((st.fl (aI (st.sl i))).hold=true→(f (aI (st.sl i))).hold=true)):
  bP g0 w0 (st.setf R f) a g' w:=by
 have hZ: ∀b,g.own b= .none→g'.own b= .none:=fun b I=>(m b (.inl I)).trans I
 refine⟨⟨h.framed.tab,h.framed.os,h.framed.tape,h.framed.output,h.framed.evo.size,fun b I U=> ?_⟩,O,h.size,h.defers,fun i=> ?_,fun o cells J=> ?_,fun i hi q=> ?_,fun o ho=>(L o).trans (h.bp o ho),h.nle⟩
 ·obtain⟨S,Z⟩:=h.framed.evo.keep b I U
  have M:qQ (g0.own b):=z143.1 U; exact⟨(m b (by rw[S]; exact M)).trans S,Z⟩
 ·have F:=h.slots i
  show RV g' w (fun k j=>(st.setf R f).fl (.s i k j)) (fun k j=> .s i k j) (a.tmps.getD i undef) (st.sl i)
  refine F.map L (fun k j t u hj hu _ q=> ?_) (fun k xs A b off J=> ?_)
  ·have d:st.at (.s i k j)=some t:=hj
   rw[xA H d]; exact T _ t u d hu q
  ·have e:(st.setf R f).fl (.s i k 0)=f (.s i k 0):=by
    simp only[St.setf]; rw[z11]; rintro ⟨rfl,_,p⟩
    have:st.sl i= .one (.cp xs):=by
     cases hsl:st.sl i with
     | one y=>rw[hsl]at A; simp only[V.comp,z9]at A; rw[A]
     | tup ws=>rw[hsl]at p; rw[show aI (V.tup ws)= .none from rfl,H]at p; cases p
    rw[this,show aI (V.one (.cp xs))= .none from rfl,H]at p; cases p
   show CpR g' w ((st.setf R f).fl (.s i k 0)) b off xs; rw[e]; exact CpR.own hZ hA (N i k xs b off A J)
 ·obtain⟨B,ty,h1,h2,p,h4⟩:=h.obs o cells J
  rw[L]; refine⟨B,ty,h1,h2,E _ _ p,fun j x A=> ?_⟩
  obtain⟨c,Q,X,Y⟩:=h4 j x A; have d:st.at (.oc o j)=some x:=by rw[St.at_oc]; have:st.ob o=some cells:=J; rw[this]; exact A
  exact⟨c,Q,X,T (.oc o j) x c d (by simp only[vAt]; rw[cJ w _ j B ty _ h1]; exact Q) Y⟩
 ·have r:aI (st.sl i)≠ .none:=hi
  have C:R (aI (st.sl i))=false∧f (.s i 0 0)≠ .D:=by
   simp only[St.setf,Nc]at q; by_cases F:R (aI (st.sl i))=true
   ·rw[z17 F]at q; exact absurd rfl q
   ·rw[z11 F]at q; exact⟨by simpa using F,q⟩
  obtain⟨k1,k2⟩:=z i r C.1 C.2; obtain⟨p1,W⟩:=h.pls i r k1; obtain⟨t,ht⟩:=W.root r; refine⟨?_, ?_⟩
  ·show((st.setf R f).fl (aI (st.sl i))).hold=true
   rw[xA H ht]; exact k2 p1
  ·have P:g'.β=g.β:=funext L
   rw[P]; exact W.congr rfl rfl (fun _ _ _ _ _ _ _ h=>h)

def St.lower(st:St)(l:Loc)(κ:K):St:=st.setf (fun m=>decide (m=l)) (fun m=>if m=l then κ else st.fl m)

theorem CpR.toV{g:G}{w:World}{κ:K}{b off:Nat}{xs:List T}(h:CpR g w κ b off xs)(k:κ≠ .D):CpR g w .V b off xs:=by
 cases κ with
 | D=>exact absurd rfl k
 | V=>exact h
 | F=>
  obtain⟨h1,a⟩:=h; refine⟨h1.all,fun j x i=> ?_⟩
  obtain⟨c,e,f⟩:=a j x i; exact⟨c,e,f.weaken fun b d=>d.all⟩
 | A n=>exact h.elim
 | U n=>exact h.elim
 | S=>exact h.elim
 | N=>exact h.elim

def K.lo:K→K→Bool
 | _, .D=>true
 | .D,_=>false
 | _, .V=>true
 | .U n, .A m=>n == m&& !(m == 0)
 | .U n, .U m=>n == m||m == 0
 | .N, .A _=>true
 | .N, .U _=>true
 | .N, .F=>true
 | .S, .N=>false
 | .S,_=>true
 | a,b=>decide (a=b)

theorem LF.lo{g:G}{w:World}{κ κ':K}{l:Loc}{v:Value}{x:T}(i:GOk g w)(r:l.place=true)(h:LF g w κ l v x)(f:κ.lo κ'=true):LF g w κ' l v x:=by
 by_cases e:κ=κ'
 ·subst e; exact h
 by_cases j:κ'= .D
 ·subst j
  exact fun k=>LF.scal (g':=g) (w':=w) (κ':= .D) (l':=l) h k (by simp) k
 by_cases c:κ= .D
 ·subst c; cases κ'<;>simp [K.lo]at f j
 by_cases p:κ'= .V
 ·subst p
  exact h.rd i r c
 cases κ with
 | D=>exact absurd rfl c
 | S=>
  refine LF.scal h h.1 ?_
  intro o; subst o; simp [K.lo]at f
 | N=>
  obtain⟨rfl,a,rfl⟩:=h; cases κ' with
  | A n=>exact .nil _ _ _
  | U n=>exact .nil _ _ _
  | F=>exact .nil _ _
  | _=>simp_all [K.lo]
 | U n=>
  cases κ' with
  | A m=>
   have:n=m∧ ¬ m=0:=by simpa [K.lo]using f
   obtain⟨rfl,h0⟩:=this; have h:Ow (frz g w) true w (gQ n) (fun b=>g.own b=l) v x:=h
   rw[sX (by omega)]at h
   exact Ow.mono (deep':=false) h (by simp) (by simp) (fun b q=>⟨q,rfl⟩)
  | U m=>
   have s:m=0:=by
    have d:n=m∨m=0:=by simpa [K.lo]using f
    rcases d with d | d
    ·subst d; exact absurd rfl e
    ·exact d
   subst s; have h:Ow (frz g w) true w (gQ n) (fun b=>g.own b=l) v x:=h
   cases n with
   | zero=>exact absurd rfl e
   | succ n=>exact h.sub
  | _=>simp_all [K.lo]
 | _=>cases κ'<;>simp_all [K.lo]

theorem CpR.lo{g:G}{w:World}{κ κ':K}{b off:Nat}{xs:List T}(h:CpR g w κ b off xs)(a:κ.lo κ'=true):CpR g w κ' b off xs:=by
 cases κ with
 | D=>cases κ'<;>first | exact h | simp [K.lo]at a
 | V=>cases κ'<;>first | exact h | trivial | simp [K.lo]at a
 | F=>cases κ'<;>first | exact h | trivial | exact h.toV (by simp) | simp [K.lo]at a
 | _=>exact h.elim

theorem bP.lower{g0:G}{w0:World}{st:St}{a:Act}{g:G}{w:World}(h:bP g0 w0 st a g w){l:Loc}{κ:K}(o:l.place=true)(d:(st.fl l).lo κ=true):bP g0 w0 (st.lower l κ) a g w:=by
 have t:=(Loc.place_ne o).1; refine h.setf (by simp [Ne.symm t]) (fun _=>rfl) h.ok (fun _ _=>rfl) (fun _ _ h=>h) (fun _ h=>h) (fun m x v z y c=> ?_) (fun i k xs b off r f=> ?_) (fun i u q c=> ?_)
 ·by_cases e:m=l
  ·subst e
   rw[z17 rfl]; exact c.lo h.ok o d
  ·rw[z11 e]; exact c
 ·by_cases e:Loc.s i k 0=l
  ·rw[z17 e]
   rw[e]at f; exact f.lo d
  ·rw[z11 e]; exact f
 ·have j:aI (st.sl i)≠l:=by simpa using q
  refine⟨?_,fun h=>by rw[z11 j]; exact h⟩
  by_cases e:Loc.s i 0 0=l
  ·rw[z17 e]at c
   rw[e]; intro p; rw[p]at d; cases κ<;>simp [K.lo]at d c
  ·rw[z11 e]at c; exact c

def G.freeze(g:G)(l:Loc):G:= { β:=g.β,own:=fun b=>if g.own b=l then .none else g.own b }
def St.freeze(st:St)(l:Loc):St:=st.setf (fun m=>decide (m=l)) (fun m=>if m=l then .F else st.fl m)

theorem bP.freeze{g0:G}{w0:World}{st:St}{a:Act}{g:G}{w:World}(h:bP g0 w0 st a g w){l:Loc}(I:l.place=true)(q:st.fl l≠ .D∧st.fl l≠ .V):bP g0 w0 (st.freeze l) a (g.freeze l) w:=by
 obtain⟨t,u,y⟩:=Loc.place_ne I; have d: ∀b m,m≠l→g.own b=m→(g.freeze l).own b=m:=fun b m H c=>by simp only[G.freeze]; rw[z11 (by rw[c]; exact H)]; exact c
 have r: ∀b,g.own b= .none→(g.freeze l).own b= .none:=fun b c=>d b _ (Ne.symm t) c
 have B: ∀b,all g w b→all (g.freeze l) w b:=fun b c=>⟨c.1,fun o=>by
  show(if g.own b=l then Loc.none else g.own b)≠ .obj o
  split
  ·simp
  ·exact c.2 o⟩
 have p:GOk (g.freeze l) w:=⟨fun b c=>h.ok.own b (fun e=>c (r b e))⟩
 refine h.setf (by simp [Ne.symm t]) (fun _=>rfl) p (fun b c=> ?_) (fun b o c=>d b _ (Ne.symm (y o)) c) B (fun m x v L K j=> ?_) (fun i k xs b off E f=> ?_) (fun i J C j=> ?_)
 ·rcases c with c | c
  ·rw[c]; exact r b c
  ·rw[c]; exact d b _ (Ne.symm u) c
 ·by_cases e:m=l
  ·subst e
   rw[z17 rfl]; exact LF.freeze (l':=m) h.ok t q (fun b c=>by simp [G.freeze,c]) r j
  ·rw[z11 e]
   exact j.moved (fun b c=>d b m e c) r B
 ·by_cases e:Loc.s i k 0=l
  ·rw[z17 e]
   rw[e]at f; generalize st.fl l=κ at f q; cases κ with
   | D=>exact absurd rfl q.1
   | V=>exact absurd rfl q.2
   | F=>exact f
   | A n=>exact f.elim
   | U n=>exact f.elim
   | S=>exact f.elim
   | N=>exact f.elim
  ·rw[z11 e]; exact f
 ·have z:aI (st.sl i)≠l:=by simpa using C
  refine⟨?_,fun h=>by rw[z11 z]; exact h⟩
  by_cases e:Loc.s i 0 0=l
  ·rw[e]; exact q.1
  ·rw[z11 e]at j; exact j

def St.killV(st:St):St:=st.setf (fun _=>false) (fun m=>if st.fl m= .V then .D else st.fl m)

theorem bP.killV{g0:G}{w0:World}{st:St}{a:Act}{g:G}{w:World}(h:bP g0 w0 st a g w):bP g0 w0 st.killV a g w:=by
 refine h.setf rfl (fun _=>rfl) h.ok (fun _ _=>rfl) (fun _ _ h=>h) (fun _ h=>h) (fun m x v q p c=> ?_) (fun i k xs b off j f=> ?_) (fun i o l c=> ?_)
 ·by_cases e:st.fl m= .V
  ·rw[z17 e]
   exact fun d=>LF.scal (g':=g) (w':=w) (κ':= .D) (l':=m) c d (by simp) d
  ·rw[z11 e]; exact c
 ·by_cases e:st.fl (.s i k 0)= .V
  ·rw[z17 e]; trivial
  ·rw[z11 e]; exact f
 ·refine⟨fun e=>c (by rw[e]; simp),fun h=> ?_⟩
  have:st.fl (aI (st.sl i))≠ .V:=by intro e; rw[e]at h; simp [K.hold]at h
  rw[z11 this]; exact h

theorem sS(st:St)(l:Loc):(st.killV).fl l≠ .V:=by
 have: ∀m,(if st.fl m= .V then K.D else st.fl m)≠ .V:=by
  intro m; split
  ·simp
  ·assumption
 cases l with
 | s i k j=>
  simp only[St.killV,St.setf]; rw[z11 (by simp)]
  exact this _
 | _=>exact this _

def G.mv(g:G)(l l':Loc):G:= { β:=g.β,own:=fun b=>if g.own b=l then l' else g.own b }
def St.mv(st:St)(l l':Loc):St:=st.setf (fun m=>decide (m=l)||decide (m=l')) (fun m=>if m=l' then st.fl l else if m=l then(st.fl l).cp else st.fl m)

theorem bP.mvG{g0:G}{w0:World}{st:St}{a:Act}{g:G}{w:World}(h:bP g0 w0 st a g w){l l':Loc}(h1:l.place=true)(S:l'.place=true)(Z:l≠l')
  (hs: ∃x,st.at l=some x)(K: ∃x,st.at l'=some x)(A: ∀x v,st.at l'=some x→vAt a.tmps g.β w l'=some v→LF (g.mv l l') w (st.fl l) l' v x):bP g0 w0 (st.mv l l') a (g.mv l l') w:=by
 obtain⟨Q,I,J⟩:=Loc.place_ne h1; obtain⟨H,R,u⟩:=Loc.place_ne S; have f: ∀b m,m≠l→g.own b=m→(g.mv l l').own b=m:=fun b m Y c=>by simp only[G.mv]; rw[z11 (by rw[c]; exact Y)]; exact c
 have D: ∀b,g.own b= .none→(g.mv l l').own b= .none:=fun b c=>f b _ (Ne.symm Q) c
 have F: ∀b,all g w b→all (g.mv l l') w b:=fun b c=>⟨c.1,fun o=>by
  show(if g.own b=l then l' else g.own b)≠ .obj o
  split
  ·exact u o
  ·exact c.2 o⟩
 have B:GOk (g.mv l l') w:=⟨fun b c=>h.ok.own b (fun e=>c (D b e))⟩
 obtain⟨x0,N⟩:=hs; have p: ∀i k,(Loc.s i k 0=l∨Loc.s i k 0=l')→ ∃x,st.at (.s i k 0)=some x:=by
  rintro i k (e | e)
  ·rw[e]; exact⟨x0,N⟩
  ·rw[e]; exact K
 have j: ∀i,(Loc.s i 0 0=l∨Loc.s i 0 0=l')→aI (st.sl i)= .none:=fun i e=>by
  obtain⟨x,M⟩:=p i 0 e; exact uM M
 refine h.setf (by simp [Ne.symm Q,Ne.symm H]) (fun _=>rfl) B (fun b c=> ?_) (fun b o c=>f b _ (Ne.symm (J o)) c) F (fun m x v M L t=> ?_) (fun i k xs b off d U=> ?_) (fun i X T t=> ?_)
 ·rcases c with c | c
  ·rw[c]; exact D b c
  ·rw[c]; exact f b _ (Ne.symm I) c
 ·by_cases P:m=l'
  ·subst P
   rw[z17 rfl]; exact A x v M L
  ·rw[z11 P]
   by_cases E:m=l
   ·subst E
    rw[z17 rfl]; have C:=t.cp (l':=m) h.ok h1; cases hk:st.fl m<;>rw[hk]at C<;>first | exact C | exact Rd.weaken F C | exact Rd.weaken (fun b c=>⟨c.1,D b c.2⟩) C
   ·rw[z11 E]
    exact t.moved (fun b c=>f b m E c) D F
 ·by_cases e:Loc.s i k 0=l∨Loc.s i k 0=l'
  ·obtain⟨y,r⟩:=p i k e
   exfalso
   rw[St.at_s]at r; cases hsl:st.sl i with
   | one z=>
    rw[hsl]at d r; cases k with
    | zero=>simp only[V.comp,z9]at d; rw[d]at r; simp [V.leaf,W.leaf]at r
    | succ k=>simp [V.comp]at d
   | tup ws=>rw[hsl]at d r; simp only[V.comp]at d; simp [V.leaf,d,W.leaf]at r
  ·rw[z11 (fun h=>e (.inr h)),z11 (fun h=>e (.inl h))]; exact U
 ·have q:aI (st.sl i)≠l∧aI (st.sl i)≠l':=by simpa using T
  have O: ¬ (Loc.s i 0 0=l∨Loc.s i 0 0=l'):=fun e=>X (j i e)
  rw[z11 (fun h=>O (.inr h)),z11 (fun h=>O (.inl h))]at t
  exact⟨t,fun h=>by rw[z11 q.2,z11 q.1]; exact h⟩
theorem bP.mv{g0:G}{w0:World}{st:St}{a:Act}{g:G}{w:World}(h:bP g0 w0 st a g w){l l':Loc}(h1:l.place=true)(f:l'.place=true)(e:l≠l')
  (j:st.at l'=st.at l)(i: ∃x,st.at l=some x)(s:vAt a.tmps g.β w l'=vAt a.tmps g.β w l):bP g0 w0 (st.mv l l') a (g.mv l l') w:=by
 have r:=(Loc.place_ne h1).1; have q: ∀b,g.own b= .none→(g.mv l l').own b= .none:=fun b c=>by simp only[G.mv]; rw[z11 (by rw[c]; exact Ne.symm r)]; exact c
 have p: ∀b,all g w b→all (g.mv l l') w b:=fun b c=>⟨c.1,fun o=>by
  show(if g.own b=l then l' else g.own b)≠ .obj o
  split
  ·exact(Loc.place_ne f).2.2 o
  ·exact c.2 o⟩
 refine h.mvG h1 f e i (by rw[j]; exact i) (fun x v t d=> ?_)
 obtain⟨u,k,_,m⟩:=h.get (l:=l) (x:=x) (by rw[←j]; exact t)
 rw[s,k]at d; cases d; exact m.moved (l':=l') (fun b c=>by simp [G.mv,c]) q p

theorem RV.cp{g:G}{w:World}{κ:Nat→Nat→K}{l l':Nat→Nat→Loc}{v:Value}{x:V}(c:GOk g w)(e: ∀k j,(l k j).place=true)(h:RV g w κ l v x):RV g w (fun k j=>(κ k j).cp) l' v x:=by
 refine h.map (fun _=>rfl) (fun k j t u _ _ _ d=>d.cp c (e k j)) (fun k xs _ b off a=> ?_)
 cases hk:κ k 0<;>rw[hk]at a<;>first | exact a | exact a.elim

def jD(v:V)(k j:Nat):K:=match v.leaf k j with | some x=>if scal x then .S else .N | none=> .S

theorem BX{u:Value}{x:T}(h:yA u=some x)(b:scal x=false):x= .sl []∧ ∃a,u= .slice a 0 0:=by
 unfold yA at h; split at h<;>simp only[z9,reduceCtorEq]at h<;>subst h
 ·cases b
 ·cases b
 ·cases b
 ·exact⟨rfl,none,rfl⟩
 ·cases b

theorem uV(g:G)(w:World)(l:Nat→Nat→Loc)(v:Value):RV g w (jD (bE v)) l v (bE v):=by
 have d: ∀(κ:K) (m:Loc) {u:Value} {x:T},yA u=some x→κ=(if scal x then .S else .N)→LF g w κ m u x:=by
  intro κ m u x a k; obtain⟨h1,o⟩:=rA a; subst k; by_cases c:scal x=true
  ·rw[z17 c]; exact⟨c,h1 _ _⟩
  ·rw[z11 c]; exact BX a (by simpa using c)
 have hn: ∀ {u:Value} {x:T},yA u=some x→nV u:=fun a=>((rA a).1 (fun _=>False) w).not_agg
 unfold bE; split
 ·rename_i cs
  split
  ·rename_i xs h
   obtain⟨e,f⟩:=jE h; refine⟨cs,rfl,by simpa using e,fun j x a=> ?_⟩
   obtain⟨u,i,b⟩:=f j x a; refine⟨u,by simpa using i,hn b,d _ _ b ?_⟩
   simp [jD,V.leaf,W.leaf,a]
  ·trivial
 ·rfl
 ·rfl
 ·split
  ·rename_i x h
   exact⟨hn h,d _ _ h (by simp [jD,V.leaf,W.leaf])⟩
  ·trivial

def opK(st:St):Operand→Nat→Nat→K
 | .tmp t,k,j=>(st.fl (.s t k j)).cp
 | .const v,k,j=>jD (bE v) k j
 | _,_,_=> .S

theorem bP.ev_rv{g0:G}{w0:World}{st:St}{a:Act}{g:G}{w:World}(h:bP g0 w0 st a g w)(x:Operand)(l:Nat→Nat→Loc):RV g w (opK st x) l (a.eval x) (ev st.sl x):=by
 cases x with
 | tmp t=>exact(h.slots t).cp h.ok (fun _ _=>rfl)
 | const v=>exact uV g w l v
 | func f=>rfl
 | global n=>trivial

def nav:T→List (Nat×Nat)→Option T
 | x,[]=>some x
 | .sl a,(i,j)::p=>((a[i]?).bind (·[j]?)).bind fun y=>nav y p
 | _,_::_=>none

theorem Pl.nav{w:World}{v:Value}{x:T}{p:List (Nat×Nat)}{v':Value}{x':T}(h:Pl w v x p v' x'):nav x p=some x':=by
 induction h with
 | nil v x=>cases x<;>rfl
 | cons b off len cap es e c y i j p v' x' he hy hc h ih=>simp [Own.nav,he,hy,ih]

def vD(sl:Nat→V)(ob:Un):V→V
 | .one (.al l p)=>match(atL sl ob l).bind (nav · p)with | some x=> .one (.c x) | none=> .one .junk
 | v=>v
def evR(st:St)(x:Operand):V:=vD st.sl st.ob (ev st.sl x)

theorem Rd.plRd{P:Nat→Prop}{w:World}{v:Value}{x:T}(h:Rd P w v x): ∀ {p:List (Nat×Nat)} {v':Value} {x':T},Pl w v x p v' x'→Rd P w v' x':=by
 induction h with
 | sl b off len f s m cs u g l t o z A=>
  intro p v' x' d; cases d with
  | nil=>exact .sl b off len f s m cs u g l t o z
  | cons b off len f m e c y i j p v' x' he hy g h=>
   have q:=l i e he; have h1:=o i e j y he hy; rw[q]at g; rw[h1]at g; cases g; exact A i e j y he hy h
 | hole v h1 r=>intro p v' x' d; cases d; exact .hole _ h1 r
 | int k n=>intro p v' x' d; cases d; exact .int _ _
 | bool b=>intro p v' x' d; cases d; exact .bool _
 | np=>intro p v' x' d; cases d; exact .np
 | str s=>intro p v' x' d; cases d; exact .str _
 | nil a f=>
  intro p v' x' d; cases d with
  | nil=>exact .nil _ _
  | cons b off len f m e c y i j p v' x' he hy g h=>simp at he

def Rdy(st:St)(m:Bool):Operand→Prop
 | .tmp t=>match st.sl t with
  | .one (.al _ _)=>m=false∧st.fl (.s t 0 0)≠ .D
  | .one (.pp _ _ _ _)=>False
  | .one (.c z)=>scal z=true∨if m then st.fl (.s t 0 0)= .F∨st.fl (.s t 0 0)= .S∨st.fl (.s t 0 0)= .N else st.fl (.s t 0 0)≠ .D
  | .one (.cp _)=>if m then st.fl (.s t 0 0)= .F else st.fl (.s t 0 0)≠ .D
  | _=>True
 | _=>True

def pm(g:G)(w:World)(m:Bool):Nat→Prop:=if m then frz g w else all g w

theorem bP.pl_rd{g0:G}{w0:World}{st:St}{a:Act}{g:G}{w:World}(h:bP g0 w0 st a g w){l:Loc}(c:(st.fl l).hold=true){f:Value}{x0:T}(k:vAt a.tmps g.β w l=some f)(d:st.at l=some x0)
  {p:List (Nat×Nat)}{v':Value}{x':T}(j:Pl w f x0 p v' x'):Rd (all g w) w v' x':=by
 obtain⟨v,b,_,i⟩:=h.get d; rw[k]at b; cases b; exact(i.rd h.ok (at_isPlace d) (by intro e; rw[e]at c; simp [K.hold]at c)).plRd j

theorem Kr{g:G}{w:World}{P:Nat→Prop}(v:Value):RP P g.β w v (bE v):=by
 unfold bE; split
 ·rename_i cs
  split
  ·rename_i xs h
   refine⟨cs,rfl,fun j x a _=> ?_⟩
   obtain⟨v,b,c⟩:=(jE h).2 j x a; exact⟨v,by rw[←z26]; exact b,(rA c).1 P w⟩
  ·trivial
 ·rfl
 ·rfl
 ·split
  ·rename_i x h; exact(rA h).1 P w
  ·trivial

theorem bP.rp{g0:G}{w0:World}{st:St}{a:Act}{g:G}{w:World}(h:bP g0 w0 st a g w){m:Bool}{x:Operand}(A:Rdy st m x):RP (pm g w m) g.β w (a.eval x) (evR st x):=by
 cases x with
 | const v=>
  have e:evR st (.const v)=bE v:=by
   show vD st.sl st.ob (bE v)=bE v; unfold bE; (repeat' split)<;>rfl
  rw[e]; exact Kr v
 | func f=>trivial
 | global n=>trivial
 | tmp t=>
  have u:=h.slots t; have d:evR st (.tmp t)=vD st.sl st.ob (st.sl t):=rfl; have E:a.eval (.tmp t)=a.tmps.getD t undef:=rfl; rw[E]; have k: ∀(y:T) (v:Value) (κ:K) (l:Loc),scal y=true→LF g w κ l v y→Rd (pm g w m) w v y:=fun y v κ l L r=>by
   have:=LF.scal (g':=g) (w':=w) (κ':= .S) (l':=l) r L; exact this.2.scal L
  cases hsl:st.sl t with
  | tup V=>rw[d,hsl]; trivial
  | one y=>
   rw[hsl]at u; cases y with
   | c z=>
    have e:evR st (.tmp t)= .one (.c z):=by rw[d,hsl]; rfl
    rw[e]; simp only[Rdy,hsl]at A; rcases A with h1 | h1
    ·exact k _ _ _ _ h1 u.2
    ·have r:LF g w (st.fl (.s t 0 0)) (.s t 0 0) (a.tmps.getD t undef) z:=u.2
     cases m with
     | true=>
      rcases h1 with h1 | h1 | h1<;>rw[h1]at r
      ·exact r
      ·exact r.2.scal r.1
      ·obtain⟨rfl,q,P⟩:=r
       rw[P]; exact .nil _ _
     | false=>exact r.rd h.ok rfl h1
   | cp xs=>
    have e:evR st (.tmp t)= .one (.cp xs):=by rw[d,hsl]; rfl
    rw[e]; simp only[Rdy,hsl]at A; obtain⟨b,off,C,B⟩:=u; refine⟨b,off,C, ?_⟩
    cases m with
    | true=>
     have h1:st.fl (.s t 0 0)= .F:=A; simp only[h1]at B; exact B
    | false=>exact B.toV A
   | al l p=>
    simp only[Rdy,hsl]at A; obtain⟨rfl,h1⟩:=A; by_cases J:l= .none
    ·subst J
     rw[d,hsl]; trivial
    ·have:=h.pls t (by rw[hsl]; exact J) h1
     rw[hsl]at this; obtain⟨C,U,x0,x',O,H,I⟩:=this; have e:evR st (.tmp t)= .one (.c x'):=by
      have D:atL st.sl st.ob l=some x0:=H; rw[d,hsl]; simp [vD,D,I.nav]
     rw[e]; exact h.pl_rd C O H I
   | pp l p i j=>rw[d,hsl]; trivial
   | junk=>rw[d,hsl]; trivial
   | ag xs=>
    have e:evR st (.tmp t)= .one (.ag xs):=by rw[d,hsl]; rfl
    rw[e]; obtain⟨cs,h1,C,B⟩:=u; exact⟨cs,h1,fun j x Q R=>by
     obtain⟨c,M,_,N⟩:=B j x Q; exact⟨c,M,k _ _ _ _ R N⟩⟩
   | ptr o off=>rw[d,hsl]; exact u
   | nilp=>rw[d,hsl]; exact u
   | ifc b=>rw[d,hsl]; exact u
   | fn f caps=>rw[d,hsl]; trivial

def qD(P:Program)(g0:G)(w0:World)(o:Oper)(st b:St):Prop:= ∀a w,Sim g0 w0 st a w→
 ∃r w',(execOp a.eval o).run P w= .ok r w'∧((∃v,r= .value v∧Sim g0 w0 b (a.put o.dst v) w')∨(r= .skip∧Sim g0 w0 b (a.put o.dst undef) w'))

theorem zW.refl{g:G}{w:World}(b:GOk g w)(st:St):zW g w g w (fun _=>False) st:=⟨Evo.refl _ _ _,fun _ h=>h.elim, .inl fun _ h=>⟨h,rfl⟩,rfl,rfl,rfl,b⟩

def St.mvs(st:St):List (Loc×Loc)→St
 | []=>st
 | m::r=>(st.mv m.1 m.2).mvs r

theorem bP.mvs{g0:G}{w0:World}{a:Act}{w:World}: ∀(M:List (Loc×Loc)) {st:St} {g:G},bP g0 w0 st a g w→
  (∀m∈M,m.1.place=true∧m.2.place=true∧m.1≠m.2∧st.at m.2=st.at m.1∧(∃x,st.at m.1=some x)∧vAt a.tmps g.β w m.2=vAt a.tmps g.β w m.1)→ ∃g',g'.β=g.β∧bP g0 w0 (st.mvs M) a g' w
 | [],st,g,h,_=>⟨g,rfl,h⟩
 | m::r,st,g,h,c=>by
  obtain⟨h1,i,j,k,l,p⟩:=c m z27; obtain⟨g',e,f⟩:=bP.mvs r (h.mv h1 i j k l p) (fun z b=>by
   obtain⟨q,s,t,u,v,y⟩:=c z (z23 _ b); exact⟨q,s,t,u,v,y⟩)
  exact⟨g',e,f⟩

section
variable {P:Program} {τ:TypeId→Option TI} {g0:G} {w0:World} {o:Oper} {st:St} {d:Nat}

theorem bP.set{a:Act}{g:G}{w:World}(h:bP g0 w0 st a g w)(c:d<st.n){u:Value}{r:V}{κ:Nat→Nat→K}(e:RV g w κ (fun k j=> .s d k j) u r)
  (b:aI r≠ .none→κ 0 0≠ .D→(st.fl (aI r)).hold=true∧aS d (aI r)=false∧GC st a.tmps g.β w u r):bP g0 w0 (st.put d r κ) (a.put (some d) u) g w:=
 h.put (zW.refl h.ok st) (fun _=>rfl) c (fun _ _ _ _ h=>h) e b

theorem pL(r:V)(κ:Nat→Nat→K)(k j:Nat):(st.put d r κ).at (.s d k j)=r.leaf k j:=by simp [St.at,atL,St.put]

theorem Tq{x:Operand}(M:List (Nat×Nat))(hd:o.dst=some d)(hn:d<st.n)(ho:o.op= .assign x∨o.op= .move x)(hroot:aI (ev st.sl x)≠ .none→aS d (aI (ev st.sl x))=false)
  (hM: ∀m∈M, ∃t,x= .tmp t∧t≠d∧ ∃y,st.at (.s t m.1 m.2)=some y):
  qD P g0 w0 o st ((st.put d (ev st.sl x) (opK st x)).mvs (M.map fun m=>(.s (match x with | .tmp t=>t | _=>0) m.1 m.2, .s d m.1 m.2))):=by
 intro a w ⟨g,hs⟩; have hv:(execOp a.eval o).run P w= .ok (.value (a.eval x)) w:=by
  obtain⟨dst,op,ty,pos,after,guard⟩:=o; rcases ho with ho | ho<;>(simp only at ho; subst ho; rfl)
 refine⟨_,w,hv, .inl ⟨_,rfl, ?_⟩⟩
 rw[hd]; have hd':d<a.tmps.size:=by rw[hs.size]; exact hn
 have h1:=hs.set hn (hs.ev_rv x _) (fun h1 h2=>by
  cases x with
  | tmp t=>
   have h1':aI (st.sl t)≠ .none:=h1; have h3:=hs.pls t h1' (fun e=>h2 (by simp [opK,e,K.cp]))
   exact⟨h3.1,hroot h1,h3.2⟩
  | const v=>
   exfalso; apply h1
   show aI (bE v)= .none; unfold bE; (repeat' split)<;>rfl
  | func f=>exact absurd rfl h1
  | global n=>exact absurd rfl h1)
 obtain⟨g',_,h2⟩:=h1.mvs (M.map fun m=>(.s (match x with | .tmp t=>t | _=>0) m.1 m.2, .s d m.1 m.2)) (fun m hm=>by
  obtain⟨m',hm',rfl⟩:=z49.1 hm; obtain⟨t,rfl,hne,y,hy⟩:=hM m' hm'; have e1:(st.put d (ev st.sl (.tmp t)) (opK st (.tmp t))).at (.s t m'.1 m'.2)=st.at (.s t m'.1 m'.2):=at_put (by simp [aS,hne])
  refine⟨rfl,rfl,by simp [hne], ?_,⟨y,by rw[e1]; exact hy⟩, ?_⟩
  ·rw[pL,e1]; rfl
  ·rw[AY (l:= .s t m'.1 m'.2) hd' (by simp [aS,hne])]
   simp only[vAt]; rw[Act.put_getD a d _ _ hd',z17 rfl]; rfl)
 exact⟨g',h2⟩

theorem SH{t:Nat}{e:List (List T)}(m:o.dst=some d)(hn:d<st.n)(ho:o.op= .move (.tmp t))(j:t≠d)(b:st.sl t= .one (.c (.sl e)))(p:(st.fl (.s t 0 0)).hold=true):
  qD P g0 w0 o st (st.put d (.one (.al (.s t 0 0) [])) (fun _ _=> .F)):=by
 intro a w ⟨g,k⟩; have q:(execOp a.eval o).run P w= .ok (.value (a.eval (.tmp t))) w:=by
  obtain⟨l,op,ty,r,f,h⟩:=o; simp only at ho; subst ho; rfl
 refine⟨_,w,q, .inl ⟨_,rfl,g, ?_⟩⟩
 rw[m]; have i:st.at (.s t 0 0)=some (.sl e):=by rw[St.at_s,b]; rfl
 have h1:=k.slots t; rw[b]at h1; exact k.set hn trivial (fun _ _=>⟨p,by simp [aI,aS,j],a.tmps.getD t undef, .sl e, .sl e,(iX h1.1).2,i, .nil _ _⟩)

theorem NE{t k:Nat}{H:List W}{x:W}(M:List Nat)(O:o.dst=some d)(hn:d<st.n)(ho:o.op= .extract (.tmp t) k)(b:t≠d)(E:st.sl t= .tup H)(C:H[k]? =some x)(c:aI (.one x)= .none)
  (N: ∀j∈M, ∃y,x.leaf j=some y):qD P g0 w0 o st ((st.put d (.one x) (fun _ j=>(st.fl (.s t k j)).cp)).mvs (M.map fun j=>(.s t k j, .s d 0 j))):=by
 intro a w ⟨g,p⟩; have h1:=p.slots t; rw[E]at h1; obtain⟨vs,B,Y,J⟩:=h1; obtain⟨u,F,D⟩:=J k x C; have S:(execOp a.eval o).run P w= .ok (.value u) w:=by
  obtain⟨I,op,ty,T,q,r⟩:=o; simp only at ho; subst ho; have:a.eval (.tmp t)= .tuple vs:=B; simp only[execOp,Instr.extract,this,F,Sem.run_bind,Sem.run_pure,Result.andThen_ok]
 refine⟨_,w,S, .inl ⟨_,rfl, ?_⟩⟩
 rw[O]; have i:d<a.tmps.size:=by rw[p.size]; exact hn
 have v:RV g w (fun _ j=>(st.fl (.s t k j)).cp) (fun k j=> .s d k j) u (.one x):=by
  have:RV g w (fun _ j=>st.fl (.s t k j)) (fun _ j=> .s t k j) u (.one x):=D
  exact this.cp p.ok (fun _ _=>rfl)
 have K:=p.set hn v (fun h=>absurd c h)
 obtain⟨g',_,L⟩:=K.mvs (M.map fun j=>(.s t k j, .s d 0 j)) (fun m R=>by
  obtain⟨j,Q,rfl⟩:=z49.1 R; obtain⟨y,z⟩:=N j Q; have f:st.at (.s t k j)=some y:=by rw[St.at_s,E]; simp [V.leaf,C,z]
  have e:(st.put d (.one x) (fun _ j=>(st.fl (.s t k j)).cp)).at (.s t k j)=st.at (.s t k j):=at_put (by simp [aS,b])
  refine⟨rfl,rfl,by simp [b], ?_,⟨y,by rw[e]; exact f⟩, ?_⟩
  ·rw[pL,e,f]; exact z
  ·rw[AY (l:= .s t k j) i (by simp [aS,b])]
   simp only[vAt]; rw[Act.put_getD a d _ _ i,z17 rfl,B]; obtain⟨Z,U,X,_⟩:=RW.leaf D z; rw[X]; simp only[sG,F,z8,U])
 exact⟨g',L⟩

theorem Th(k:aX P τ){m:Bool}{r:T}(l:o.dst=some d)(hn:d<st.n)(z: ∀x∈o.op.operands,Rdy st m x)(i: ∀op t x y u,o.op= .binOp op t x y u→evR st y= .one (.ifc true)→ ∃c,y= .const c)
  (h:iN τ (evR st) o.op=some r):qD P g0 w0 o st (st.put d (.one (.c r)) (fun _ _=>if Jc o.op&& !scal r then(if m then .F else .V)else .S)):=by
 intro a w ⟨g,j⟩; obtain⟨v,p,f,b⟩:=RM k (Q:=pm g w m) (β:=g.β) o (fun x q=>j.rp (z x q)) i h
 refine⟨_,w,p, .inl ⟨v,rfl,g, ?_⟩⟩
 rw[l]; refine j.set hn ⟨f.not_agg, ?_⟩ (fun h=>absurd rfl h)
 show LF g w (if Jc o.op&& !scal r then(if m then .F else .V)else .S) (.s d 0 0) v r
 cases hsc:scal r with
 | true=>simp only[z31,z83,z51,if_false]; exact⟨hsc,f.scal hsc⟩
 | false=>
  rcases b with e | e
  ·rw[e]
   simp only[z97,z95,if_true]; cases m with
   | true=>exact f
   | false=>exact f
  ·rw[hsc]at e; cases e

theorem OY{c x y:Operand}{b:Bool}{r1 r2:T}(u:o.dst=some d)(hn:d<st.n)(ho:o.op= .pick c x y)(v:ev st.sl c= .one (.c (.bool b)))(B:b=true→ev st.sl x= .one (.c r1)∧scal r1=true)(C:b=false→ev st.sl y= .one (.c r2)∧scal r2=true):
  qD P g0 w0 o st (st.put d (.one (.c (if b then r1 else r2))) (fun _ _=> .S)):=by
 intro a w ⟨g,p⟩; have h1:=p.ev_rv c (fun _ _=> .none)
 rw[v]at h1; have t:a.eval c= .bool b:=by
  have:=LF.scal (g':=g) (w':=w) (κ':= .F) (l':= .none) h1.2 rfl; have this:Rd _ _ _ _:=this; generalize a.eval c=z at this; cases this; rfl
 cases b with
 | true=>
  obtain⟨l,m⟩:=B rfl; have i:=p.ev_rv x (fun k j=> .s d k j)
  rw[l]at i; refine⟨_,w,(by obtain⟨q,op,ty,r,e,f⟩:=o; simp only at ho; subst ho; simp only[execOp,t]; rfl:(execOp a.eval o).run P w= .ok (.value (a.eval x)) w), .inl ⟨_,rfl,g, ?_⟩⟩
  rw[u]; exact p.set hn ⟨i.1,i.2.scal m⟩ (fun h=>absurd rfl h)
 | false=>
  obtain⟨l,m⟩:=C rfl; have i:=p.ev_rv y (fun k j=> .s d k j)
  rw[l]at i; refine⟨_,w,(by obtain⟨q,op,ty,r,e,f⟩:=o; simp only at ho; subst ho; simp only[execOp,t]; rfl:(execOp a.eval o).run P w= .ok (.value (a.eval y)) w), .inl ⟨_,rfl,g, ?_⟩⟩
  rw[u]; exact p.set hn ⟨i.1,i.2.scal m⟩ (fun h=>absurd rfl h)
end

section
variable {P:Program} {τ:TypeId→Option TI} {g0:G} {w0:World} {o:Oper} {st:St} {d:Nat}

theorem EM(a:aX P τ){s:TypeId}{fs:List (Nat×Nat×Bool)}(h:tk τ s=some (.struct fs)):
  ∃gs,P.underlying s=some (.struct gs)∧gs.size=fs.length∧ ∀(j:Nat) f,fs[j]? =some f→ ∃g i,gs[j]? =some g∧g.offset=f.1∧P.info? g.type=some i∧i.size=f.2.1∧f.2.1≠0∧
   f.2.2=(match P.underlying g.type with | some (.struct _)=>true | some (.array _ _)=>true | _=>false)∧(P.underlying g.type).isSome:=by
 obtain⟨d,b,gs,rfl,hn,c⟩:=lI a h; exact⟨gs,b,hn,c⟩

theorem Fc{w:World}{b off:Nat}{f:Field}{i:TypeInfo}(h:P.info? f.type=some i)(h0:i.size≠0):(fieldPlace ⟨b,off,none⟩ f).run P w= .ok ⟨b,off+f.offset,none⟩ w:=by
 simp [fieldPlace,sizeOf,typeInfo,h,h0,kW]

theorem oT(r:aX P τ){s:TypeId}{fs:List (Nat×Nat×Bool)}(h:tk τ s=some (.struct fs)){f off size:Nat}{c:Bool}(t:fs[f]? =some (off,size,c)){ρ:Operand→Value}{x:Operand}{b p:Nat}(y:ρ x= .pointer (some ⟨b,p,none⟩))(ho:o.op= .fieldAddr s x f)(w:World):
  (execOp ρ o).run P w= .ok (.value (.pointer (some ⟨b,p+off,none⟩))) w:=by
 obtain⟨gs,j,_,v⟩:=EM r h; obtain⟨A,i,g,k,u,l,h0,_⟩:=v f _ t; have q:i.size≠0:=by rw[l]; exact h0
 obtain⟨m,op,ty,z,a,e⟩:=o; simp only at ho; subst ho; simp only[execOp,Instr.fieldAt,y,Sem.run_bind,run_underlying j,Result.andThen_ok,g,Instr.sureAddr,Sem.run_pure,Fc u q,k]

def BJ(q:Nat×Nat):V→Option V
 | .one (.ptr o p)=>some (.one (.ptr o (p+q.1)))
 | .one (.cp xs)=>some (.one (.cp ((xs.drop q.1).take q.2)))
 | .one (.pp l p i j)=>some (.one (.pp l p i (j+q.1)))
 | _=>none

theorem CpR.drop{g:G}{w:World}{κ:K}{b p off:Nat}{xs:List T}(h:CpR g w κ b p xs):CpR g w κ b (p+off) (xs.drop off):=by
 have a: ∀ {Q:Nat→Prop},(∀(j:Nat) x,xs[j]? =some x→ ∃c,w.cell? ⟨b,p+j,none⟩=some c∧Rd Q w c x)→ ∀(j:Nat) x,(xs.drop off)[j]? =some x→ ∃c,w.cell? ⟨b,p+off+j,none⟩=some c∧Rd Q w c x:=by
  intro Q h j x e; rw[z47]at e
  obtain⟨c,f,i⟩:=h _ x e; exact⟨c,by rw[Qr]; exact f,i⟩
 cases κ with
 | D=>trivial
 | F=>exact⟨h.1,a h.2⟩
 | V=>exact⟨h.1,a h.2⟩
 | A n=>exact h.elim
 | U n=>exact h.elim
 | S=>exact h.elim
 | N=>exact h.elim

theorem CpR.take{g:G}{w:World}{κ:K}{b p:Nat}{xs:List T}(n:Nat)(h:CpR g w κ b p xs):CpR g w κ b p (xs.take n):=by
 have a: ∀ {Q:Nat→Prop},(∀(j:Nat) x,xs[j]? =some x→ ∃c,w.cell? ⟨b,p+j,none⟩=some c∧Rd Q w c x)→ ∀(j:Nat) x,(xs.take n)[j]? =some x→ ∃c,w.cell? ⟨b,p+j,none⟩=some c∧Rd Q w c x:=by
  intro Q h j x e; rw[z66]at e
  split at e
  ·exact h _ x e
  ·cases e
 cases κ with
 | D=>trivial
 | F=>exact⟨h.1,a h.2⟩
 | V=>exact⟨h.1,a h.2⟩
 | A n=>exact h.elim
 | U n=>exact h.elim
 | S=>exact h.elim
 | N=>exact h.elim

theorem Ju(F:aX P τ){s:TypeId}{x:Operand}{f off size:Nat}{C:Bool}{fs:List (Nat×Nat×Bool)}{r:V}(H:o.dst=some d)(hn:d<st.n)(ho:o.op= .fieldAddr s x f)(q:tk τ s=some (.struct fs))(I:fs[f]? =some (off,size,C))
  (m:BJ (off,size) (ev st.sl x)=some r)(c:aI (ev st.sl x)≠ .none→aS d (aI (ev st.sl x))=false∧opK st x 0 0≠ .D)(u: ∀l p i j,ev st.sl x= .one (.pp l p i j)→l≠ .none):qD P g0 w0 o st (st.put d r (fun _ _=>opK st x 0 0)):=by
 intro a w ⟨g,z⟩; have h1:=z.ev_rv x (fun k j=> .s d k j)
 generalize B:ev st.sl x=y at h1 m c u; unfold BJ at m; split at m
 ·rename_i ob p
  cases m; refine⟨_,w,oT F q I h1 ho w, .inl ⟨_,rfl,g, ?_⟩⟩
  rw[H]; exact z.set hn rfl (fun h=>absurd rfl h)
 ·rename_i xs
  cases m; obtain⟨b,p,e,X⟩:=h1; refine⟨_,w,oT F q I e ho w, .inl ⟨_,rfl,g, ?_⟩⟩
  rw[H]; exact z.set hn ⟨b,p+off,rfl,X.drop.take _⟩ (fun h=>absurd rfl h)
 ·rename_i l p i j
  cases m; cases x with
  | tmp t=>
   have A:st.sl t= .one (.pp l p i j):=B; have M:l≠ .none:=u l p i j rfl; obtain⟨J,Y⟩:=c M; have W:st.fl (.s t 0 0)≠ .D:=fun e=>Y (by simp [opK,e,K.cp])
   have:=z.pls t (by rw[A]; exact M) W
   rw[A]at this; obtain⟨L,Z,x0,b,N,len,E,U,e,O,Q,R,S,T⟩:=this; refine⟨_,w,oT F q I (ρ:=a.eval) (x:= .tmp t) T ho w, .inl ⟨_,rfl,g, ?_⟩⟩
   rw[H]; exact z.set hn trivial (fun _ _=>⟨L,J,Z,x0,b,N,len,E,U,e,O,Q,R,S,by rw[Qr (N+i*e.length)]⟩)
  | const v=>
   exfalso
   have:bE v= .one (.pp l p i j):=B; unfold bE at this
   (repeat' split at this)<;>simp at this
  | func f=>simp [ev]at B
  | global n=>simp [ev]at B
 ·cases m

theorem Kv{x:Operand}(I:o.dst=some d)(hn:d<st.n)(ho:o.op= .nilCheck x)(q:match ev st.sl x with | .one (.ptr _ _)=>True | .one (.cp _)=>True | .one (.fn _ _)=>True | .one (.pp l _ _ _)=>l≠ .none∧aS d l=false∧opK st x 0 0≠ .D | _=>False):
  qD P g0 w0 o st (st.put d (ev st.sl x) (opK st x)):=by
 intro a w ⟨g,F⟩; have h1:=F.ev_rv x (fun k j=> .s d k j)
 generalize u:ev st.sl x=y at h1 q; have c: ∀v,(execOp a.eval o).run P w= .ok (.value v) w→v=a.eval x→(aI y≠ .none→opK st x 0 0≠ .D→(st.fl (aI y)).hold=true∧aS d (aI y)=false∧GC st a.tmps g.β w v y)→ ∃r w',(execOp a.eval o).run P w= .ok r w'∧((∃v,r= .value v∧Sim g0 w0 (st.put d y (opK st x)) (a.put o.dst v) w')∨(r= .skip∧Sim g0 w0 (st.put d y (opK st x)) (a.put o.dst undef) w')):=by
  rintro v W rfl hp
  refine⟨_,w,W, .inl ⟨_,rfl,g, ?_⟩⟩
  rw[I]; exact F.set hn h1 hp
 obtain⟨L,op,ty,X,z,B⟩:=o; simp only at ho I; subst ho; split at q
 ·have e:a.eval x= .pointer (some _):=h1
  exact c _ (by simp only[execOp,e]; rfl) e.symm (fun h=>absurd rfl h)
 ·obtain⟨b,p,e,_⟩:=h1
  exact c _ (by simp only[execOp,e]; rfl) e.symm (fun h=>absurd rfl h)
 ·have e:a.eval x= .func _ _ _:=h1
  exact c _ (by simp only[execOp,e]; rfl) e.symm (fun h=>absurd rfl h)
 ·rename_i l p i j
  obtain⟨V,C,U⟩:=q; cases x with
  | tmp t=>
   have m:st.sl t= .one (.pp l p i j):=u; have T:st.fl (.s t 0 0)≠ .D:=fun e=>U (by simp [opK,e,K.cp])
   have:=F.pls t (by rw[m]; exact V) T
   rw[m]at this; obtain⟨E,Y,x0,b,J,len,A,S,e,M,N,O,Q,R⟩:=this; have H:a.eval (.tmp t)= .pointer (some ⟨b,J+i*e.length+j,none⟩):=R; exact c _ (by simp only[execOp,H]; rfl) H.symm (fun _ _=>⟨E,C,Y,x0,b,J,len,A,S,e,M,N,O,Q,rfl⟩)
  | const v=>
   exfalso
   have:bE v= .one (.pp l p i j):=u; unfold bE at this
   (repeat' split at this)<;>simp at this
  | func f=>simp [ev]at u
  | global n=>simp [ev]at u
 ·exact q.elim

theorem PC{a:Act}{g:G}{w:World}(f:bP g0 w0 st a g w): ∀ {l:List Operand} {cs:List (Nat×Nat)},FU (l.map (ev st.sl))=some cs→l.map a.eval=cs.map fun c=>Value.pointer (some ⟨g.β c.1,c.2,none⟩)
 | [],cs,h=>by simp only[Uc,FU,z9]at h; subst h; rfl
 | x::r,cs,h=>by
  simp only[z54]at h; unfold FU at h; split at h
  ·rename_i b; cases b
  ·rename_i o off p b
   simp only[List.cons.injEq]at b; obtain⟨j,k⟩:=b; obtain⟨i,e,rfl⟩:=z22.1 h; rw[←k]at e; have m:=f.ev_rv x (fun _ _=> .none)
   rw[j]at m; simp only[z54,PC f e]; congr 1
  ·cases h

theorem LA{f:FuncId}{caps:Array Operand}{cs:List (Nat×Nat)}(k:o.dst=some d)(hn:d<st.n)(ho:o.op= .makeFunc (.func f) #[] caps)(e:FU (caps.toList.map (ev st.sl))=some cs):
  qD P g0 w0 o st (st.put d (.one (.fn f cs)) (fun _ _=> .S)):=by
 intro a w ⟨g,i⟩; have h1:=PC i e; have l:(execOp a.eval o).run P w= .ok (.value (.func (.func f) #[] (caps.map a.eval))) w:=by
  obtain⟨j,op,ty,m,b,c⟩:=o; simp only at ho; subst ho; simp [execOp,Instr.makeFunc]
 refine⟨_,w,l, .inl ⟨_,rfl,g, ?_⟩⟩
 rw[k]; refine i.set hn ?_ (fun h=>absurd rfl h)
 show Value.func (.func f) #[] (caps.map a.eval)= .func (.func f) #[] _; rw[←h1]; congr 1
 apply Nd
 simp

theorem qT(l:aX P τ){t e:TypeId}{j:TI}(v:tk τ t=some (.sl e))(s:τ e=some j){ρ:Operand→Value}{x i:Operand}{b off len f:Nat}{n:Int}{k:IntKind}(y:ρ x= .slice (some ⟨b,off,none⟩) len f)(u:ρ i= .int k n)(h0:0≤n)(h1:n<len)(ho:o.op= .indexAddr t x i)(w:World):
  (execOp ρ o).run P w= .ok (.value (.pointer (some ⟨b,off+n.toNat*j.size,none⟩))) w:=by
 obtain⟨d,r,rfl⟩:=lI l v; obtain⟨p,a,h,m⟩:=nM l s; obtain⟨q,op,ty,z,c,g⟩:=o; simp only at ho; subst ho; simp only[execOp,Instr.indexAt,y,u,asIntOf,Sem.run_bind,Sem.run_pure,Result.andThen_ok,run_underlying r,h0,h1,and_self,if_true,sizeOf,typeInfo,run_program,a,h,kW]

theorem bP.int{a:Act}{g:G}{w:World}(b:bP g0 w0 st a g w){x:Operand}{k:IntKind}{n:Int}(h:ev st.sl x= .one (.c (.int k n))):a.eval x= .int k n:=by
 have h1:=b.ev_rv x (fun _ _=> .none)
 rw[h]at h1; have:=LF.scal (g':=g) (w':=w) (κ':= .F) (l':= .none) h1.2 rfl; have this:Rd _ _ _ _:=this; generalize a.eval x=z at this; cases this; rfl

theorem Jr(v:aX P τ){t e:TypeId}{p:TI}{x i:Operand}{l:List (List T)}{row:List T}{k:IntKind}{n:Int}{m:Bool}(D:o.dst=some d)(hn:d<st.n)(ho:o.op= .indexAddr t x i)(J:tk τ t=some (.sl e))(z:τ e=some p)
  (K:evR st x= .one (.c (.sl l)))(I:Rdy st m x)(E:ev st.sl i= .one (.c (.int k n)))(h0:0≤n)(f:l[n.toNat]? =some row)(r:row.length=p.size):qD P g0 w0 o st (st.put d (.one (.cp row)) (fun _ _=>if m then .F else .V)):=by
 intro a w ⟨g,q⟩; have h1:=q.rp I; rw[K]at h1; obtain⟨_,_,_,j⟩:=nM v z; obtain⟨b,off,len,B,C,L,b2,A,s,u,y⟩:=Gu (β:=g.β) h1 f r j; have H:n.toNat<l.length:=by
  rcases z94 n.toNat l.length with h | h
  ·exact h
  ·rw[z67 h]at f; cases f
 simp only[Value.pointer.injEq,z9,Addr.mk.injEq]at s; obtain⟨rfl,rfl,_⟩:=s; refine⟨_,w,qT v J z C (q.int E) h0 (by omega) ho w, .inl ⟨_,rfl,g, ?_⟩⟩
 rw[D]; refine q.set hn ⟨b,off+n.toNat*p.size,rfl, ?_⟩ (fun h=>absurd rfl h)
 cases m with
 | true=>exact⟨u,y⟩
 | false=>exact⟨u,y⟩

theorem Hq(M:aX P τ){t e:TypeId}{L:TI}{x:Nat}{i:Operand}{l:Loc}{p:List (Nat×Nat)}{x0:T}{q:List (List T)}{row:List T}{k:IntKind}{n:Int}(S:o.dst=some d)(hn:d<st.n)(ho:o.op= .indexAddr t (.tmp x) i)(X:tk τ t=some (.sl e))(N:τ e=some L)
  (O:st.sl x= .one (.al l p))(E:l≠ .none)(V:st.fl (.s x 0 0)≠ .D)(C:aS d l=false)(j:st.at l=some x0)(u:nav x0 p=some (.sl q))(U:ev st.sl i= .one (.c (.int k n)))(h0:0≤n)(f:q[n.toNat]? =some row)(y:row.length=L.size):
  qD P g0 w0 o st (st.put d (.one (.pp l p n.toNat 0)) (fun _ _=> .F)):=by
 intro a w ⟨g,z⟩; have:=z.pls x (by rw[O]; exact E) V
 rw[O]at this; obtain⟨r,Y,I,x',J,R,B⟩:=this; have m:st.at l=some I:=R; rw[j]at m; cases m; have K:=B.nav; rw[u]at K; cases K; have H:=z.pl_rd r J j B; obtain⟨_,_,_,v⟩:=nM M N; obtain⟨b,off,len,A,Q,Z,_⟩:=Gu (β:=g.β) H f y v; have W:n.toNat<q.length:=by
  rcases z94 n.toNat q.length with h | h
  ·exact h
  ·rw[z67 h]at f; cases f
 refine⟨_,w,qT M X N (ρ:=a.eval) (x:= .tmp x) Q (z.int U) h0 (by omega) ho w, .inl ⟨_,rfl,g, ?_⟩⟩
 rw[S]; exact z.set hn trivial (fun _ _=>⟨r,C,Y,x0,b,off,len,A,q,row,J,j,by rw[←Q]; exact B,f,by rw[y]; rfl⟩)

theorem LE(v:aX P τ){t e:TypeId}{l:TI}{x i:Operand}{ob p len:Nat}{k:IntKind}{n:Int}(C:o.dst=some d)(hn:d<st.n)(ho:o.op= .indexAddr t x i)(F:tk τ t=some (.arr len e))(D:τ e=some l)
  (I:ev st.sl x= .one (.ptr ob p))(E:ev st.sl i= .one (.c (.int k n)))(h0:0≤n)(h1:n<len):qD P g0 w0 o st (st.put d (.one (.ptr ob (p+n.toNat*l.size))) (fun _ _=> .S)):=by
 intro a w ⟨g,s⟩; have f:=s.ev_rv x (fun _ _=> .none)
 rw[I]at f; have B:a.eval x= .pointer (some ⟨g.β ob,p,none⟩):=f; obtain⟨K,q,rfl⟩:=lI v F; obtain⟨z,b,u,y⟩:=nM v D; have H:(execOp a.eval o).run P w= .ok (.value (.pointer (some ⟨g.β ob,p+n.toNat*l.size,none⟩))) w:=by
  have r:=s.int E; obtain⟨A,op,ty,J,j,m⟩:=o; simp only at ho; subst ho; simp only[execOp,Instr.indexAt,B,r,asIntOf,Sem.run_bind,Sem.run_pure,Result.andThen_ok,run_underlying q,Instr.sureAddr,h0,h1,and_self,if_true,sizeOf,typeInfo,run_program,b,u,kW]
 refine⟨_,w,H, .inl ⟨_,rfl,g, ?_⟩⟩
 rw[C]; exact s.set hn rfl (fun h=>absurd rfl h)
end

def tI:T→T→Bool
 | .int k _, .int a _=>k == a
 | .bool _, .bool _=>true
 | .np, .np=>true
 | .str _, .str _=>true
 | .sl _, .sl _=>true
 | .hole, .sl _=>true
 | _,_=>false
def iG:List T→List T→Bool
 | [],[]=>true
 | x::r,y::q=>tI x y&&iG r q
 | _,_=>false

theorem AL{x y:T}(h:tI x y=true):scal x=scal y:=by
 cases x<;>cases y<;>first | rfl | cases h

theorem sU: ∀ {xs ys:List T},iG xs ys=true→xs.length=ys.length∧ ∀(j:Nat) x,xs[j]? =some x→ ∃y,ys[j]? =some y∧tI x y=true
 | [],[],_=>⟨rfl,by simp⟩
 | [],_::_,h=>by cases h
 | _::_,[],h=>by cases h
 | x::r,y::q,h=>by
  simp only[iG,z7]at h; obtain⟨e,a⟩:=sU h.2; refine⟨by simp [e],fun j z hz=> ?_⟩
  cases j with
  | zero=>simp only[z20,z9]at hz ⊢; subst hz; exact⟨y,rfl,h.1⟩
  | succ j=>simp only[z21]at hz ⊢; exact a j z hz

def jP(a:List T)(j:Nat):Bool:=match a[j]? with | some z=>scal z | none=>false

def pF(i:TI)(cells:List T):Option V:=
 if iG (cells.take i.size) i.zero then(if i.agg then some (.one (.ag (cells.take i.size)))else match cells with | x::_=>some (.one (.c x)) | []=>none)else none

theorem aX.get{P:Program}{τ:TypeId→Option TI}(m:aX P τ){t:TypeId}{i:TI}(h:τ t=some i): ∃a d z,P.info? t=some a∧P.underlying t=some d∧a.size=i.size∧a.bytes=i.bytes∧a.zero=some z∧
 wZ z.cells.toList=some i.zero∧i.zero.length=i.size∧0<i.size∧i.agg=(match d with | .struct _=>true | .array _ _=>true | _=>false):=by
 obtain⟨a,d,z,h1,b,c,e,f,g,j,k,l,_⟩:=m t i h; exact⟨a,d,z,h1,b,c,e,f,g,j,k,l⟩

theorem sR{P:Program}{τ:TypeId→Option TI}(hT:aX P τ){g:G}{w:World}{t:TypeId}{i:TI}(hi:τ t=some i){b p:Nat}{xs:List T}{r:V}{κ:Nat→K}{l:Nat→Loc}{l':Nat→Nat→Loc}
  (M: ∀(j:Nat) x,xs[j]? =some x→ ∃c,w.cell? ⟨b,p+j,none⟩=some c∧nV c∧LF g w (κ j) (l j) c x)(k:pF i xs=some r)(O: ∀j c x,LF g w (κ j) (l j) c x→LF g w (κ j).cp (l' 0 j) c x):
  ∃u,(loadVar t ⟨b,p,none⟩).run P w= .ok u w∧RV g w (fun _ j=>if jP i.zero j then .S else(κ j).cp) l' u r∧aI r= .none∧ ∀j y,r.leaf 0 j=some y→xs[j]? =some y∧sG u 0 j=w.cell? ⟨b,p+j,none⟩:=by
 obtain⟨X,d,z,h1,J,Y,h4,h5,h6,h7,Z,L⟩:=hT.get hi; unfold pF at k; split at k
 ·rename_i D
  obtain⟨e,F⟩:=sU D; have hle:i.size≤xs.length:=by
   rw[z44]at e; omega
  have H: ∀(j:Nat) x c,j<i.size→xs[j]? =some x→LF g w (κ j) (l j) c x→LF g w (if jP i.zero j then .S else(κ j).cp) (l' 0 j) c x:=by
   intro j x c f B E; split
   ·rename_i hs
    obtain⟨y,hy,m⟩:=F j x (by rw[z66,z17 f]; exact B)
    have:scal x=true:=by
     rw[AL m]; simpa [jP,hy]using hs
    exact E.scal this
   ·exact O j c x E
  cases hag:i.agg with
  | true=>
   rw[hag]at k L; simp only[if_true,z9]at k; subst k; let xI:List Value:=(List.range i.size).map fun j=>(w.cell? ⟨b,p+j,none⟩).getD undef
   have I: ∀(j:Nat) v,xI[j]? =some v→w.cell? ((⟨b,p,none⟩:Addr).add j)=some v:=by
    intro j v U; simp only[xI,z28,z22]at U
    obtain⟨j',s,rfl⟩:=U; have A:j<i.size:=by
     rcases z94 j i.size with h | h
     ·exact h
     ·rw[z67 (by simpa using h)]at s; cases s
    rw[Vz A]at s
    cases s; obtain⟨c,m,_⟩:=M j xs[j] (z16 (by omega))
    rw[kW,m]; rfl
   have e:xI.length=i.size:=by simp [xI]
   have C:=run_loadCells_list (P:=P) w ⟨b,p,none⟩ xI I; have R: ∀j,j<i.size→xI.toArray[j]? =w.cell? ⟨b,p+j,none⟩:=by
    intro j f; obtain⟨c,m,_⟩:=M j xs[j] (z16 (by omega))
    have:xI[j]? =some c:=by simp [xI,Vz f,m]
    rw[m]; simpa using this
   have A: ∀(j:Nat) x,(xs.take i.size)[j]? =some x→j<i.size∧xs[j]? =some x:=by
    intro j x h; rw[z66]at h
    split at h
    ·exact⟨by assumption,h⟩
    ·cases h
   refine⟨.agg xI.toArray, ?_,⟨xI.toArray,rfl,by simp [e]; omega,fun j x Q=> ?_⟩,rfl,fun j y f=> ?_⟩
   ·rw[e]at C
    have a:(isAgg t).run P w= .ok true w:=by
     simp only[isAgg,Sem.run_bind,run_underlying J,Result.andThen_ok]; cases d<;>first | (simp at L; done) | rfl
    simp only[loadVar,Sem.run_bind,a,Result.andThen_ok,if_true,sizeOf,typeInfo,run_program,h1,Sem.run_pure,Y,C]
   ·obtain⟨f,B⟩:=A j x Q
    obtain⟨c,m,hn,E⟩:=M j x B; exact⟨c,by rw[R j f]; exact m,hn,H j x c f B E⟩
   ·obtain⟨h1,J⟩:=A j y f
    exact⟨J,R j h1⟩
  | false=>
   rw[hag]at k L; simp only[z51,if_false]at k; split at k
   ·rename_i x q
    simp only[z9]at k; subst k; obtain⟨c,m,hn,E⟩:=M 0 x rfl; refine⟨c, ?_,⟨hn,H 0 x c Z rfl E⟩,rfl,fun j y f=> ?_⟩
    ·have a:(isAgg t).run P w= .ok false w:=by
      simp only[isAgg,Sem.run_bind,run_underlying J,Result.andThen_ok]; cases d<;>first | (simp at L; done) | rfl
     have N:w.cell? ⟨b,p,none⟩=some c:=m; simp only[loadVar,Sem.run_bind,a,Result.andThen_ok,z51,if_false,run_load,N]
    ·cases j with
     | zero=>
      simp only[V.leaf,W.leaf,z9]at f; subst f; exact⟨rfl,by rw[m,(iX hn).2]⟩
     | succ j=>simp [V.leaf,W.leaf]at f
   ·cases k
 ·cases k

section
variable {P:Program} {τ:TypeId→Option TI} {g0:G} {w0:World} {o:Oper} {st:St} {d:Nat}

theorem qL{ρ:Operand→Value}{t:TypeId}{x:Operand}{b p:Nat}{u:Value}{w:World}(ho:o.op= .load t x)(g:ρ x= .pointer (some ⟨b,p,none⟩))(f:(loadVar t ⟨b,p,none⟩).run P w= .ok u w):(execOp ρ o).run P w= .ok (.value u) w:=by
 obtain⟨e,op,ty,h,a,c⟩:=o; simp only at ho; subst ho; simp only[execOp,Instr.loadAt,g,Instr.sureAddr,Sem.run_bind,Sem.run_pure,Result.andThen_ok,f]

theorem bP.obsCell{a:Act}{g:G}{w:World}(l:bP g0 w0 st a g w){ob p:Nat}{cells:List T}(k:st.ob ob=some cells): ∀(j:Nat) x,(cells.drop p)[j]? =some x→ ∃c,w.cell? ⟨g.β ob,p+j,none⟩=some c∧nV c∧LF g w (st.fl (.oc ob (p+j))) (.oc ob (p+j)) c x:=by
 intro j x e; obtain⟨b,ty,m,r,s,q⟩:=l.obs ob cells k; rw[z47]at e
 obtain⟨c,f,h,i⟩:=q _ _ e; exact⟨c,by rw[cJ w _ _ b ty (0,0) m]; exact f,h,i⟩

theorem Tw(H:aX P τ){t:TypeId}{x:Operand}{i:TI}{ob p:Nat}{cells:List T}{r:V}(M:List Nat)(I:o.dst=some d)(hn:d<st.n)(ho:o.op= .load t x)(K:τ t=some i)(R:ev st.sl x= .one (.ptr ob p))(A:st.ob ob=some cells)
  (O:pF i (cells.drop p)=some r)(F: ∀j∈M, ∃y,r.leaf 0 j=some y):
  qD P g0 w0 o st ((st.put d r (fun _ j=>if jP i.zero j then .S else(st.fl (.oc ob (p+j))).cp)).mvs (M.map fun j=>(.oc ob (p+j), .s d 0 j))):=by
 intro a w ⟨g,q⟩; have h1:=q.ev_rv x (fun _ _=> .none)
 rw[R]at h1; have D:a.eval x= .pointer (some ⟨g.β ob,p,none⟩):=h1; obtain⟨u,Q,z,e,b⟩:=sR H K (g:=g) (κ:=fun j=>st.fl (.oc ob (p+j))) (l:=fun j=> .oc ob (p+j)) (l':=fun k j=> .s d k j) (q.obsCell A) O (fun j c x J=>J.cp q.ok rfl)
 refine⟨_,w,qL ho D Q, .inl ⟨_,rfl, ?_⟩⟩
 rw[I]; have v:d<a.tmps.size:=by rw[q.size]; exact hn
 have h1:=q.set hn z (fun h=>absurd e h)
 obtain⟨g',_,E⟩:=h1.mvs (M.map fun j=>(.oc ob (p+j), .s d 0 j)) (fun m N=>by
  obtain⟨j,L,rfl⟩:=z49.1 N; obtain⟨y,B⟩:=F j L; obtain⟨C,U⟩:=b j y B; have f:(st.put d r (fun _ j=>if jP i.zero j then .S else(st.fl (.oc ob (p+j))).cp)).at (.oc ob (p+j))=some y:=by
   rw[at_put rfl,St.at_oc,A]; rw[z47]at C
   exact C
  refine⟨rfl,rfl,by simp,by rw[pL,f]; exact B,⟨y,f⟩, ?_⟩
  simp only[vAt]; rw[Act.put_getD a d _ _ v,z17 rfl]; exact U)
 exact⟨g',E⟩

theorem Jp(m:aX P τ){t:TypeId}{x:Operand}{i:TI}{ob p:Nat}{cells:List T}{f:List (List T)}{e:TypeId}(A:o.dst=some d)(hn:d<st.n)(ho:o.op= .load t x)(B:τ t=some i)(D:tk τ t=some (.sl e))(H:ev st.sl x= .one (.ptr ob p))(q:st.ob ob=some cells)
  (r:cells[p]? =some (.sl f))(C:(st.fl (.oc ob p)).hold=true):qD P g0 w0 o st (st.put d (.one (.al (.oc ob p) [])) (fun _ _=> .F)):=by
 intro a w ⟨g,l⟩; have h1:=l.ev_rv x (fun _ _=> .none)
 rw[H]at h1; have y:a.eval x= .pointer (some ⟨g.β ob,p,none⟩):=h1; obtain⟨c,h,I,u⟩:=l.obsCell q (p:=p) 0 (.sl f) (by rw[z47]; exact r)
 rw[z69]at h u; obtain⟨s,J,z,h1,K,L,M,N,O,Q,R,S⟩:=m.get B; obtain⟨v,k,rfl⟩:=lI m D; have E:(loadVar t ⟨g.β ob,p,none⟩).run P w= .ok c w:=by
  have b:(isAgg t).run P w= .ok false w:=by simp only[isAgg,Sem.run_bind,run_underlying k,Result.andThen_ok]; rfl
  simp only[loadVar,Sem.run_bind,b,Result.andThen_ok,z51,if_false,run_load,h]
 refine⟨_,w,qL ho y E, .inl ⟨_,rfl,g, ?_⟩⟩
 rw[A]; have j:st.at (.oc ob p)=some (.sl f):=by rw[St.at_oc,q]; exact r
 exact l.set hn trivial (fun _ _=>⟨C,rfl,c, .sl f, .sl f,h,j, .nil _ _⟩)

theorem LC(L:aX P τ){t:TypeId}{x:Operand}{i:TI}{xs:List T}{r:V}(M:o.dst=some d)(hn:d<st.n)(ho:o.op= .load t x)(O:τ t=some i)(R:ev st.sl x= .one (.cp xs))(H:opK st x 0 0≠ .D)(q:pF i xs=some r):
  qD P g0 w0 o st (st.put d r (fun _ j=>if jP i.zero j then .S else opK st x 0 0)):=by
 intro a w ⟨g,I⟩; have h1:=I.ev_rv x (fun _ _=> .none)
 rw[R]at h1; obtain⟨b,p,K,e⟩:=h1; have m: ∀(j:Nat) y,xs[j]? =some y→ ∃c,w.cell? ⟨b,p+j,none⟩=some c∧nV c∧LF g w (opK st x 0 0) .none c y:=by
  intro j y J; generalize z:opK st x 0 0=κ at e H; cases κ with
  | D=>exact absurd rfl H
  | F=>obtain⟨c,E,q⟩:=e.2 j y J; exact⟨c,E,q.not_agg,q⟩
  | V=>obtain⟨c,E,q⟩:=e.2 j y J; exact⟨c,E,q.not_agg,q⟩
  | A n=>exact e.elim
  | U n=>exact e.elim
  | S=>exact e.elim
  | N=>exact e.elim
 have f:(opK st x 0 0).cp=opK st x 0 0:=by
  generalize z:opK st x 0 0=κ at e; cases κ<;>first | rfl | exact e.elim
 obtain⟨u,Q,B,v,_⟩:=sR L O (g:=g) (κ:=fun _=>opK st x 0 0) (l:=fun _=> .none) (l':=fun k j=> .s d k j) m q (fun j c y C=>by
  rw[f]; generalize z:opK st x 0 0=κ at e C; cases κ with
  | D=>exact C
  | F=>exact C
  | V=>exact C
  | A n=>exact e.elim
  | U n=>exact e.elim
  | S=>exact e.elim
  | N=>exact e.elim)
 refine⟨_,w,qL ho K Q, .inl ⟨_,rfl,g, ?_⟩⟩
 rw[M]; simp only[f]at B; exact I.set hn B (fun h=>absurd v h)

theorem bP.ppCell{a:Act}{g:G}{w:World}(X:bP g0 w0 st a g w){t:Nat}{l:Loc}{p:List (Nat×Nat)}{i j:Nat}{x0:T}{u:List (List T)}{row:List T}(Y:st.sl t= .one (.pp l p i j))(M:l≠ .none)(hk:st.fl (.s t 0 0)≠ .D)(C:st.at l=some x0)(H:nav x0 p=some (.sl u))(f:u[i]? =some row):
  (st.fl l).hold=true∧ ∃J b off len k,vAt a.tmps g.β w l=some J∧Pl w J x0 p (.slice (some ⟨b,off,none⟩) len k) (.sl u)∧a.tmps.getD t undef= .pointer (some ⟨b,off+i*row.length+j,none⟩)∧
   ∀(q:Nat) y,(row.drop j)[q]? =some y→ ∃c,w.cell? ⟨b,off+i*row.length+j+q,none⟩=some c∧Rd (all g w) w c y∧Pl w J x0 (p++[(i,j+q)]) c y:=by
 have:=X.pls t (by rw[Y]; exact M) hk
 rw[Y]at this; obtain⟨F,J,R,b,off,len,k,es',row',U,e2,K,V,e5⟩:=this; have A:st.at l=some R:=e2; rw[C]at A; cases A; have W:=K.nav; rw[H]at W; cases W; rw[f]at V; cases V; refine⟨F,J,b,off,len,k,U,K,e5,fun q y z=> ?_⟩
 rw[z47]at z
 have I:=X.pl_rd F U C K; have Q: ∃c,w.cell? ⟨b,off+i*row.length+(j+q),none⟩=some c∧Rd (all g w) w c y:=by
  generalize hv:Value.slice (some ⟨b,off,none⟩) len k=v at I; cases I with
  | nil a k=>simp at f
  | sl b' off' Z S s u cs hl E O hP hm N=>
   cases hv; have e7:=O i row f; exact⟨cs i (j+q),by rw[e7]; exact hm i row (j+q) y f z,N i row (j+q) y f z⟩
 obtain⟨c,E,N⟩:=Q; refine⟨c,by rw[Qr]; exact E,N, ?_⟩
 have B: ∀ {v:Value} {x:T} {p:List (Nat×Nat)} {v':Value} {x':T},Pl w v x p v' x'→ ∀ {i j:Nat} {m:Value} {r:T},Pl w v' x' [(i,j)] m r→Pl w v x (p++[(i,j)]) m r:=by
  intro v x p v' x' h; induction h with
  | nil=>intro i j m r L; exact L
  | cons b off len k u e c y i j p v' x' he z E h ih=>intro i' j' m r L; exact .cons b off len k u e c y i j _ _ _ he z E (ih L)
 exact B K (.cons b off len k u row c y i (j+q) [] c y f z E (.nil _ _))

theorem Jo(L:aX P τ){t:TypeId}{x:Nat}{B:TI}{l:Loc}{p:List (Nat×Nat)}{i j:Nat}{x0:T}{E:List (List T)}{row:List T}{r:V}(M:o.dst=some d)(hn:d<st.n)(ho:o.op= .load t (.tmp x))(O:τ t=some B)(W:st.sl x= .one (.pp l p i j))(z:l≠ .none)(Q:st.fl (.s x 0 0)≠ .D)
  (v:st.at l=some x0)(f:nav x0 p=some (.sl E))(m:E[i]? =some row)(R:pF B (row.drop j)=some r):qD P g0 w0 o st (st.put d r (fun _ j=>if jP B.zero j then .S else .V)):=by
 intro a w ⟨g,F⟩; obtain⟨_,v0,b,off,len,I,Y,Z,J,K⟩:=F.ppCell W z Q v f m; obtain⟨u,U,A,e,_⟩:=sR L O (g:=g) (κ:=fun _=> .V) (l:=fun _=> .none) (l':=fun k j=> .s d k j) (b:=b) (p:=off+i*row.length+j) (xs:=row.drop j) (fun q y X=>by
  obtain⟨c,H,C,_⟩:=K q y X; exact⟨c,H,C.not_agg,C⟩) R (fun _ _ _ N=>N)
 refine⟨_,w,qL ho J U, .inl ⟨_,rfl,g, ?_⟩⟩
 rw[M]; exact F.set hn A (fun h=>absurd e h)

theorem bP.settle{a:Act}{g:G}{w:World}(h:bP g0 w0 st a g w){l:Loc}{s b off len z:Nat}{D:List (List T)}(hκ:st.fl l= .A s)(C:st.at l=some (.sl D))(hv:vAt a.tmps g.β w l=some (.slice (some ⟨b,off,none⟩) len z)):
  ∃g':G,bP g0 w0 st a g' w∧ ∀(i:Nat) (e:List T) (j:Nat) (y:T),D[i]? =some e→e[j]? =some y→ ∃c,w.cell? ⟨b,off+i*e.length+j,none⟩=some c∧nV c∧Rd (frz g' w) w c y:=by
 obtain⟨hl,W,X⟩:=Loc.place_ne (at_isPlace C); obtain⟨v0,Y,_,I⟩:=h.get C; rw[hv]at Y; cases Y; rw[hκ]at I; have O:Ow (frz g w) false w (some s) (fun k=>g.own k=l) (.slice (some ⟨b,off,none⟩) len z) (.sl D):=I
 cases O with
 | nil t F a=>exact⟨g,h,fun i e j y h1=>by simp at h1⟩
 | sl t F b len z s' E ty D own cs ht hb hh V Q H K ha N hr=>
  obtain⟨g',u⟩: ∃g':G,g'= { β:=g.β,own:=fun k=>if g.own k=l∧k≠b then .none else g.own k }:=⟨_,rfl⟩
  have r: ∀k m,m≠l→g.own k=m→g'.own k=m:=fun k m N f=>by rw[u]; simp only; rw[z11 (fun q=>N (f ▸ q.1))]; exact f
  have M: ∀k,g.own k= .none→g'.own k= .none:=fun k f=>r k _ (Ne.symm hl) f
  have Z: ∀k,all g w k→all g' w k:=fun k f=>⟨f.1,fun o=>by
   rw[u]; show(if g.own k=l∧k≠b then Loc.none else g.own k)≠ .obj o
   split
   ·simp
   ·exact f.2 o⟩
  have S: ∀k,frz g w k→frz g' w k:=fun k f=>⟨f.1,M k f.2⟩
  have U: ∀k,g.own k=l→k≠b→frz g' w k:=fun k h1 B=>⟨h.ok.own k (by rw[h1]; exact hl),by rw[u]; exact z17 ⟨h1,B⟩⟩
  have J:GOk g' w:=⟨fun k f=>h.ok.own k (fun e=>f (M k e))⟩
  have p: ∀(i:Nat) (e:List T) (j:Nat) (y:T),D[i]? =some e→e[j]? =some y→Rd (frz g' w) w (cs i j) y:=fun i e j y h1 B=>(hr i e j y h1 B).rd (fun k ⟨q1,q2,_⟩=>U k q1 q2) S
  refine⟨g', ?_,fun i e j y h1 B=>⟨cs i j, ?_,(p i e j y h1 B).not_agg,p i e j y h1 B⟩⟩
  ·have e0:st.setf (fun _=>false) st.fl=st:=by
    cases st with
    | mk n sl ob fl=>
     simp only[St.setf,St.mk.injEq,Nc]; funext m
     split<;>simp_all
   rw[←e0]; refine h.setf rfl (fun o=>by rw[u]) J (fun k f=> ?_) (fun k o f=>r k _ (Ne.symm (X o)) f) Z (fun m x v hx L R=> ?_) (fun i k xs b off hcx hc=>hc) (fun i hi hR R=>⟨R,fun h=>h⟩)
   ·rcases f with f | f
    ·rw[f]; exact M k f
    ·rw[f]; exact r k _ (Ne.symm W) f
   ·by_cases e:m=l
    ·subst e
     rw[hv]at L; cases L; rw[C]at hx; cases hx; rw[hκ]; show Ow (frz g' w) false w (some s) (fun k=>g'.own k=m) _ _
     refine .sl _ _ b len z s' E ty D own cs ht (by rw[u]; simp only[ne_eq,not_true,and_false,if_false]; exact hb) hh V Q H K ha N (fun i e j y h1 B=> .frz _ _ _ rfl (p i e j y h1 B))
    ·exact R.moved (fun k f=>r k m e f) M Z
  ·have:=N i e j y h1 B
   rw[K i e h1,z30,cJ w b _ E ty _ hh]; exact this
theorem Ho(U:aX P τ){t:TypeId}{x s:Nat}{I:TI}{l:Loc}{i j:Nat}{v:List (List T)}{row:List T}{r:V}(X:o.dst=some d)(hn:d<st.n)(ho:o.op= .load t (.tmp x))(Z:τ t=some I)(hx:st.sl x= .one (.pp l [] i j))(C:l≠ .none)(hk:st.fl (.s x 0 0)≠ .D)
  (hκ:st.fl l= .A s)(m:st.at l=some (.sl v))(e:v[i]? =some row)(hr:pF I (row.drop j)=some r):qD P g0 w0 o st (st.put d r (fun _ j=>if jP I.zero j then .S else .F)):=by
 intro a w ⟨g,J⟩; obtain⟨_,v0,b,off,len,z,O,Q,R,e4⟩:=J.ppCell hx C hk m (show nav (.sl v) []=some (.sl v)from rfl) e; have B:v0= .slice (some ⟨b,off,none⟩) len z:=by cases Q; rfl
 subst B; obtain⟨g',H,W⟩:=J.settle hκ m O; obtain⟨u,hu,E,f,_⟩:=sR U Z (g:=g') (κ:=fun _=> .F) (l:=fun _=> .none) (l':=fun k j=> .s d k j) (b:=b) (p:=off+i*row.length+j) (xs:=row.drop j) (fun q y K=>by
  obtain⟨c,L,M,N⟩:=W i row (j+q) y e (by rw[z47]at K; exact K)
  exact⟨c,by rw[Qr]; exact L,M,N⟩) hr (fun _ _ _ Y=>Y)
 refine⟨_,w,qL ho R hu, .inl ⟨_,rfl,g', ?_⟩⟩
 rw[X]; exact H.set hn E (fun h=>absurd f h)
theorem Bn(K:aX P τ){t:TypeId}{x:Nat}{S:TI}{l:Loc}{p:List (Nat×Nat)}{i j:Nat}{x0:T}{A es':List (List T)}{row:List T}{e:TypeId}(L:o.dst=some d)(hn:d<st.n)(ho:o.op= .load t (.tmp x))(X:τ t=some S)(O:tk τ t=some (.sl e))(R:st.sl x= .one (.pp l p i j))(v:l≠ .none)(M:st.fl (.s x 0 0)≠ .D)(r:aS d l=false)
  (h:st.at l=some x0)(k:nav x0 p=some (.sl A))(m:A[i]? =some row)(N:row[j]? =some (.sl es')):qD P g0 w0 o st (st.put d (.one (.al l (p++[(i,j)]))) (fun _ _=> .F)):=by
 intro a w ⟨g,B⟩; obtain⟨u,U,b,off,len,C,H,W,I,J⟩:=B.ppCell R v M h k m; obtain⟨c,y,V,z⟩:=J 0 (.sl es') (by rw[z47]; exact N)
 rw[z69]at y z; obtain⟨E,q,rfl⟩:=lI K O; have Q:(loadVar t ⟨b,off+i*row.length+j,none⟩).run P w= .ok c w:=by
  have f:(isAgg t).run P w= .ok false w:=by simp only[isAgg,Sem.run_bind,run_underlying q,Result.andThen_ok]; rfl
  simp only[loadVar,Sem.run_bind,f,Result.andThen_ok,z51,if_false,run_load,y]
 refine⟨_,w,qL ho I Q, .inl ⟨_,rfl,g, ?_⟩⟩
 rw[L]; exact B.set hn trivial (fun _ _=>⟨u,r,U,x0, .sl es',H,h,z⟩)
end

def W.kill(d:Nat):W→W
  | .ptr o off=>if o=d then .junk else .ptr o off
  | .fn f caps=>if caps.any (fun c=>c.1 == d)then .junk else .fn f caps
  | w=>w
def V.kill(d:Nat):V→V
  | .one w=> .one (w.kill d)
  | .tup a=> .tup (a.map (W.kill d))

def uY(o:Nat):Loc→Bool
  | .oc a _=>a == o
  | _=>false

def St.alloc(st:St)(d:Nat)(cells:List T)(κ:Nat→K):St:=
  { n:=st.n
    sl:=fun i=>if i=d then .one (.ptr d 0)else(st.sl i).kill d
    ob:=fun o=>if o=d then some cells else st.ob o
    fl:=fun l=>match l with
      | .s i k j=>if i=d then .S else if k=0∧j=0∧(aS d (aI (st.sl i))||uY d (aI (st.sl i)))=true then .D else st.fl (.s i k j)
      | .oc o j=>if o=d then κ j else st.fl (.oc o j)
      | l=>st.fl l }

theorem W.kill_leaf{d:Nat}{x:W}{j:Nat}:(x.kill d).leaf j=x.leaf j:=by
  cases x with
  | ptr o off=>simp only[W.kill]; split<;>rfl
  | fn f caps=>simp only[W.kill]; split<;>rfl
  | _=>rfl
theorem V.kill_leaf{d:Nat}{x:V}{k j:Nat}:(x.kill d).leaf k j=x.leaf k j:=by
  cases x with
  | one w=>cases k with
    | zero=>exact W.kill_leaf
    | succ k=>rfl
  | tup a=>
    simp only[V.kill,V.leaf,z28]
    cases a[k]? with
    | none=>rfl
    | some y=>exact W.kill_leaf
theorem V.kill_root{d:Nat}{x:V}:aI (x.kill d)=aI x:=by
  cases x with
  | tup a=>rfl
  | one w=>cases w with
    | ptr o off=>simp only[V.kill,W.kill]; split<;>rfl
    | fn f caps=>simp only[V.kill,W.kill]; split<;>rfl
    | _=>rfl
theorem GC.kill{st:St}{tmps:Array Value}{β:Nat→Nat}{w:World}{v:Value}{x:V}{d:Nat}(h:GC st tmps β w v x):GC st tmps β w v (x.kill d):=by
  cases x with
  | tup a=>trivial
  | one y=>cases y with
    | ptr o off=>simp only[V.kill,W.kill]; split<;>trivial
    | fn f caps=>simp only[V.kill,W.kill]; split<;>trivial
    | al l p=>exact h
    | pp l p i j=>exact h
    | _=>trivial

theorem RW.kill{g g':G}{w w':World}{κ κ':Nat→K}{l:Nat→Loc}{v:Value}{x:W}{d:Nat}(r: ∀o,o≠d→g'.β o=g.β o)(a: ∀j t u,x.leaf j=some t→Hh v j=some u→nV u→LF g w (κ j) (l j) u t→LF g' w' (κ' j) (l j) u t)
    (k: ∀xs,x= .cp xs→ ∀b off,CpR g w (κ 0) b off xs→CpR g' w' (κ' 0) b off xs)(h:RW g w κ l v x):RW g' w' κ' l v (x.kill d):=by
  cases x with
  | ptr o off=>
    simp only[W.kill]; split
    · trivial
    · rename_i ho
      simp only[RW]at h ⊢; rw[r o ho]; exact h
  | fn f caps=>
    simp only[W.kill]; split
    · trivial
    · rename_i ho
      simp only[RW]at h ⊢; rw[h]; congr 2
      refine z52 (fun c A=> ?_)
      have:c.1≠d:=by
        intro e; apply ho
        rw[z151]; exact⟨c,A,by simp [e]⟩
      rw[r c.1 this]
  | c y=>exact⟨h.1,a 0 y v rfl (iX h.1).1 h.1 h.2⟩
  | ag xs=>
    obtain⟨cs,rfl,i,z⟩:=h; refine⟨cs,rfl,i,fun j y q=> ?_⟩
    obtain⟨c,m,p,s⟩:=z j y q; exact⟨c,m,p,a j y c q m p s⟩
  | cp xs=>
    obtain⟨b,off,h1,i⟩:=h; exact⟨b,off,h1,k xs rfl b off i⟩
  | nilp=>exact h
  | ifc b=>exact h
  | _=>trivial

theorem RV.kill{g g':G}{w w':World}{κ κ':Nat→Nat→K}{l:Nat→Nat→Loc}{v:Value}{x:V}{d:Nat}(z: ∀o,o≠d→g'.β o=g.β o)(a: ∀k j t u,x.leaf k j=some t→sG v k j=some u→nV u→LF g w (κ k j) (l k j) u t→LF g' w' (κ' k j) (l k j) u t)
    (e: ∀k xs,x.comp k=some (.cp xs)→ ∀b off,CpR g w (κ k 0) b off xs→CpR g' w' (κ' k 0) b off xs)(h:RV g w κ l v x):RV g' w' κ' l v (x.kill d):=by
  cases x with
  | one x=>
    refine RW.kill z (fun j t u i f hn p=>a 0 j t u i ?_ hn p) (fun xs c=>e 0 xs (by rw[c]; rfl)) h
    have c:RW g w (κ 0) (l 0) v x:=h; obtain⟨A,h1,m,_⟩:=RW.leaf c i; rw[h1]at f; cases f; exact m
  | tup D=>
    obtain⟨vs,rfl,m,B⟩:=h; refine⟨vs,rfl,by simpa using m,fun k x c=> ?_⟩
    rw[z28]at c
    obtain⟨y,s,rfl⟩:=z22.1 c; obtain⟨u,f,C⟩:=B k y s; refine⟨u,f,RW.kill z (fun j t A i q hn p=>a k j t A (by simp [V.leaf,s,i]) (by simp [sG,f,q]) hn p) (fun xs r=>e k xs (by simp only[V.comp]; rw[s,r])) C⟩

def G.alloc(g:G)(d b:Nat):G:= { β:=fun o=>if o=d then b else g.β o,own:=fun k=>if k=b then .obj d else g.own k }

theorem pH(w:World)(o:Obj)(b:Nat)(h:b<w.heap.size):(w.alloc o).heap[b]? =w.heap[b]? :=heap_alloc_old w o b h

theorem Oz{st:St}{i k:Nat}{xs:List T}(a:(st.sl i).comp k=some (.cp xs)): ¬ (k=0∧aI (st.sl i)≠ .none):=by
  rintro ⟨rfl,h⟩
  cases hsl:st.sl i with
  | one y=>rw[hsl]at a h; simp only[V.comp,z9]at a; rw[a]at h; exact h rfl
  | tup b=>rw[hsl]at h; exact h rfl

theorem bP.alloc{g0:G}{w0:World}{st:St}{a:Act}{g:G}{w:World}(h:bP g0 w0 st a g w){d:Nat}(hd:d<st.n)(cs:Array Value)(ty:TypeId)(cells:List T)(κ:Nat→K)(hsz:cs.size=cells.length)
    (Y: ∀(j:Nat) x,cells[j]? =some x→ ∃c,cs[j]? =some c∧nV c∧LF g w (κ j) (.oc d j) c x):
    bP g0 w0 (st.alloc d cells κ) (a.put (some d) (.pointer (some ⟨w.heap.size,0,none⟩))) (g.alloc d w.heap.size) (w.alloc (.cells cs ty)):=by
  have J:d<a.tmps.size:=by rw[h.size]; exact hd
  have hdp:d<par:=z46 hd h.nle; have hβ: ∀o,o≠d→(g.alloc d w.heap.size).β o=g.β o:=fun o ho=>by simp [G.alloc,ho]
  have A: ∀b,b<w.heap.size→(g.alloc d w.heap.size).own b=g.own b:=fun b m=>by simp [G.alloc,Nat.ne_of_lt m]
  have hE:Evo g w (g.alloc d w.heap.size) (w.alloc (.cells cs ty)) (fun _=>False):=⟨by simp,fun b m _=>⟨A b m,pH w _ b m⟩⟩
  have hA: ∀b,all g w b→all (g.alloc d w.heap.size) (w.alloc (.cells cs ty)) b∧(w.alloc (.cells cs ty)).heap[b]? =w.heap[b]? :=fun b m=>⟨⟨by simp; have:=m.1; omega,fun o=>by rw[A b m.1]; exact m.2 o⟩,pH w _ b m.1⟩
  have M: ∀ {κ:K} {l:Loc} {v:Value} {x:T},l.place=true→LF g w κ l v x→LF (g.alloc d w.heap.size) (w.alloc (.cells cs ty)) κ l v x:=fun hl r=>LF.evo hE h.ok (Loc.place_ne hl).1 id (fun _=>id) (fun _=>hA) r
  have Z: ∀ {κ:K} {b off:Nat} {xs:List T},CpR g w κ b off xs→CpR (g.alloc d w.heap.size) (w.alloc (.cells cs ty)) κ b off xs:=fun Y=>Y.evo hE id (.inr (.inr hA))
  have N: ∀i,i≠d→(st.alloc d cells κ).fl (.s i 0 0)≠ .D→(aS d (aI (st.sl i))||uY d (aI (st.sl i)))=false∧st.fl (.s i 0 0)≠ .D:=by
    intro i q r; simp only[St.alloc,z11 q,Nc]at r; by_cases hs:(aS d (aI (st.sl i))||uY d (aI (st.sl i)))=true
    · rw[z17 hs]at r; exact absurd rfl r
    · rw[z11 hs]at r; exact⟨by simpa using hs,r⟩
  have L: ∀i k j,i≠d→ ¬ (k=0∧aI (st.sl i)≠ .none)→(st.alloc d cells κ).fl (.s i k j)=st.fl (.s i k j):=by
    intro i k j q F; simp only[St.alloc,z11 q]; rw[z11]; rintro ⟨rfl,rfl,X⟩
    apply F
    refine⟨rfl,fun e=> ?_⟩
    rw[e]at X; simp [aS,uY]at X
  refine⟨⟨h.framed.tab,h.framed.os,h.framed.tape,h.framed.output,h.framed.evo.trans (hE.mono fun _=>False.elim)⟩,⟨fun b m=> ?_⟩, ?_,h.defers,fun i=> ?_,fun o f C=> ?_,fun i q r=> ?_,fun o ho=> ?_,h.nle⟩
  · by_cases e:b=w.heap.size
    · subst e; simp
    · have:g.own b≠ .none:=by intro H; apply m; simp only[G.alloc,z11 e]; exact H
      have:=h.ok.own b this; simp; omega
  · simp only[Act.put,z112]; exact h.size
  · rw[Act.put_getD a d _ i J]
    by_cases q:i=d
    · subst q
      simp only[St.alloc,if_true]; show Value.pointer _= .pointer _; simp [G.alloc]
    · rw[z11 q]
      have e:(st.alloc d cells κ).sl i=(st.sl i).kill d:=by simp [St.alloc,q]
      rw[e]; refine(h.slots i).kill hβ (fun k j t u hj _ _ r=> ?_) (fun k xs hx b off Y=> ?_)
      · have hat:st.at (.s i k j)=some t:=hj
        rw[L i k j q]
        · exact M rfl r
        · rintro ⟨rfl,F⟩
          cases hsl:st.sl i with
          | one y=>rw[hsl]at F hj; cases y<;>first | exact F rfl | simp [V.leaf,W.leaf]at hj
          | tup ws=>rw[hsl]at F; exact F rfl
      · rw[L i k 0 q (Oz hx)]
        exact Z Y
  · by_cases ho:o=d
    · subst ho
      have I:f=cells:=by simpa [St.alloc]using C.symm
      subst I; have hβd:(g.alloc o w.heap.size).β o=w.heap.size:=by simp [G.alloc]
      rw[hβd]; refine⟨cs,ty,heap_alloc_new w _,hsz,by simp [G.alloc],fun j x hx=> ?_⟩
      obtain⟨c,c1,c2,c3⟩:=Y j x hx; refine⟨c,c1,c2, ?_⟩
      have:(st.alloc o f κ).fl (.oc o j)=κ j:=by simp [St.alloc]
      rw[this]; exact M rfl c3
    · have I:st.ob o=some f:=by simpa [St.alloc,ho]using C
      obtain⟨S,ty',h1,Q,X,h4⟩:=h.obs o f I; have m:g.β o<w.heap.size:=h.ok.own _ (by rw[X]; simp)
      rw[hβ o ho]; refine⟨S,ty',(pH w _ _ m).trans h1,Q,(A _ m).trans X,fun j x hx=> ?_⟩
      obtain⟨c,c1,c2,c3⟩:=h4 j x hx; refine⟨c,c1,c2, ?_⟩
      have:(st.alloc d cells κ).fl (.oc o j)=st.fl (.oc o j):=by simp [St.alloc,ho]
      rw[this]; exact M rfl c3
  · by_cases E:i=d
    · subst E
      exfalso; apply q; simp [St.alloc,aI]
    · have e:(st.alloc d cells κ).sl i=(st.sl i).kill d:=by simp [St.alloc,E]
      obtain⟨R,k2⟩:=N i E r; rw[e,V.kill_root]at q ⊢; obtain⟨p1,p2⟩:=h.pls i q k2; obtain⟨t,ht⟩:=p2.root q; simp only[z61]at R; have O: ∀B k j,aI (st.sl i)= .s B k j→B≠d:=fun B k j U H=>by subst H; rw[U]at R; simp [aS]at R
      have z: ∀o j,aI (st.sl i)= .oc o j→o≠d:=fun o j U H=>by subst H; rw[U]at R; simp [uY]at R
      refine⟨?_, ?_⟩
      · have:(st.alloc d cells κ).fl (aI (st.sl i))=st.fl (aI (st.sl i)):=by
          generalize F:aI (st.sl i)=l at*; cases l with
          | s B k j=>
            refine L B k j (O B k j rfl) ?_
            rintro ⟨rfl,Q⟩
            rw[St.at_s]at ht; cases hsl:st.sl B with
            | one y=>rw[hsl]at Q ht; cases y<;>first | exact Q rfl | simp [V.leaf,W.leaf]at ht
            | tup ws=>rw[hsl]at Q; exact Q rfl
          | oc o j=>simp [St.alloc,z o j rfl]
          | _=>rfl
        rw[this]; exact p1
      · rw[Act.put_getD a d _ i J,z11 E]
        refine(p2.congr ?_ ?_ (fun v0 x0 p v' x' U H hp=>h.pl_evo hE id p1 id U H hp)).kill
        · generalize F:aI (st.sl i)=l at*
          cases l with
          | s B k j=>
            simp only[vAt]; rw[Act.put_getD a d _ _ J,z11 (O B k j rfl)]
          | oc o j=>
            simp only[vAt]; rw[hβ o (z o j rfl)]; simp only[St.at,atL,z19]at ht; obtain⟨f,C,_⟩:=ht; obtain⟨S,ty',R,k2,k3,k4⟩:=h.obs o f C; exact cI (pH w _ _ (h.ok.own _ (by rw[k3]; simp)))
          | _=>rfl
        · generalize F:aI (st.sl i)=l at*
          cases l with
          | s B k j=>simp only[St.at,atL,St.alloc,z11 (O B k j rfl),V.kill_leaf]
          | oc o j=>simp only[St.at,atL,St.alloc,z11 (z o j rfl)]
          | _=>rfl
  · have:o≠d:=by omega
    rw[hβ o this]; exact h.bp o ho

section
variable {P:Program} {τ:TypeId→Option TI} {g0:G} {w0:World} {o:Oper} {st:St} {d:Nat}

def DU(a:List T)(j:Nat):K:=if jP a j then .S else .N

theorem SG(u:aX P τ){t:TypeId}{i:TI}(y:o.dst=some d)(hn:d<st.n)(ho:o.op= .alloc t)(A:τ t=some i):qD P g0 w0 o st (st.alloc d i.zero (DU i.zero)):=by
  intro a w ⟨g,b⟩; obtain⟨p,D,z,h1,E,F,H,r,s,I,J,K⟩:=u.get A; obtain⟨e,hz⟩:=jE s; have h:(execOp a.eval o).run P w= .ok (.value (.pointer (some ⟨w.heap.size,0,none⟩))) (w.alloc (.cells z.cells t)):=by
    obtain⟨q,op,ty,B,c,f⟩:=o; simp only at ho; subst ho; simp only[execOp,Instr.alloc,zeroValue,typeInfo,Sem.run_bind,run_program,Result.andThen_ok,h1,Sem.run_pure,r,newVar,newRow,run_newObj,World.alloc_eq]
  refine⟨_,_,h, .inl ⟨_,rfl,g.alloc d w.heap.size, ?_⟩⟩
  rw[y]; refine b.alloc hn z.cells t i.zero (DU i.zero) (by simpa using e) (fun j x m=> ?_)
  obtain⟨v,h,l⟩:=hz j x m; obtain⟨k,C⟩:=rA l; refine⟨v,by simpa using h,(k (fun _=>False) w).not_agg, ?_⟩
  unfold DU jP; rw[m]; simp only; by_cases b:scal x=true
  · rw[z17 b]; exact⟨b,k _ _⟩
  · rw[z11 b]; exact BX l (by simpa using b)

def aT:V→Option (List T)
  | .one (.c x)=>some [x]
  | .one (.ag xs)=>some xs
  | _=>none

theorem iK{g:G}{w:World}{κ:Nat→Nat→K}{l:Nat→Nat→Loc}{u:Value}{r:V}{xs:List T}(h:RV g w κ l u r)(b:aT r=some xs):u.cells.size=xs.length∧(∀(j:Nat) x,xs[j]? =some x→ ∃c,u.cells[j]? =some c∧nV c∧LF g w (κ 0 j) (l 0 j) c x)∧
    (∀j,(j:Nat)<xs.length→sG u 0 j=u.cells[j]?)∧(∀j,r.leaf 0 j=xs[j]?)∧aI r= .none:=by
  unfold aT at b; split at b
  · rename_i x
    simp only[z9]at b; subst b; have a:u.cells= #[u]:=by
      have:=h.1.1; cases u<;>first | rfl | exact absurd rfl (this _)
    rw[a]; refine⟨rfl,fun j y f=> ?_,fun j i=> ?_,fun j=> ?_,rfl⟩
    · cases j with
      | zero=>simp only[z20,z9]at f; subst f; exact⟨u,rfl,h.1,h.2⟩
      | succ j=>simp at f
    · have e:j=0:=by simpa using i
      subst e; exact(iX h.1).2
    · cases j<;>rfl
  · rename_i ys
    simp only[z9]at b; subst b; obtain⟨cs,rfl,k,m⟩:=h; exact⟨k,m,fun j i=>rfl,fun j=>rfl,rfl⟩
  · cases b

theorem Xc{t:Nat}{ty:TypeId}{xs:List T}(M:List Nat)(A:o.dst=some d)(hn:d<st.n)(ho:o.op= .box ty (.tmp t))(z:aT (st.sl t)=some xs)(b:t≠d)(x: ∀j∈M,j<xs.length):
    qD P g0 w0 o st ((st.alloc d xs (fun j=>(st.fl (.s t 0 j)).cp)).mvs (M.map fun j=>(.s t 0 j, .oc d j))):=by
  intro a w ⟨g,c⟩; have p:RV g w (fun k j=>(st.fl (.s t k j)).cp) (fun _ j=> .oc d j) (a.tmps.getD t undef) (st.sl t):=(c.slots t).cp c.ok (fun _ _=>rfl)
  obtain⟨D,E,F,H,K⟩:=iK p z; have i:a.eval (.tmp t)=a.tmps.getD t undef:=rfl; have C:(execOp a.eval o).run P w= .ok (.value (.pointer (some ⟨w.heap.size,0,none⟩))) (w.alloc (.cells (a.tmps.getD t undef).cells ty)):=by
    obtain⟨u,op,J,I,e,f⟩:=o; simp only at ho; subst ho; simp only[execOp,Instr.box,i,newVar,newRow,Sem.run_bind,run_newObj,World.alloc_eq,Result.andThen_ok,Sem.run_pure]
  refine⟨_,_,C, .inl ⟨_,rfl, ?_⟩⟩
  rw[A]; have h:d<a.tmps.size:=by rw[c.size]; exact hn
  have h1:=c.alloc hn (a.tmps.getD t undef).cells ty xs (fun j=>(st.fl (.s t 0 j)).cp) D E
  obtain⟨g',_,v⟩:=h1.mvs (M.map fun j=>(.s t 0 j, .oc d j)) (fun m B=>by
    obtain⟨j,l,rfl⟩:=z49.1 B; have r:=x j l; have q:(st.alloc d xs (fun j=>(st.fl (.s t 0 j)).cp)).at (.s t 0 j)=xs[j]? :=by
      simp only[St.at,atL,St.alloc,z11 b,V.kill_leaf]; exact H j
    refine⟨rfl,rfl,by simp, ?_,⟨xs[j],by rw[q]; exact z16 r⟩, ?_⟩
    · rw[q]
      simp [St.at,atL,St.alloc]
    · simp only[vAt]
      rw[Act.put_getD a d _ t h,z11 b,F j r]; have y:(g.alloc d w.heap.size).β d=w.heap.size:=by simp [G.alloc]
      rw[y]; exact cJ _ _ _ _ _ _ (heap_alloc_new w _))
  exact⟨g',v⟩

def St.write(st:St)(o p:Nat)(xs cells:List T)(κ:Nat→K):St:=
  { n:=st.n
    sl:=st.sl
    ob:=fun a=>if a=o then some (cells.take p++xs++cells.drop (p+xs.length))else st.ob a
    fl:=fun l=>match l with
      | .s i k j=>if k=0∧j=0∧uY o (aI (st.sl i))=true then .D else st.fl (.s i k j)
      | .oc a j=>if a=o∧p≤j∧j<p+xs.length then κ (j - p)else st.fl (.oc a j)
      | l=>st.fl l }

theorem sB{α:Type}(l xs:List α)(p:Nat)(h:p+xs.length≤l.length)(j:Nat):(l.take p++xs++l.drop (p+xs.length))[j]? =if p≤j∧j<p+xs.length then xs[j - p]? else l[j]? :=by
  have a:(l.take p).length=p:=by simp; omega
  by_cases h1:j<p
  · rw[z11 (by omega),z75,z63 (by omega),z66,z17 h1]
  · by_cases b:j<p+xs.length
    · rw[z17 (by omega),z63 (by simp; omega),z55 (by omega),a]
    · rw[z11 (by omega),z55 (by simp; omega),z47]
      congr 1
      simp; omega

theorem pC{w:World}{b p:Nat}{ty:TypeId}{a:Array Value}(c:w.heap[b]? =some (.cells a ty (0,0)))(vs:List Value)(g:p+vs.length≤a.size)(h1: ∀v∈vs,v.oneCell'=true):
    ∃w',(storeCells ⟨b,p,none⟩ vs).run P w= .ok () w'∧w'.heap[b]? =some (.cells (a.toList.take p++vs++a.toList.drop (p+vs.length)).toArray ty (0,0))∧(∀k,k≠b→w'.heap[k]? =w.heap[k]?)∧w'.heap.size=w.heap.size∧w'.os=w.os∧w'.tape=w.tape∧w'.output=w.output:=by
  have h:=run_storeCells_at P b p ty vs 0 a w c (by omega) h1
  simp only[z69]at h; refine⟨_,h,setRow_heap w b a _ ty _ c,fun k f=>setRow_other w b k _ (fun e=>f e),by simp,rfl,rfl,rfl⟩

theorem qB{c:Value}(h:nV c):c.oneCell'=true:=by
  cases c<;>first | rfl | exact absurd rfl (h.1 _) | exact absurd rfl (h.2 _)

theorem bP.write{a:Act}{g:G}{w:World}(q:bP g0 w0 st a g w){ob p:Nat}{cells xs:List T}{κ:Nat→K}(Z:st.ob ob=some cells)(L:p+xs.length≤cells.length){vs:List Value}(m:vs.length=xs.length)
    (hx: ∀(j:Nat) x,xs[j]? =some x→ ∃c,vs[j]? =some c∧nV c∧LF g w (κ j) (.oc ob (p+j)) c x):
    ∃w',(storeCells ⟨g.β ob,p,none⟩ vs).run P w= .ok () w'∧bP g0 w0 (st.write ob p xs cells κ) a g w'∧ ∀j,w'.cell? ⟨g.β ob,j,none⟩=if p≤j∧j<p+xs.length then vs[j - p]? else w.cell? ⟨g.β ob,j,none⟩:=by
  obtain⟨X,ty,r1,r2,r3,r5⟩:=q.obs ob cells Z; have h1: ∀v∈vs,v.oneCell'=true:=fun v hv=>by
    obtain⟨j,hj⟩:=z71 hv
    have hjl:j<xs.length:=by
      rcases z94 j xs.length with h | h
      · exact h
      · rw[z67 (by omega)]at hj; cases hj
    obtain⟨c,A,r,_⟩:=hx j xs[j] (z16 hjl)
    rw[hj]at A; cases A; exact qB r
  obtain⟨w',s1,s2,s3,s4,s5,s6,s7⟩:=pC (P:=P) r1 vs (by rw[m,r2]; exact L) h1
  rw[m]at s2; have Q: ∀j,w'.cell? ⟨g.β ob,j,none⟩=if p≤j∧j<p+xs.length then vs[j - p]? else w.cell? ⟨g.β ob,j,none⟩:=by
    intro j; rw[cJ w' _ j _ _ _ s2,cJ w _ j _ _ _ r1]; have:=sB X.toList vs p (by rw[m]; simp [r2]; exact L) j
    rw[m]at this; simpa using this
  refine⟨w',s1, ?_,Q⟩
  have hE:Evo g w g w' (fun l=>l= .obj ob):=⟨by omega,fun b _ hX=>⟨rfl,s3 b (fun e=>hX (by rw[e]; exact r3))⟩⟩
  have hA: ∀b,all g w b→all g w' b∧w'.heap[b]? =w.heap[b]? :=fun b Y=>⟨⟨by rw[s4]; exact Y.1,Y.2⟩,s3 b (fun e=>Y.2 ob (by rw[e]; exact r3))⟩
  have hn: ¬ (Loc.none= .obj ob):=by simp
  have M: ∀ {κ:K} {l:Loc} {v:Value} {x:T},l.place=true→LF g w κ l v x→LF g w' κ l v x:=fun hl I=>LF.evo hE q.ok (Loc.place_ne hl).1 hn (fun _=>(Loc.place_ne hl).2.2 ob) (fun _=>hA) I
  have hcpr: ∀ {κ:K} {b off:Nat} {xs:List T},CpR g w κ b off xs→CpR g w' κ b off xs:=fun Z=>Z.evo hE hn (.inr (.inr hA))
  have S: ∀i k j, ¬ (k=0∧aI (st.sl i)≠ .none)→(st.write ob p xs cells κ).fl (.s i k j)=st.fl (.s i k j):=by
    intro i k j N; simp only[St.write]; rw[z11]; rintro ⟨rfl,rfl,h3⟩
    apply N
    refine⟨rfl,fun e=> ?_⟩
    rw[e]at h3; simp [uY]at h3
  refine⟨⟨q.framed.tab,s5.trans q.framed.os,s6.trans q.framed.tape,s7.trans q.framed.output,q.framed.evo.trans (hE.mono fun l hl=>by subst hl; simp [qQ])⟩,⟨fun b Y=>by rw[s4]; exact q.ok.own b Y⟩,q.size,q.defers,fun i=> ?_,fun C f F=> ?_,fun i hi I=> ?_,q.bp,q.nle⟩
  · refine(q.slots i).map (fun _=>rfl) (fun k j t u hj _ _ I=> ?_) (fun k xs hx b off Z=> ?_)
    · rw[S i k j]
      · exact M rfl I
      · rintro ⟨rfl,N⟩
        have hj':(st.sl i).leaf 0 j=some t:=hj; cases hsl:st.sl i with
        | one y=>rw[hsl]at N hj'; cases y<;>first | exact N rfl | simp [V.leaf,W.leaf]at hj'
        | tup ws=>rw[hsl]at N; exact N rfl
    · rw[S i k 0 (Oz hx)]
      exact hcpr Z
  · by_cases e:C=ob
    · subst e
      have r:f=cells.take p++xs++cells.drop (p+xs.length):=by simpa [St.write]using F.symm
      subst r; refine⟨_,ty,s2, ?_,r3,fun j z hz=> ?_⟩
      · simp only[z87,z32,z44,z65,z45,m,r2]
      · rw[sB cells xs p L j]at hz
        have:=sB X.toList vs p (by rw[m]; simp [r2]; exact L) j
        rw[m]at this; by_cases J:p≤j∧j<p+xs.length
        · rw[z17 J]at hz this
          obtain⟨c,A,r,H⟩:=hx _ z hz; have E:(st.write C p xs cells κ).fl (.oc C j)=κ (j - p):=by simp [St.write,J]
          refine⟨c,by rw[z85,this]; exact A,r, ?_⟩
          rw[E]; rw[show p+(j - p)=j by omega]at H
          exact M rfl H
        · rw[z11 J]at hz this
          obtain⟨c,A,r,H⟩:=r5 _ z hz; have E:(st.write C p xs cells κ).fl (.oc C j)=st.fl (.oc C j):=by
            simp only[St.write]; rw[z11 (fun h=>J h.2)]
          refine⟨c,by rw[z85,this,z26]; exact A,r, ?_⟩
          rw[E]; exact M rfl H
    · have r:st.ob C=some f:=by simpa [St.write,e]using F
      obtain⟨O,ty',f1,f2,f3,f5⟩:=q.obs C f r; have hne:g.β C≠g.β ob:=fun h=>by
        rw[h,r3]at f3; exact e (Loc.obj.inj f3).symm
      refine⟨O,ty',(s3 _ hne).trans f1,f2,f3,fun j z hz=> ?_⟩
      obtain⟨c,c1,c2,c3⟩:=f5 j z hz; have E:(st.write ob p xs cells κ).fl (.oc C j)=st.fl (.oc C j):=by simp [St.write,e]
      exact⟨c,c1,c2,by rw[E]; exact M rfl c3⟩
  · have hi':aI (st.sl i)≠ .none:=hi
    have R:uY ob (aI (st.sl i))=false∧st.fl (.s i 0 0)≠ .D:=by
      simp only[St.write,Nc]at I; by_cases q:uY ob (aI (st.sl i))=true
      · rw[z17 q]at I; exact absurd rfl I
      · rw[z11 q]at I; exact⟨by simpa using q,I⟩
    obtain⟨p1,p2⟩:=q.pls i hi' R.2; obtain⟨t,U⟩:=p2.root hi'; have B: ∀o j,aI (st.sl i)= .oc o j→o≠ob:=fun o j E e2=>by subst e2; rw[E]at R; simp [uY]at R
    show((st.write ob p xs cells κ).fl (aI (st.sl i))).hold=true∧GC _ _ _ _ _ (st.sl i); refine⟨?_,p2.congr ?_ ?_ (fun v0 x0 p v' x' E e2 hp=>q.pl_evo hE hn p1 ((Loc.place_ne (at_isPlace U)).2.2 ob) E e2 hp)⟩
    · have:(st.write ob p xs cells κ).fl (aI (st.sl i))=st.fl (aI (st.sl i)):=by
        generalize N:aI (st.sl i)=l at*; cases l with
        | s i' k j=>
          refine S i' k j ?_
          rintro ⟨rfl,h2⟩
          rw[St.at_s]at U; cases hsl:st.sl i' with
          | one y=>rw[hsl]at h2 U; cases y<;>first | exact h2 rfl | simp [V.leaf,W.leaf]at U
          | tup ws=>rw[hsl]at h2; exact h2 rfl
        | oc o j=>simp [St.write,B o j rfl]
        | _=>rfl
      rw[this]; exact p1
    · generalize N:aI (st.sl i)=l at*
      cases l with
      | oc o j=>
        simp only[vAt]; simp only[St.at,atL,z19]at U; obtain⟨f,F,_⟩:=U; obtain⟨O,ty',k1,k2,k3,k4⟩:=q.obs o f F; exact cI (s3 _ (fun h=>by rw[h,r3]at k3; exact B o j rfl (Loc.obj.inj k3).symm))
      | _=>rfl
    · generalize N:aI (st.sl i)=l at*
      cases l with
      | oc o j=>simp only[St.at,atL,St.write,z11 (B o j rfl)]
      | _=>rfl

theorem RH(O:aX P τ){t:TypeId}{x y:Operand}{i:TI}{ob p:Nat}{cells xs:List T}(M:List (Nat×Nat))(R:o.dst=none)(ho:o.op= .store t x y)(S:τ t=some i)(W:ev st.sl x= .one (.ptr ob p))(Q:st.ob ob=some cells)
    (X:aT (ev st.sl y)=some xs)(v:xs.length=i.size)(f:p+xs.length≤cells.length)(N: ∀m∈M,m.2<xs.length∧y= .tmp m.1):
    qD P g0 w0 o st ((st.write ob p xs cells (opK st y 0)).mvs (M.map fun m=>(.s m.1 0 m.2, .oc ob (p+m.2)))):=by
  intro a w ⟨g,u⟩; have h1:=u.ev_rv x (fun _ _=> .none)
  rw[W]at h1; have J:a.eval x= .pointer (some ⟨g.β ob,p,none⟩):=h1; obtain⟨B,Y,Z,k4,k5⟩:=iK (u.ev_rv y (fun _ j=> .oc ob (p+j))) X
  obtain⟨h,_,_,q1,_,q3,_⟩:=O.get S; obtain⟨w',s1,K,e⟩:=u.write (P:=P) Q f (vs:=(a.eval y).cells.toList) (by simpa using B) (fun j z hz=>by
    obtain⟨c,E,F,H⟩:=Y j z hz; exact⟨c,by rw[z26]; exact E,F,H⟩)
  have V:(execOp a.eval o).run P w= .ok .skip w':=by
    obtain⟨I,op,ty',pos,k,l⟩:=o; simp only at ho; subst ho; have r: ¬ (a.eval y).cells.size≠h.size:=by rw[B,q3,v]; simp
    simp only[execOp,Instr.storeAt,J,Instr.sureAddr,Sem.run_bind,Sem.run_pure,Result.andThen_ok,storeVar,sizeOf,typeInfo,run_program,q1,z11 r,s1]
  refine⟨_,_,V, .inr ⟨rfl, ?_⟩⟩
  rw[R]; obtain⟨g',_,L⟩:=K.mvs (M.map fun m=>(.s m.1 0 m.2, .oc ob (p+m.2))) (fun m U=>by
    obtain⟨b,q,rfl⟩:=z49.1 U; obtain⟨C,D⟩:=N b q; have A:st.at (.s b.1 0 b.2)=xs[b.2]? :=by
      have:=k4 b.2; rw[D]at this; exact this
    refine⟨rfl,rfl,by simp, ?_,⟨xs[b.2],by show st.at (.s b.1 0 b.2)=_; rw[A]; exact z16 C⟩, ?_⟩
    · show _=st.at (.s b.1 0 b.2)
      rw[A]; simp only[St.at,atL,St.write,if_true,z8]; rw[sB cells xs p f,z17 (by omega),z78]
    · simp only[vAt]
      rw[e,z17 (by omega),z78,z26, ←Z b.2 C,D]
      rfl)
  exact⟨g',L⟩
end

section
variable {P:Program} (w:World)

theorem Eu(t u ty e:TypeId)(q:TypeDesc)(i:TypeInfo)(z:Value)(E:P.underlying t=some (.slice e))(F:P.underlying u=some q)(B: ∀k,q≠ .int k)(D:P.info? e=some i)(hz:i.zero=some z)
  (a:Option Addr)(n1 h c:Nat)(x:Value)(d news:List Value)(h1:(Builtin.firstCells i.size n1 (.slice a n1 h)).run P w.drew= .ok d.toArray w.drew)(y:(Builtin.firstCells i.size c x).run P w.drew= .ok news.toArray w.drew)
  (H: ∀w':World,(Builtin.lenOf x).run P w'= .ok c w')(C:h<n1+c)(p:n1+c≤maxLen)(A:(n1+c)*i.bytes≤140737488355328):
  (Builtin.append_ #[t,u] ty #[.slice a n1 h,x]).run P w=
   .ok (.slice (some ⟨w.heap.size,0,none⟩) (n1+c) (grownCap w (n1+c) h e))
    (w.drew.alloc (.cells ((d++news).toArray++Builtin.zeroCells z.cells (grownCap w (n1+c) h e - (n1+c))) e)):=by
 have hn: ¬ (n1+c≤h):=by omega
 have m: ¬ (9223372036854775807<((n1:Int)+(c:Int))):=by simp only[maxLen]at p; omega
 have r:=growslice_fits C A; have j: ¬ (281474976710656<Builtin.nextslicecap (n1+c) h*i.bytes):=by omega
 simp [Builtin.append_,run_underlying E,run_underlying F,sizeOf,typeInfo,zeroValue,D,hz,H,hn,m,j,Question.forced,h1,y,newRow,grownCap]; congr 2
 apply Nd
 simp

theorem Es(t u ty e:TypeId)(j:TypeDesc)(i:TypeInfo)(y:P.underlying t=some (.slice e))(z:P.underlying u=some j)(p: ∀k,j≠ .int k)(r:P.info? e=some i)
  (b:Nat)(n1 d c:Nat)(x:Value)(news:List Value)(m:(Builtin.firstCells i.size c x).run P w= .ok news.toArray w)(A: ∀w':World,(Builtin.lenOf x).run P w'= .ok c w')(q:n1+c≤d)
  (w':World)(h:(storeCells ⟨b,n1*i.size,none⟩ news).run P w= .ok () w'):
  (Builtin.append_ #[t,u] ty #[.slice (some ⟨b,0,none⟩) n1 d,x]).run P w= .ok (.slice (some ⟨b,0,none⟩) (n1+c) d) w':=by
 simp [Builtin.append_,run_underlying y,run_underlying z,sizeOf,typeInfo,r,A,q,m,kW,h]

theorem Et(t u ty e:TypeId)(d:TypeDesc)(i:TypeInfo)(p:P.underlying t=some (.slice e))(q:P.underlying u=some d)(j: ∀k,d≠ .int k)(m:P.info? e=some i)
  (a:Option Addr)(c:Nat)(x:Value)(h:(Builtin.firstCells i.size 0 x).run P w= .ok #[] w)(r: ∀w':World,(Builtin.lenOf x).run P w'= .ok 0 w'):
  (Builtin.append_ #[t,u] ty #[.slice a 0 c,x]).run P w= .ok (.slice a 0 c) w:=by
 cases a<;>simp [Builtin.append_,run_underlying p,run_underlying q,sizeOf,typeInfo,m,r,h,storeCells]
end

theorem Hb{es:List (List T)}{s:Nat}(h: ∀e∈es,e.length=s):es.flatten.length=es.length*s:=by
 induction es with
 | nil=>simp
 | cons e r ih=>
  rw[List.flatten_cons,z32,ih (fun x c=>h x (z23 _ c)),h e z27,z34,z82]
  omega

theorem Rr{es:List (List T)}{s:Nat}(h: ∀e∈es,e.length=s): ∀ {i:Nat} {e:List T} {j:Nat},es[i]? =some e→j<s→es.flatten[i*s+j]? =e[j]? :=by
 induction es with
 | nil=>intro i e j h1; simp at h1
 | cons x r ih=>
  intro i e j h1 d; have c:=h x z27; rw[List.flatten_cons]; cases i with
  | zero=>
   simp only[z20,z9]at h1
   subst h1; rw[z63 (by omega)]; simp
  | succ i=>
   simp only[z21]at h1
   rw[z55 (by rw[c,Ub]; omega),c]
   have:(i+1)*s+j - s=i*s+j:=by rw[Ub]; omega
   rw[this]; exact ih (fun y k=>h y (z23 _ k)) h1 d

theorem MH{es:List (List T)}{s:Nat}(h: ∀e∈es,e.length=s){k:Nat}{x:T}(m:es.flatten[k]? =some x): ∃(i:Nat) (e:List T) (j:Nat),es[i]? =some e∧e[j]? =some x∧j<s∧k=i*s+j:=by
 have c:k<es.flatten.length:=by
  rcases z94 k es.flatten.length with h1 | h1
  ·exact h1
  ·rw[z67 h1]at m; cases m
 rw[Hb h]at c; have r:0<s:=by
  rcases Nat.eq_zero_or_pos s with h0 | h0
  ·subst h0; simp at c
  ·exact h0
 have p:k / s<es.length:=(Nat.div_lt_iff_lt_mul r).2 c; have q:k % s<s:=Nat.mod_lt _ r; have d:k=k / s*s+k % s:=by rw[Nat.mul_comm]; exact(Nat.div_add_mod k s).symm
 refine⟨k / s,es[k / s],k % s,z16 p, ?_,q,d⟩
 have:=Rr h (z16 p) q
 rw[←d,m]at this; exact this.symm

theorem bI{α:Type}{l:List α}{i:Nat}{x:α}(h:l[i]? =some x):x∈l:=z24 h

theorem cK{α:Type}{l:List α}{i:Nat}{x:α}(h:l[i]? =some x):i<l.length:=by
 rcases z94 i l.length with h1 | h1
 ·exact h1
 ·rw[z67 h1]at h; cases h

theorem FR{i n s j:Nat}(c:i<n)(d:j<s):i*s+j<n*s:=by
 have:(i+1)*s≤n*s:=z64 _ c; rw[z82]at this; omega

structure Su (w:World) (v:Value) (n s:Nat) (news:List Value):Prop where
 len:news.length=n*s
 first: ∀(P:Program) (w':World),w'.heap=w.heap→(Builtin.firstCells s n v).run P w'= .ok news.toArray w'
 lenOf: ∀(P:Program) (w':World),(Builtin.lenOf v).run P w'= .ok n w'

theorem DK{Q:Nat→Prop}{w:World}{v:Value}{es:List (List T)}{s:Nat}(h:Rd Q w v (.sl es))(A: ∀e∈es,e.length=s):
  ∃news:List Value,Su w v es.length s news∧(∀(i:Nat) e (j:Nat) x,es[i]? =some e→e[j]? =some x→ ∃c,news[i*s+j]? =some c∧nV c∧Rd Q w c x)∧
   ∀b off len d,v= .slice (some ⟨b,off,none⟩) len d→ ∀k:Nat,k<es.length*s→news[k]? =w.cell? ⟨b,off+k,none⟩:=by
 cases h with
 | nil a d=>
  refine⟨[],⟨by simp,fun P w' _=> ?_,fun P w'=>rfl⟩,fun i e j x h=>by simp at h,fun b off len d _ k q=>by simp at q⟩
  cases a<;>simp [Builtin.firstCells,loadCells,loadCellsFrom]
 | sl b off len d R _ cs O E B X H I=>
  have u:=Hb A; let news:List Value:=(List.range (es.length*s)).map fun k=>(w.cell? ⟨b,off+k,none⟩).getD undef
  have F: ∀(i:Nat) e (j:Nat) x,es[i]? =some e→e[j]? =some x→j<s∧R=s:=fun i e j x m t=>by
   have U:=A e (bI m); have V:=B i e m; exact⟨by have:=cK t; omega,by omega⟩
  have r: ∀k,k<es.length*s→ ∃c,w.cell? ⟨b,off+k,none⟩=some c:=by
   intro k q; obtain⟨i,e,j,h1,y,W,rfl⟩:=MH A (z16 (by rw[u]; exact q):es.flatten[k]? =_)
   have N:=(F i e j _ h1 y).2; subst N; exact⟨_,by rw[←Qr]; exact H i e j _ h1 y⟩
  have p: ∀k,k<es.length*s→news[k]? =w.cell? ⟨b,off+k,none⟩:=by
   intro k q; obtain⟨c,E⟩:=r k q; simp [news,Vz q,E]
  refine⟨news,⟨by simp [news],fun P w' C=> ?_,fun P w'=>by simp [Builtin.lenOf,O]⟩,fun i e j x m t=> ?_,fun S M K D m k q=> ?_⟩
  ·refine run_firstCells_some w' s es.length ⟨b,off,none⟩ len d news (by simp [news]) (fun j v J=> ?_)
   have z:j<es.length*s:=by
    have:=cK J; simpa [news]using this
   rw[kW]; have:w'.cell? ⟨b,off+j,none⟩=w.cell? ⟨b,off+j,none⟩:=by simp [World.cell?,C]
   rw[this, ←p j z]; exact J
  ·obtain⟨h1,y⟩:=F i e j x m t
   subst y; refine⟨cs i j, ?_,(I i e j x m t).not_agg,I i e j x m t⟩
   rw[p _ (FR (cK m) h1), ←Qr]; exact H i e j x m t
  ·simp only[Value.slice.injEq,z9,Addr.mk.injEq]at m
   obtain⟨⟨rfl,rfl,_⟩,_,_⟩:=m; exact p k q

def vL(s:List UInt8):List (List T):=s.map fun b=> [.int .u8 (b.toNat:Int)]

theorem RG(w:World)(a:ByteArray): ∃news:List Value,Su w (.string a) (vL a.data.toList).length 1 news∧ ∀(i:Nat) e (j:Nat) x,(vL a.data.toList)[i]? =some e→e[j]? =some x→ ∃n,news[i*1+j]? =some (.int .u8 n)∧x= .int .u8 n:=by
 have c:a.data.toList.length=a.size:=z45; refine⟨a.data.toList.map fun b=> .int .u8 (b.toNat:Int),⟨by simp [vL],fun P w' _=> ?_,fun P w'=>by simp only[Builtin.lenOf,Sem.run_pure,vL,z79,c]⟩,fun i e j x h d=> ?_⟩
 ·simp only[Builtin.firstCells,Sem.run_pure,vL,z79]
  congr 1
  have:a.extract 0 a.data.toList.length=a:=by rw[c]; simp
  rw[this]; apply Nd
  simp
 ·simp only[vL,z28,z22]at h
  obtain⟨b,k,rfl⟩:=h; cases j with
  | zero=>
   simp only[z20,z9]at d
   subst d; exact⟨_,by simp [k],rfl⟩
  | succ j=>simp at d

structure Hg (g:G) (w:World) (l1 l2 L:Loc) (f:Bool) (s:Nat) (es:List (List T)) (v':Value) (g':G) (w':World):Prop where
 os:w'.os=w.os
 tape:w'.tape=w.tape
 output:w'.output=w.output
 ok:GOk g' w'
 β: ∀o,g'.β o=g.β o
 evo:Evo g w g' w' (fun l=>(l=l1∨l=l2)∧l.place=true)
 ow:Ow (frz g' w') f w' (some s) (fun b=>g'.own b=L) v' (.sl es)

def G.app(g:G)(l1 l2 L:Loc)(c:Nat):G:=
 { β:=g.β,own:=fun b=>if b=c then L else if(g.own b=l1∨g.own b=l2)∧(g.own b).place=true then L else g.own b }

theorem NK{P:Program}{g:G}{w:World}(hok:GOk g w){l1 l2 L:Loc}{f:Bool}{v1 x:Value}{d m:List (List T)}{s:Nat}{news:List Value}(h1:Ow (frz g w) f w (some s) (fun b=>g.own b=l1∧l1.place=true) v1 (.sl d))(hL:L.place=true)
  (hl1: ∀e∈d,e.length=s)(hs2: ∀e∈m,e.length=s)(hpos:0<s)(X:Su w x m.length s news)
  (hc2: ∃D:Nat→Nat×Nat, ∀(i:Nat) e (j:Nat) y,m[i]? =some e→e[j]? =some y→ ∃c,news[i*s+j]? =some c∧nV c∧Ow (frz g w) f w none (fun k=>(g.own k=l2∧l2.place=true∧l2≠l1)∧D k=(i,j)) c y)
  (t u ty e:TypeId)(du:TypeDesc)(i:TypeInfo)(z:Value)(ht:P.underlying t=some (.slice e))(hu:P.underlying u=some du)(hdu: ∀k,du≠ .int k)(hi:P.info? e=some i)(hz:i.zero=some z)(hsz:i.size=s)(hzs:z.cells.size=s)
  (h63:d.length+m.length≤maxLen)(K:(d.length+m.length)*i.bytes≤140737488355328):
  ∃v' g' w',(Builtin.append_ #[t,u] ty #[v1,x]).run P w= .ok v' w'∧Hg g w l1 l2 L f s (d++m) v' g' w':=by
 subst hsz; obtain⟨D,hc2⟩:=hc2; have hLn:=Loc.place_ne hL; have hall: ∀e∈d++m,e.length=i.size:=fun e E=>(Vs.1 E).elim (hl1 e) (hs2 e)
 have hrd1:Rd (fun _=>True) w v1 (.sl d):=h1.rd (fun _ _=>trivial) (fun _ _=>trivial)
 obtain⟨O,o1,o2,o5⟩:=DK hrd1 hl1; have hlenall:(d++m).length=d.length+m.length:=z32
 obtain⟨C,b1,hu1⟩: ∃(C:Nat→Nat×Nat) (b1:Nat→Prop),(∀k p,v1= .slice (some ⟨k,0,none⟩) d.length p→d≠[]→b1 k)∧ ∀(A:Nat) e (j:Nat) y,d[A]? =some e→e[j]? =some y→ ∃c,O[A*i.size+j]? =some c∧nV c∧
   Ow (frz g w) f w none (fun k=>(g.own k=l1∧l1.place=true)∧ ¬ b1 k∧C k=(A,j)) c y:=by
  cases h1 with
  | nil t F a=>exact⟨fun _=>(0,0),fun _=>False,fun k p _ h=>absurd rfl h,fun A e j y h=>by simp at h⟩
  | sl t F b len1 cap1 s1 arr1 ty1 _ C cs1 ht1 hb1 hh1 hl1' hc1 hcap1 hs1 ha1 hm1 hr1=>
   refine⟨C,fun k=>k=b,fun k p hv _=> ?_,fun A e j y E hy=> ?_⟩
   ·simp only[Value.slice.injEq,z9,Addr.mk.injEq]at hv
    exact hv.1.1.symm
   ·have es:s1=i.size:=(hs1 A e E).symm.trans (hl1 e (bI E))
    subst es; have hj:j<i.size:=by have:=cK hy; have:=hl1 e (bI E); omega
    have R:=o5 b 0 len1 cap1 rfl _ (FR (cK E) hj); rw[z30,cJ w b _ arr1 ty1 (0,0) hh1,hm1 A e j y E hy]at R; refine⟨cs1 A j,R,((hr1 A e j y E hy).rd (P:=fun _=>True) (fun _ _=>trivial) (fun _ _=>trivial)).not_agg,(hr1 A e j y E hy).mono id (fun _ b K=>⟨K,rfl⟩) (fun k J=>⟨J,rfl⟩)⟩
 have H: ∀k,(g.own k=l1∧l1.place=true)∨(g.own k=l2∧l2.place=true)→k<w.heap.size∧(g.own k).place=true:=fun k J=>by
  have:(g.own k).place=true:=by rcases J with h | h<;>(rw[h.1]; exact h.2)
  exact⟨hok.own k (Loc.place_ne this).1,this⟩
 have fin: ∀(q p:Nat) (B:Array Value) (W:TypeId) (w':World),w'.os=w.os→w'.tape=w.tape→w'.output=w.output→w.heap.size≤w'.heap.size→
   (∀b,b<w.heap.size→b≠q→w'.heap[b]? =w.heap[b]?)→q<w'.heap.size→w'.heap[q]? =some (.cells B W (0,0))→B.size=p*i.size→d.length+m.length≤p→p≤maxLen→
   (∀k,k<(d.length+m.length)*i.size→B[k]? =(O++news)[k]?)→(w.heap.size≤q∨((g.own q=l1∧l1.place=true)∧(d≠[]→b1 q)))→
   Hg g w l1 l2 L f i.size (d++m) (.slice (some ⟨q,0,none⟩) (d.length+m.length) p) (g.app l1 l2 L q) w':=by
  intro q p B W w' hos htape hout hsize hold hnb hnbh Y hcap hcm harrk I; have hnbp:q<w.heap.size→(g.own q).place=true∧g.own q=l1:=fun h=>by
   rcases I with R | R
   ·omega
   ·exact⟨by rw[R.1.1]; exact R.1.2,R.1.1⟩
  have hZ: ∀b,frz g w b→frz (g.app l1 l2 L q) w' b∧w'.heap[b]? =w.heap[b]? :=by
   intro b K; have U:b≠q:=by
    intro e; subst e; have:=(hnbp K.1).1; rw[K.2]at this; cases this
   refine⟨⟨by have:=K.1; omega, ?_⟩,hold b K.1 U⟩
   show(if b=q then L else if _ then L else g.own b)= .none
   rw[z11 U,z11 (fun h=>by rw[K.2]at h; cases h.2)]; exact K.2
  refine⟨hos,htape,hout,⟨fun b K=> ?_⟩,fun _=>rfl,⟨hsize,fun b K hX=> ?_⟩, ?_⟩
  ·by_cases e:b=q
   ·subst e; exact hnb
   ·have Z:(if b=q then L else if(g.own b=l1∨g.own b=l2)∧(g.own b).place=true then L else g.own b)≠ .none:=K
    rw[z11 e]at Z; by_cases R:(g.own b=l1∨g.own b=l2)∧(g.own b).place=true
    ·have:=hok.own b (Loc.place_ne R.2).1; omega
    ·rw[z11 R]at Z
     have:=hok.own b Z; omega
  ·have U:b≠q:=by
    intro e; subst e; obtain⟨q1,q2⟩:=hnbp K; exact hX ⟨.inl q2,q1⟩
   refine⟨?_,hold b K U⟩
   show(if b=q then L else if _ then L else g.own b)=g.own b
   rw[z11 U,z11 hX]
  ·have hF: ∀k,(g.own k=l1∧l1.place=true)∨(g.own k=l2∧l2.place=true)→k≠q→(g.app l1 l2 L q).own k=L∧w'.heap[k]? =w.heap[k]? :=by
    intro k R h3; obtain⟨q1,q2⟩:=H k R; refine⟨?_,hold k q1 h3⟩
    show(if k=q then L else if _ then L else g.own k)=L
    rw[z11 h3,z17 ⟨R.elim (fun h=> .inl h.1) (fun h=> .inr h.1),q2⟩]
   refine .sl _ _ q _ p i.size B W (d++m) (fun k=>if g.own k=l1 then C k else((D k).1+d.length,(D k).2)) (fun A j=>(B[A*i.size+j]?).getD undef) (by simp) (by simp [G.app]) hnbh hlenall hcap hcm
    (fun A e E=>hall e (bI E)) Y (fun A e j x E hx=> ?_) (fun A e j x E hx=> ?_)
   all_goals
    have hj:j<i.size:=by have:=cK hx; have:=hall e (bI E); omega
    have hi':A<d.length+m.length:=by have:=cK E; omega
    have hk':=FR hi' hj; obtain⟨c,hac,hOw⟩: ∃c,B[A*i.size+j]? =some c∧Ow (frz (g.app l1 l2 L q) w') f w' none (fun k=>(g.app l1 l2 L q).own k=L∧k≠q∧(if g.own k=l1 then C k else((D k).1+d.length,(D k).2))=(A,j)) c x:=by
     rw[harrk _ hk']; by_cases S:A<d.length
     ·rw[z63 S]at E
      obtain⟨c,Q,c2,c3⟩:=hu1.2 A e j x E hx; refine⟨c,by rw[z63 (by rw[o1.len]; exact FR S hj)]; exact Q,c3.mono id (fun _=>hZ) (fun k J=> ?_)⟩
      have M:k≠q:=by
       intro e2; subst e2; rcases I with h | h
       ·have:=(H k (.inl J.1)).1; omega
       ·exact J.2.1 (h.2 (fun e3=>by subst e3; simp at S))
      have:=hF k (.inl J.1) M; exact⟨⟨this.1,M,by rw[z17 J.1.1]; exact J.2.2⟩,this.2⟩
     ·rw[z55 (by omega)]at E
      obtain⟨c,Q,c2,c3⟩:=hc2 (A - d.length) e j x E hx; have hle:d.length*i.size≤A*i.size:=z64 _ (by omega)
      have hsub:A*i.size+j - O.length=(A - d.length)*i.size+j:=by rw[o1.len,Nat.sub_mul]; omega
      refine⟨c,by rw[z55 (by rw[o1.len]; omega),hsub]; exact Q,c3.mono id (fun _=>hZ) (fun k J=> ?_)⟩
      obtain⟨⟨q1,q2,q3⟩,q4⟩:=J; have M:k≠q:=by
       intro e2; subst e2; rcases I with h | h
       ·have:=(H k (.inr ⟨q1,q2⟩)).1; omega
       ·exact q3 (q1.symm.trans h.1.1)
      have:=hF k (.inr ⟨q1,q2⟩) M; refine⟨⟨this.1,M, ?_⟩,this.2⟩
      rw[z11 (by rw[q1]; exact q3),q4]
      simp only[z38,and_true]; omega
   ·rw[hac]; rfl
   ·rw[hac]; exact hOw
 have hone: ∀v∈news,v.oneCell'=true:=by
  intro v hv; obtain⟨k,J⟩:=z71 hv
  have S:k<m.flatten.length:=by rw[Hb hs2, ←X.len]; exact cK J
  obtain⟨A,e,j,q1,q2,q3,rfl⟩:=MH hs2 (z16 S)
  obtain⟨c,Q,c2,_⟩:=hc2 A e j _ q1 q2; rw[J]at Q; cases Q; exact qB c2
 have grow: ∀(av:Option Addr) (Q:Nat),v1= .slice av d.length Q→Q<d.length+m.length→
   ∃v' g' w',(Builtin.append_ #[t,u] ty #[v1,x]).run P w= .ok v' w'∧Hg g w l1 l2 L f i.size (d++m) v' g' w':=by
  intro av Q hv1 S; have N:=Eu (P:=P) w t u ty e du i z ht hu hdu hi hz av d.length Q m.length x O news (by rw[←hv1]; exact o1.first P w.drew rfl) (X.first P w.drew rfl) (X.lenOf P) S h63 K
  have hge:=grownCap_ge w (d.length+m.length) Q e; have hcm:=grownCap_le_maxLen w (d.length+m.length) Q e h63; refine⟨_,_,w.drew.alloc (.cells ((O++news).toArray++Builtin.zeroCells z.cells (grownCap w (d.length+m.length) Q e - (d.length+m.length))) e),by rw[hv1]; exact N,fin w.heap.size (grownCap w (d.length+m.length) Q e) _ e _ rfl rfl rfl (by simp) (fun b K _=>heap_alloc_old w.drew _ b K) (by simp) (heap_alloc_new w.drew _) ?_ hge hcm (fun k J=> ?_) (.inl (z59 _))⟩
  ·simp only[Array.size_append,z87,z32,size_zeroCells,hzs,o1.len,X.len, ←z82]
   congr 1
   omega
  ·rw[Array.getElem?_append_left (by simp only[z87,z32,o1.len,X.len, ←z82]; exact J)]
   simp
 have h1':=h1; cases h1 with
 | nil t' F av=>
  by_cases he2:m=[]
  ·subst he2
   have hnews:news=[]:=z86 (by simpa using X.len)
   have N:=Et (P:=P) w t u ty e du i ht hu hdu hi av 0 x (by have:=X.first P w rfl; rw[hnews]at this; exact this) (X.lenOf P)
   exact⟨_,g,w,N,rfl,rfl,rfl,hok,fun _=>rfl,Evo.refl _ _ _, .nil _ _ _⟩
  ·have R:0<m.length:=by cases m with | nil=>exact absurd rfl he2 | cons y r=>simp
   exact grow av 0 rfl (by simpa using R)
 | sl t' F b len p s' B W _ own cs hst hbo hbh hlen hlc hcm hs' Y hm hr=>
  subst hlen; have e0:s'=i.size:=hst _ rfl; subst e0; by_cases V:d.length+m.length≤p
  ·have hle:d.length*i.size+news.length≤B.size:=by rw[X.len,Y, ←z82]; exact z64 _ V
   obtain⟨w',s1,s2,s3,s4,s5,s6,s7⟩:=pC (P:=P) hbh news hle hone; have N:=Es (P:=P) w t u ty e du i ht hu hdu hi b d.length p m.length x news (X.first P w rfl) (X.lenOf P) V w' s1
   refine⟨_,_,_,N,fin b p _ W w' s5 s6 s7 (by omega) (fun b' _ Z=>s3 b' Z) (by rw[s4]; exact(z25.1 hbh).1) s2 ?_ V hcm (fun k J=> ?_) (.inr ⟨hbo,fun U=>hu1.1 b p rfl U⟩)⟩
   ·simp only[z87,z32,z44,z65,z45]
    omega
   ·rw[z85,sB B.toList news (d.length*i.size) (by simpa using hle) k]
    rw[z82]at J; by_cases hk1:k<d.length*i.size
    ·rw[z11 (by omega),z63 (by rw[o1.len]; exact hk1),z26]
     have:=o5 b 0 _ _ rfl k hk1; rw[z30,cJ w b k B W (0,0) hbh]at this; exact this.symm
    ·rw[z17 (by rw[X.len]; omega),z55 (by rw[o1.len]; omega),o1.len]
  ·exact grow _ p rfl (by omega)

def St.lowO(st:St)(l:Loc):St:=if l.place then st.lower l .D else st

theorem KR(st:St)(l m:Loc):(st.lowO l).at m=st.at m:=by unfold St.lowO; split<;>rfl
theorem SY(st:St)(l:Loc):(st.lowO l).n=st.n:=by unfold St.lowO; split<;>rfl
theorem Oe{st:St}{l m:Loc}{x:T}(b:st.at m=some x):(st.lowO l).fl m=if m=l∧l.place=true then .D else st.fl m:=by
 unfold St.lowO; by_cases a:l.place=true
 ·rw[z17 a]
  have:=xA (st:=st) (R:=fun m=>decide (m=l)) (f:=fun m=>if m=l then .D else st.fl m) (by simp [Ne.symm (Loc.place_ne a).1]) b
  unfold St.lower; rw[this]; by_cases e:m=l
  ·rw[z17 e,z17 ⟨e,a⟩]
  ·rw[z11 e,z11 (fun h=>e h.1)]
 ·rw[z11 a,z11 (fun h=>a h.2)]

theorem bP.lowO{g0:G}{w0:World}{st:St}{a:Act}{g:G}{w:World}(h:bP g0 w0 st a g w)(l:Loc):bP g0 w0 (st.lowO l) a g w:=by
 unfold St.lowO; split
 ·rename_i b
  exact h.lower b (by cases st.fl l<;>rfl)
 ·exact h

theorem rW{st:St}{R:Loc→Bool}{f:Loc→K}(a: ∀m,f m≠ .V)(m:Loc):(st.setf R f).fl m≠ .V:=by
 cases m with
 | s i k j=>
  simp only[St.setf]; split
  ·simp
  ·exact a _
 | _=>exact a _

theorem MA{st:St}(h: ∀m,st.fl m≠ .V)(l m:Loc):(st.lowO l).fl m≠ .V:=by
 unfold St.lowO; split
 ·unfold St.lower
  refine rW (fun m=> ?_) m
  split
  ·simp
  ·exact h m
 ·exact h m

def K.app(s:Nat):K→Bool
 | .A n=>n == s
 | .U n=>n == s&& !(n == 0)
 | .N=>true
 | _=>false
def K.deep:K→Bool
 | .A _=>false
 | _=>true

def jR(st:St):Operand→Loc
 | .tmp t=>if(st.fl (.s t 0 0)).hold then .s t 0 0 else .none
 | _=> .none

def Md(st:St):Operand→K
 | .tmp t=>st.fl (.s t 0 0)
 | .const v=>jD (bE v) 0 0
 | _=> .S

theorem bP.app_fst{g0:G}{w0:World}{st:St}{a:Act}{g:G}{w:World}(C:bP g0 w0 st a g w){x:Operand}{h:List (List T)}{s:Nat}{f:Bool}(l:ev st.sl x= .one (.c (.sl h)))(j:(Md st x).app s=true)(r:f=true→(Md st x).deep=true):
  Ow (frz g w) f w (some s) (fun b=>g.own b=jR st x∧(jR st x).place=true) (a.eval x) (.sl h):=by
 cases x with
 | tmp t=>
  have h1:=C.slots t; have k:st.sl t= .one (.c (.sl h)):=l; rw[k]at h1; have e:LF g w (st.fl (.s t 0 0)) (.s t 0 0) (a.tmps.getD t undef) (.sl h):=h1.2; have p:a.eval (.tmp t)=a.tmps.getD t undef:=rfl; rw[p]; simp only[Md]at j r; simp only[jR]; generalize D:st.fl (.s t 0 0)=κ at e j r; cases κ with
  | A n=>
   have hn:n=s:=by simpa [K.app]using j
   subst hn; have u:f=false:=by cases f with | false=>rfl | true=>exact absurd (r rfl) (by simp [K.deep])
   subst u; exact Ow.mono e id (fun _ b i=>⟨i,rfl⟩) (fun b i=>⟨⟨i,rfl⟩,rfl⟩)
  | U n=>
   have hn:n=s∧ ¬ n=0:=by simpa [K.app]using j
   obtain⟨rfl,B⟩:=hn; have e:Ow (frz g w) true w (gQ n) (fun b=>g.own b= .s t 0 0) (a.tmps.getD t undef) (.sl h):=e
   rw[sX (by omega)]at e
   cases f with
   | true=>exact Ow.mono e id (by simp) (fun b i=>⟨⟨i,rfl⟩,rfl⟩)
   | false=>exact Ow.mono (deep':=false) e (by simp) (by simp) (fun b i=>⟨⟨i,rfl⟩,rfl⟩)
  | N=>
   obtain⟨m,q,z⟩:=e; cases m; rw[z]; exact .nil _ _ _
  | _=>simp [K.app]at j
 | const v=>
  simp only[Md,jD]at j; have k:bE v= .one (.c (.sl h)):=l; have h1:=uV g w (fun _ _=> .none) v
  rw[k]at h1 j; have e:LF g w (jD (.one (.c (.sl h))) 0 0) .none v (.sl h):=h1.2; simp only[jD,V.leaf,W.leaf,scal,z51,if_false]at e; obtain⟨m,q,z⟩:=e; cases m; have:a.eval (.const v)=v:=rfl; rw[this,z]; exact .nil _ _ _
 | func f=>simp [ev]at l
 | global n=>simp [ev]at l

def qS(a:List T):Bool:=a.all scal

def Ko(st:St)(a:List T)(f:Bool)(y:Operand):Bool:=
 match ev st.sl y with
 | .one (.c (.str _))=>true
 | _=>match Md st y with
  | .D=>false
  | .V=>qS a
  | .F=>qS a|| !f
  | .A s=>(s == a.length)&&(qS a|| !f)
  | .U _=>true
  | .S=>false
  | .N=>true

def Hk:V→Option (List (List T))
 | .one (.c (.sl a))=>some a
 | .one (.c (.str s))=>some (vL s)
 | _=>none

theorem bP.app_snd{g0:G}{w0:World}{st:St}{a:Act}{g:G}{w:World}(hs:bP g0 w0 st a g w){y:Operand}{es:List (List T)}{zero:List T}{f:Bool}{l1:Loc}(hy:Hk (ev st.sl y)=some es)(hconf: ∀e∈es,iG e zero=true)(hk:Ko st zero f y=true)
  (hne:(jR st y).place=true→jR st y≠l1):
  ∃news,Su w (a.eval y) es.length zero.length news∧ ∃own2:Nat→Nat×Nat, ∀(i:Nat) e (j:Nat) z,es[i]? =some e→e[j]? =some z→ ∃c,news[i*zero.length+j]? =some c∧nV c∧Ow (frz g w) f w none (fun k=>(g.own k=jR st y∧(jR st y).place=true∧jR st y≠l1)∧own2 k=(i,j)) c z:=by
 have hsz: ∀e∈es,e.length=zero.length:=fun e he=>(sU (hconf e he)).1
 have hsc:qS zero=true→ ∀(i:Nat) e (j:Nat) z,es[i]? =some e→e[j]? =some z→scal z=true:=by
  intro h i e j z he hz; obtain⟨y,hy,hc⟩:=(sU (hconf e (bI he))).2 j z hz; rw[AL hc]; exact z18.1 h y (bI hy)
 have h1:=hs.ev_rv y (fun _ _=> .none)
 unfold Hk at hy; split at hy
 ·rename_i es' heq
  cases hy; rw[heq]at h1; have hnstr:Ko st zero f y=(match Md st y with | .D=>false | .V=>qS zero | .F=>qS zero|| !f | .A s=>(s == zero.length)&&(qS zero|| !f) | .U _=>true | .S=>false | .N=>true):=by
   unfold Ko; rw[heq]
  rw[hnstr]at hk; have read: ∀ {Q:Nat→Prop},Rd Q w (a.eval y) (.sl es)→((∀b,Q b→frz g w b)∧f=false∨qS zero=true)→ ∃news,Su w (a.eval y) es.length zero.length news∧ ∃own2:Nat→Nat×Nat, ∀(i:Nat) e (j:Nat) z,es[i]? =some e→e[j]? =some z→ ∃c,news[i*zero.length+j]? =some c∧nV c∧Ow (frz g w) f w none (fun k=>(g.own k=jR st y∧(jR st y).place=true∧jR st y≠l1)∧own2 k=(i,j)) c z:=by
   intro Q hrd hor; obtain⟨news,n1,n2,_⟩:=DK hrd hsz; refine⟨news,n1,fun _=>(0,0),fun i e j z he hz=> ?_⟩
   obtain⟨c,c1,c2,c3⟩:=n2 i e j z he hz; refine⟨c,c1,c2, ?_⟩
   rcases hor with⟨hQ,hf⟩ | ha
   ·exact .frz _ _ _ hf (c3.weaken hQ)
   ·exact c3.ow (hsc ha i e j z he hz)
  cases y with
  | const v=>
   have h2:LF g w (jD (ev st.sl (.const v)) 0 0) .none v (.sl es):=h1.2; have hev:ev st.sl (.const v)= .one (.c (.sl es)):=heq; rw[hev]at h2; simp only[jD,V.leaf,W.leaf,scal,z51,if_false]at h2; obtain⟨h3,q,hq⟩:=h2; cases h3; have e1:a.eval (.const v)= .slice q 0 0:=hq; obtain⟨news,n1,n2,_⟩:=DK (s:=zero.length) (show Rd (fun _=>False) w (a.eval (.const v)) (.sl [])by rw[e1]; exact .nil _ _) (by simp)
   exact⟨news,n1,fun _=>(0,0),fun i e j z he=>by simp at he⟩
  | func f=>simp [ev]at heq
  | global n=>simp [ev]at heq
  | tmp t=>
   have hsl:st.sl t= .one (.c (.sl es)):=heq; have h3:=hs.slots t; rw[hsl]at h3; have h2:LF g w (st.fl (.s t 0 0)) (.s t 0 0) (a.tmps.getD t undef) (.sl es):=h3.2; have hev:a.eval (.tmp t)=a.tmps.getD t undef:=rfl
   have own: ∀(deep:Bool) (n:Option Nat),(st.fl (.s t 0 0)).hold=true→(f=true→deep=true)→(deep=false→n≠none)→Ow (frz g w) deep w n (fun b=>g.own b= .s t 0 0) (a.tmps.getD t undef) (.sl es)→
     ∃news,Su w (a.eval (.tmp t)) es.length zero.length news∧ ∃own2:Nat→Nat×Nat, ∀(i:Nat) e (j:Nat) z,es[i]? =some e→e[j]? =some z→ ∃c,news[i*zero.length+j]? =some c∧nV c∧Ow (frz g w) f w none (fun k=>(g.own k=jR st (.tmp t)∧(jR st (.tmp t)).place=true∧jR st (.tmp t)≠l1)∧own2 k=(i,j)) c z:=by
    intro deep n hh hfd hq0 hO; have hloc:jR st (.tmp t)= .s t 0 0:=by simp only[jR]; rw[z17 hh]
    have hne':=hne (by rw[hloc]; rfl)
    rw[hloc]at hne' ⊢; rw[hev]; have hrd:Rd (fun _=>True) w (a.tmps.getD t undef) (.sl es):=hO.rd (fun _ _=>trivial) (fun _ _=>trivial)
    obtain⟨news,n1,n2,n3⟩:=DK hrd hsz; generalize a.tmps.getD t undef=v at hO n1 n3; cases hO with
    | frz F v x hd0 h0=>exact absurd rfl (hq0 hd0)
    | nil t' F q=>exact⟨news,n1,fun _=>(0,0),fun i e j z he=>by simp at he⟩
    | sl t' F b len cap s' arr ty _ own cs hst hb hh hl hc hcap hs' ha hm hr=>
     refine⟨news,n1,own,fun i e j z he hz=> ?_⟩
     have e0:s'=zero.length:=by rw[←hs' i e he,hsz e (bI he)]
     subst e0; obtain⟨c,c1,c2,c3⟩:=n2 i e j z he hz; have hj:j<zero.length:=by have:=cK hz; have:=hsz e (bI he); omega
     have h5:=n3 b 0 len cap rfl _ (FR (cK he) hj); rw[z30,cJ w b _ arr ty (0,0) hh,hm i e j z he hz,c1]at h5; cases h5; refine⟨_,c1,c2, ?_⟩
     have h6:=hr i e j z he hz; cases f with
     | true=>
      have:=hfd rfl; subst this; exact h6.mono id (by simp) (fun k hk=>⟨⟨⟨hk.1,rfl,hne'⟩,hk.2.2⟩,rfl⟩)
     | false=>exact h6.mono (fun _=>rfl) (fun _ b hb=>⟨hb,rfl⟩) (fun k hk=>⟨⟨⟨hk.1,rfl,hne'⟩,hk.2.2⟩,rfl⟩)
   simp only[Md]at hk; generalize hκ:st.fl (.s t 0 0)=κ at h2 hk own; cases κ with
   | D=>simp at hk
   | V=>exact read h2 (.inr hk)
   | F=>
    refine read h2 ?_
    simp only[z48,z35]at hk; rcases hk with hk | hk
    ·exact .inr hk
    ·exact .inl ⟨fun _ h=>h,hk⟩
   | A n=>
    simp only[z7,beq_iff_eq,z48,z35]at hk; rcases hk.2 with hk2 | hk2
    ·exact read (hs.ok |> fun hok=>LF.rd (κ:= .A n) hok (l:= .s t 0 0) rfl h2 (by simp)) (.inr hk2)
    ·exact own false (some n) rfl (by simp [hk2]) (fun _=>by simp) h2
   | U n=>
    have h2:Ow (frz g w) true w (gQ n) (fun b=>g.own b= .s t 0 0) (a.eval (.tmp t)) (.sl es):=h2
    exact own true (gQ n) rfl (fun _=>rfl) (by simp) h2
   | S=>simp at hk
   | N=>
    obtain⟨h4,q,hq⟩:=h2; cases h4; obtain⟨news,n1,_⟩:=DK (s:=zero.length) (show Rd (fun _=>False) w (a.eval (.tmp t)) (.sl [])by rw[hev,hq]; exact .nil _ _) (by simp)
    exact⟨news,n1,fun _=>(0,0),fun i e j z he=>by simp at he⟩
 ·rename_i s heq
  cases hy; rw[heq]at h1; have h2:Rd (fun _=>False) w (a.eval y) (.str s):=by
   have:=LF.scal (g':=g) (w':=w) (κ':= .S) (l':= .none) h1.2 rfl; exact this.2
  generalize a.eval y=v at h2; cases h2 with
  | str b=>
   obtain⟨news,n1,n2⟩:=RG w b; by_cases hemp:vL b.data.toList=[]
   ·rw[hemp]at n1 ⊢
    refine⟨[],⟨by simp,fun P w' hw=> ?_,n1.lenOf⟩,fun _=>(0,0),fun i e j z he=>by simp at he⟩
    have:=n1.first P w' hw
    have hnil:news=[]:=z86 (by simpa using n1.len)
    rw[hnil]at this; have e:Builtin.firstCells zero.length 0 (Value.string b)=Builtin.firstCells 1 0 (Value.string b):=rfl; simp only[z77]at this ⊢; rw[e]; exact this
   ·have h1l:zero.length=1:=by
     obtain⟨e,r,he⟩:=List.exists_cons_of_ne_nil hemp; have hm:e∈vL b.data.toList:=by rw[he]; exact z27
     rw[←hsz e hm]; simp only[vL,z49]at hm; obtain⟨c,_,rfl⟩:=hm; rfl
    rw[h1l]; refine⟨news,n1,fun _=>(0,0),fun i e j z he hz=> ?_⟩
    obtain⟨n,hn,rfl⟩:=n2 i e j z he hz; exact⟨_,hn,⟨by simp,by simp⟩, .int _ _ _ _⟩
 ·cases hy

section
variable {P:Program} {τ:TypeId→Option TI} {g0:G} {w0:World} {o:Oper} {st:St} {d:Nat}

theorem QD(hT:aX P τ){t u e:TypeId}{ei:TI}{x y:Operand}{es1 es2:List (List T)}(f:Bool)(hd:o.dst=some d)(hn:d<st.n)(ho:o.op= .call { callee:= .builtin .append,args:= #[x,y],argTypes:= #[t,u] })
  (ht:tk τ t=some (.sl e))(hu:tk τ u=some (.sl e)∨tk τ u=some .str)(he:τ e=some ei)(hx:ev st.sl x= .one (.c (.sl es1)))(hxk:(Md st x).app ei.size=true)(hxf:f=true→(Md st x).deep=true)
  (hy:Hk (ev st.sl y)=some es2)(hyk:Ko st ei.zero f y=true)(hne:(jR st y).place=true→jR st y≠jR st x)
  (hl1: ∀e∈es1,e.length=ei.size)(hl2: ∀e∈es2,iG e ei.zero=true)(h63:es1.length+es2.length≤maxLen)(hb:(es1.length+es2.length)*ei.bytes≤140737488355328):
  qD P g0 w0 o st (((st.killV.lowO (jR st x)).lowO (jR st y)).put d (.one (.c (.sl (es1++es2)))) (fun _ _=>if f then .U ei.size else .A ei.size)):=by
 intro a w ⟨g,hs⟩; obtain⟨info,de,z,q1,q2,q3,q4,q5,q6,q7,q8,q9⟩:=hT.get he; obtain⟨dt,hdt,rfl⟩:=lI hT ht; obtain⟨du,hdu,hdui⟩: ∃du,P.underlying u=some du∧ ∀k,du≠ .int k:=by
  rcases hu with hu | hu
  ·obtain⟨du,hdu,rfl⟩:=lI hT hu; exact⟨_,hdu,by simp⟩
  ·obtain⟨du,hdu,rfl⟩:=lI hT hu; exact⟨_,hdu,by simp⟩
 have hzs:z.cells.size=ei.size:=by
  have:=(jE q6).1; simp only[z45]at this; omega
 obtain⟨news,n1,hc2⟩:=hs.app_snd (l1:=jR st x) hy hl2 hyk hne; rw[q7]at n1 hc2
 obtain⟨v',g',w',hrun,hA⟩:=NK (P:=P) hs.ok (l1:=jR st x) (l2:=jR st y) (L:= .s d 0 0) (hs.app_fst hx hxk hxf) rfl hl1 (fun e he=>by rw[(sU (hl2 e he)).1,q7]) q8 n1 hc2
  t u o.type e du info z hdt hdu hdui q1 q5 q3 hzs h63 (by rw[q4]; exact hb)
 have hv:(execOp a.eval o).run P w= .ok (.value v') w':=by
  obtain⟨dst,op,ty,pos,after,guard⟩:=o; simp only at ho; subst ho; simp only[execOp,resolve,invoke,builtin,Sem.run_bind,Sem.run_pure,Result.andThen_ok,List.map_toArray,z54,Uc]; simp only at hrun; rw[hrun]; rfl
 refine⟨_,_,hv, .inl ⟨_,rfl,g', ?_⟩⟩
 rw[hd]; have h1:=(hs.killV.lowO (jR st x)).lowO (jR st y)
 have hC:zW g w g' w' (fun l=>(l=jR st x∨l=jR st y)∧l.place=true) ((st.killV.lowO (jR st x)).lowO (jR st y)):=
  ⟨hA.evo,fun l hl=>⟨fun hf=>by rcases hf with h | h<;>(rw[h]at hl; cases hl.2),(Loc.place_ne hl.2).2.2⟩, .inr (MA (MA (sS st) _) _),hA.os,hA.tape,hA.output,hA.ok⟩
 refine h1.put hC hA.β (by rw[SY,SY]; exact hn) (fun l hk ⟨y',hx⟩ _ hX=> ?_) ⟨(hA.ow.rd (P:=fun _=>True) (fun _ _=>trivial) (fun _ _=>trivial)).not_agg, ?_⟩ (fun h=>absurd rfl h)
 ·rw[KR,KR]at hx
  have hx':st.killV.at l=some y':=hx; rw[Oe (x:=y') (by rw[KR]; exact hx'),Oe hx']at hk
  rcases hX.1 with e | e
  ·by_cases e2:l=jR st y∧(jR st y).place=true
   ·rw[z17 e2]at hk; simp [K.hold]at hk
   ·rw[z11 e2,z17 ⟨e,by rw[←e]; exact hX.2⟩]at hk; simp [K.hold]at hk
  ·rw[z17 ⟨e,by rw[←e]; exact hX.2⟩]at hk; simp [K.hold]at hk
 ·show LF g' w' (if f then .U ei.size else .A ei.size) (.s d 0 0) v' (.sl (es1++es2))
  cases f with
  | true=>
   show Ow _ true w' (gQ ei.size) _ _ _; rw[sX q8]; exact hA.ow
  | false=>exact hA.ow
end

theorem BM(off:Nat): ∀(l:List Value) (a:Nat) (cs:Array Value),off+a+l.length≤cs.size→
  ((l.zipIdx a).foldl (fun cs (x:Value×Nat)=>cs.setIfInBounds (off+x.2) x.1) cs).size=cs.size∧
  ∀k,((l.zipIdx a).foldl (fun cs (x:Value×Nat)=>cs.setIfInBounds (off+x.2) x.1) cs)[k]? =if off+a≤k∧k<off+a+l.length then l[k - (off+a)]? else cs[k]?
 | [],a,cs,_=>⟨rfl,fun k=>by simp only[List.zipIdx_nil,List.foldl_nil,z77]; rw[z11 (by omega)]⟩
 | v::r,a,cs,h=>by
  simp only[z34]at h; simp only[z152,Vt]; obtain⟨h1,e⟩:=BM off r (a+1) (cs.setIfInBounds (off+a) v) (by simp; omega)
  refine⟨by rw[h1]; simp,fun k=> ?_⟩
  rw[e k]; by_cases b:off+(a+1)≤k∧k<off+(a+1)+r.length
  ·rw[z17 b,z17 (by simp; omega)]
   have:k - (off+a)=k - (off+(a+1))+1:=by omega
   rw[this,z21]
  ·rw[z11 b]
   by_cases c:k=off+a
   ·subst c
    rw[z17 (by simp),z99,z20,z100 (by omega)]
   ·rw[z11 (by simp; omega),z92 (Ne.symm c)]

theorem ML(size:Nat): ∀(vs:List Value) (b:Nat) (cs:Array Value),(∀v∈vs,v.cells.size=size)→(b+vs.length)*size≤cs.size→
  ∃r,Instr.fill (fun i=>some (i*size,size)) cs ((vs.zipIdx b).map fun p=>(p.2,p.1))=some r∧r.size=cs.size∧(∀k,k<b*size→r[k]? =cs[k]?)∧
   ∀(i:Nat) (v:Value) (j:Nat),vs[i]? =some v→j<size→r[(b+i)*size+j]? =v.cells[j]?
 | [],b,cs,_,_=>⟨cs,rfl,rfl,fun _ _=>rfl,fun i v j h=>by simp at h⟩
 | v::r,b,cs,t,h=>by
  have f:=t v z27; simp only[z34]at h; have g:(b+1)*size≤cs.size:=z93 (z64 _ (by omega)) h
  rw[z82,Nat.one_mul]at g; simp only[z152,z54,Instr.fill,f,ne_eq,not_true_eq_false,decide_false,z56]; have s:v.cells.toList.length=size:=by simpa using f
  obtain⟨m,q⟩:=BM (b*size) v.cells.toList 0 cs (by rw[s]; omega)
  have a:v.cells.zipIdx.foldl (fun cs (x:Value×Nat)=>cs.setIfInBounds (b*size+x.2) x.1) cs=(v.cells.toList.zipIdx 0).foldl (fun cs (x:Value×Nat)=>cs.setIfInBounds (b*size+x.2) x.1) cs:=by
   rw[←Vy]; simp
  have e: ¬ (decide (b*size+size > cs.size)=true):=by simp; omega
  obtain⟨y,f1,f2,l,u⟩:=ML size r (b+1) (v.cells.zipIdx.foldl (fun cs (x:Value×Nat)=>cs.setIfInBounds (b*size+x.2) x.1) cs) (fun x c=>t x (z23 _ c))
   (by rw[a,m]; exact z93 (z64 _ (by omega)) h)
  refine⟨y, ?_,by rw[f2,a,m],fun k z=> ?_,fun i x j c w=> ?_⟩
  ·rw[z11 (by simpa using e)]
   exact f1
  ·rw[l k (by rw[z82]; omega),a,q k,z11 (by omega)]
  ·cases i with
   | zero=>
    simp only[z20,z9]at c
    subst c; rw[z69,l _ (by rw[z82]; omega),a,q,z17 (by rw[s]; omega),z69,z78,z26]
   | succ i=>
    simp only[z21]at c
    have:b+(i+1)=b+1+i:=by omega
    rw[this]; exact u i x j c w

def yL(t:Nat):Operand→Bool
 | .tmp a=>a == t
 | _=>false
def dZ(ps:List Operand):Loc→Bool
 | .s t 0 _=>ps.any (yL t)
 | _=>false
theorem NC{ps:List Operand}{t j:Nat}(h: .tmp t∈ps):dZ ps (.s t 0 j)=true:=by
 simp only[dZ,z151]; exact⟨.tmp t,h,by simp [yL]⟩
theorem CE{ps:List Operand}{l:Loc}(h:dZ ps l=true):l.place=true:=by
 cases l<;>first | rfl | simp [dZ]at h

def tIdx(ps:List Operand)(t:Nat):Nat:=ps.findIdx (yL t)

theorem TX{ps:List Operand}{t i:Nat}(h:ps[i]? =some (.tmp t))(f: ∀e,ps[e]? =some (.tmp t)→e=i):tIdx ps t=i:=by
 have a: ∃x∈ps,yL t x=true:=⟨.tmp t,bI h,by simp [yL]⟩
 have c:=List.findIdx_lt_length_of_exists a; have b:=List.findIdx_getElem (w:=c); have:ps[ps.findIdx (yL t)]? =some (.tmp t):=by
  rw[z16 c]
  congr 1
  generalize ps[ps.findIdx (yL t)]=y at b; cases y<;>simp [yL]at b
  rw[b]
 exact f _ this

def St.lowT(st:St)(ps:List Operand):St:=st.setf (dZ ps) (fun m=>if dZ ps m=true∧(st.fl m).hold=true then .D else st.fl m)

theorem bP.lowT{g0:G}{w0:World}{st:St}{a:Act}{g:G}{w:World}(h:bP g0 w0 st a g w)(ps:List Operand):bP g0 w0 (st.lowT ps) a g w:=by
 refine h.setf rfl (fun _=>rfl) h.ok (fun _ _=>rfl) (fun _ _ h=>h) (fun _ h=>h) (fun m x v q t c=> ?_) (fun i k xs b off l j=> ?_) (fun i r f c=> ?_)
 ·by_cases e:dZ ps m=true∧(st.fl m).hold=true
  ·rw[z17 e]; exact c.lo (κ':= .D) h.ok (at_isPlace q) (by cases st.fl m<;>rfl)
  ·rw[z11 e]; exact c
 ·by_cases e:dZ ps (.s i k 0)=true∧(st.fl (.s i k 0)).hold=true
  ·rw[z17 e]; trivial
  ·rw[z11 e]; exact j
 ·refine⟨fun e=>c (by rw[z11 (by rw[e]; simp [K.hold])]; exact e),fun p=> ?_⟩
  rw[z11 (by rw[f]; simp)]; exact p

theorem KQ{st:St}{ps:List Operand}{m:Loc}{x:T}(a:st.at m=some x):(st.lowT ps).fl m=if dZ ps m=true∧(st.fl m).hold=true then .D else st.fl m:=xA (f:=fun m=>if dZ ps m=true∧(st.fl m).hold=true then K.D else st.fl m) rfl a

def K.part(f:Bool):K→Bool
 | .S=>true
 | .N=>true
 | .F=> !f
 | .A _=> !f
 | .U _=>true
 | _=>false

def FE(st:St):Operand→Nat→K
 | .tmp t,j=>st.fl (.s t 0 j)
 | .const v,j=>jD (bE v) 0 j
 | _,_=> .D

theorem LF.part{g g':G}{w w':World}{κ:K}{l:Loc}{c:Value}{x:T}{f:Bool}(h:LF g w κ l c x)(e:κ.part f=true)(j: ∀b,frz g w b→frz g' w' b∧w'.heap[b]? =w.heap[b]?){F:Nat→Prop}(i:κ.hold=true→ ∀b,g.own b=l→F b∧w'.heap[b]? =w.heap[b]?):Ow (frz g' w') f w' none F c x:=by
 cases κ with
 | D=>simp [K.part]at e
 | V=>simp [K.part]at e
 | F=>
  have:f=false:=by simpa [K.part]using e
  subst this; exact .frz _ _ _ rfl (Rd.mono j h)
 | A n=>
  have:f=false:=by simpa [K.part]using e
  subst this; exact(Ow.sub h).mono id (fun _=>j) (i rfl)
 | U n=>
  have h:Ow (frz g w) true w (gQ n) (fun b=>g.own b=l) c x:=h
  exact h.any.mono (deep':=f) (by simp) (by simp) (i rfl)
 | S=>exact h.2.ow h.1
 | N=>obtain⟨rfl,a,rfl⟩:=h; exact .nil _ _ _

section
variable {P:Program} {τ:TypeId→Option TI} {g0:G} {w0:World} {o:Oper} {st:St} {d:Nat}

def G.lit(g:G)(ps:List Operand)(L:Loc)(a:Nat):G:=
 { β:=g.β,own:=fun b=>if b=a then L else if dZ ps (g.own b)=true then L else g.own b }

theorem BY{v:V}{xs:List T}(h:aT v=some xs)(j:Nat):v.leaf 0 j=xs[j]? :=by
 unfold aT at h; split at h
 ·simp only[z9]at h; subst h; cases j<;>rfl
 ·simp only[z9]at h; subst h; rfl
 ·cases h

theorem Wi(hT:aX P τ){n:Nat}{t e:TypeId}{q:TI}{C:Array (Nat×Operand)}{ps:List Operand}{H:List (List T)}(f:Bool)(hd:o.dst=some d)(hn:d<st.n)(ho:o.op= .buildSlice t n C)(L:C.toList=ps.zipIdx.map fun p=>(p.2,p.1))(hlen:n=ps.length)
  (ht:tk τ t=some (.sl e))(M:τ e=some q)(hes:ps.map (fun x=>aT (ev st.sl x))=H.map some)(Q: ∀e∈H,e.length=q.size)(hsz:n*q.size≤16777216)
  (hu: ∀(i i' t:Nat),ps[i]? =some (Operand.tmp t)→ps[i']? =some (Operand.tmp t)→i=i')
  (hk: ∀x∈ps, ∀j,j<q.size→(FE st x j).part f=true):
  qD P g0 w0 o st ((st.lowT ps).put d (.one (.c (.sl H))) (fun _ _=>if f then .U q.size else .A q.size)):=by
 intro a w ⟨g,hs⟩; obtain⟨m,de,z0,q1,q2,q3,q4,q5,q6,q7,q8,q9⟩:=hT.get M; obtain⟨dt,hdt,rfl⟩:=lI hT ht; have hzs:z0.cells.size=q.size:=by
  have:=(jE q6).1; simp only[z45]at this; omega
 have hel:H.length=n:=by
  have:=congrArg List.length hes; simp only[z79]at this; omega
 have W: ∀(i:Nat) x e,ps[i]? =some x→H[i]? =some e→aT (ev st.sl x)=some e:=by
  intro i x e F M; have:(ps.map (fun x=>aT (ev st.sl x)))[i]? =(H.map some)[i]? :=by rw[hes]
  rw[z28,z28,F,M]at this
  exact z50 this
 have V: ∀(i:Nat) x,ps[i]? =some x→ ∃e,H[i]? =some e:=fun i x F=>by
  have:=cK F; exact⟨H[i]'(by omega),z16 (by omega)⟩
 have Z: ∀(i:Nat) x e,ps[i]? =some x→H[i]? =some e→(a.eval x).cells.size=q.size∧ ∀(j:Nat) z,e[j]? =some z→ ∃c,(a.eval x).cells[j]? =some c∧nV c∧
   LF g w (FE st x j) (match x with | .tmp t=> .s t 0 j | _=> .none) c z:=by
  intro i x e F M; have hc:=W i x e F M; have hle:=Q e (bI M); cases x with
  | tmp t=>
   obtain⟨k1,k2,_⟩:=iK (hs.slots t) hc; exact⟨by rw[show a.eval (.tmp t)=a.tmps.getD t undef from rfl,k1]; exact hle,fun j z hz=>k2 j z hz⟩
  | const v=>
   obtain⟨k1,k2,_⟩:=iK (uV g w (fun _ _=> .none) v) hc
   exact⟨by rw[show a.eval (.const v)=v from rfl,k1]; exact hle,fun j z hz=>k2 j z hz⟩
  | func f=>simp [ev,aT]at hc
  | global n=>simp [ev,aT]at hc
 let vs:List Value:=ps.map a.eval
 have hvs: ∀(i:Nat) x,ps[i]? =some x→vs[i]? =some (a.eval x):=fun i x F=>by simp [vs,F]
 obtain⟨r,f1,f2,_,f4⟩:=ML q.size vs 0 ((Array.range (n*m.size)).map ((if n*m.size=0 then(#[]:Array Value)else z0.cells)[· % (if n*m.size=0 then(#[]:Array Value)else z0.cells).size]!)) (fun v hv=>by
  obtain⟨x,F,rfl⟩:=z49.1 hv; obtain⟨i,hi⟩:=z71 F
  obtain⟨e,M⟩:=V i x hi; exact(Z i x e hi M).1) (by simp [vs,q3,hlen])
 have hrsz:r.size=n*q.size:=by rw[f2]; simp [q3]
 have hv:(execOp a.eval o).run P w= .ok (.value (.slice (some ⟨w.heap.size,0,none⟩) n n)) (w.alloc (.cells r e)):=by
  obtain⟨dst,op,ty,pos,after,guard⟩:=o; simp only at ho; subst ho; have hp2:(C.map fun x=>(x.fst,a.eval x.snd)).toList=(vs.zipIdx 0).map fun p=>(p.2,p.1):=by
   rw[Array.toList_map,L]; simp [vs,List.zipIdx_map,Function.comp_def]
  have hnot: ¬ (n*m.size > 2 ^ 24):=by rw[q3]; omega
  simp only[execOp,Instr.buildSlice,Sem.run_bind,run_underlying hdt,Result.andThen_ok,sizeOf,typeInfo,run_program,q1,Sem.run_pure,z11 hnot,Sem.run_ite,zeroValue,q5]; rw[show(fun i=>some (i*q.size,q.size))=(fun i=>some (i*m.size,m.size))by rw[q3]]at f1
  by_cases h0:n*m.size=0
  ·rw[z17 h0]at f1 ⊢
   rw[hp2,f1]; rfl
  ·rw[z11 h0]at f1 ⊢
   rw[hp2,f1]; rfl
 refine⟨_,_,hv, .inl ⟨_,rfl,g.lit ps (.s d 0 0) w.heap.size, ?_⟩⟩
 rw[hd]; have D: ∀b,b<w.heap.size→(w.alloc (.cells r e)).heap[b]? =w.heap[b]? :=pH w _; have hnew:(w.alloc (.cells r e)).heap[w.heap.size]? =some (.cells r e (0,0)):=heap_alloc_new w _; have N: ∀b,b<w.heap.size→dZ ps (g.own b)=false→(g.lit ps (.s d 0 0) w.heap.size).own b=g.own b:=by
  intro b u hi; show(if b=w.heap.size then _ else if dZ ps (g.own b)=true then _ else g.own b)=_
  rw[z11 (by omega),z11 (by rw[hi]; simp)]
 have hE:Evo g w (g.lit ps (.s d 0 0) w.heap.size) (w.alloc (.cells r e)) (fun l=>dZ ps l=true):=⟨by simp,fun b u hX=>⟨N b u (by simpa using hX),D b u⟩⟩
 have hZ: ∀b,frz g w b→frz (g.lit ps (.s d 0 0) w.heap.size) (w.alloc (.cells r e)) b∧(w.alloc (.cells r e)).heap[b]? =w.heap[b]? :=fun b u=>⟨⟨by simp; have:=u.1; omega,by rw[N b u.1 (by rw[u.2]; rfl)]; exact u.2⟩,D b u.1⟩
 have hok:GOk (g.lit ps (.s d 0 0) w.heap.size) (w.alloc (.cells r e)):=by
  refine⟨fun b u=> ?_⟩
  by_cases eb:b=w.heap.size
  ·subst eb; simp
  ·have B:(if b=w.heap.size then Loc.s d 0 0 else if dZ ps (g.own b)=true then Loc.s d 0 0 else g.own b)≠ .none:=u
   rw[z11 eb]at B; have:g.own b≠ .none:=by
    intro e2; rw[e2]at B; exact B (by rw[z11 (by simp [dZ])])
   have:=hs.ok.own b this; simp; omega
 have hA: ∀b,all g w b→all (g.lit ps (.s d 0 0) w.heap.size) (w.alloc (.cells r e)) b∧(w.alloc (.cells r e)).heap[b]? =w.heap[b]? :=fun b u=>⟨⟨by simp; have:=u.1; omega,fun o=>by
  show(if b=w.heap.size then Loc.s d 0 0 else if dZ ps (g.own b)=true then Loc.s d 0 0 else g.own b)≠ .obj o
  rw[z11 (by have:=u.1; omega)]
  split
  ·simp
  ·exact u.2 o⟩,D b u.1⟩
 have h1:=hs.lowT ps
 have hC:zW g w (g.lit ps (.s d 0 0) w.heap.size) (w.alloc (.cells r e)) (fun l=>dZ ps l=true) (st.lowT ps):=
  ⟨hE,fun l Q=>⟨fun hf=>by rcases hf with h | h<;>(rw[h]at Q; simp [dZ]at Q),(Loc.place_ne (CE Q)).2.2⟩, .inl hA,rfl,rfl,rfl,hok⟩
 have R:n≤maxLen:=by
  have h1:n≤n*q.size:=z148 n q8; simp only[maxLen]; omega
 have O:(g.lit ps (.s d 0 0) w.heap.size).own w.heap.size= .s d 0 0:=by
  show(if w.heap.size=w.heap.size then _ else _)=_
  rw[z17 rfl]
 have Y:Ow (frz (g.lit ps (.s d 0 0) w.heap.size) (w.alloc (.cells r e))) f (w.alloc (.cells r e)) (some q.size) (fun b=>(g.lit ps (.s d 0 0) w.heap.size).own b= .s d 0 0) (.slice (some ⟨w.heap.size,0,none⟩) n n) (.sl H):=by
  refine .sl _ _ w.heap.size n n q.size r e H (fun k=>match g.own k with | .s t 0 j=>(tIdx ps t,j) | _=>(0,0)) (fun i j=>(r[i*q.size+j]?).getD undef) (by simp) O hnew hel (z59 _) R (fun i X E=>Q X (bI E)) hrsz
   (fun i X j x E F=> ?_) (fun i X j x E F=> ?_)
  all_goals
   have hj:j<q.size:=by have:=cK F; have:=Q X (bI E); omega
   have hlt:=cK E; have S:ps[i]? =some (ps[i]'(by omega)):=z16 (by omega)
   obtain⟨c1,c2⟩:=Z i _ X S E; obtain⟨c,c3,c4,c5⟩:=c2 j x F; have hrc:r[i*q.size+j]? =some c:=by
    have:=f4 i _ j (hvs i _ S) hj; rw[z30]at this; rw[this]; exact c3
   rw[hrc]
  ·rfl
  ·simp only[z62]
   have hkp:=hk _ (bI S) j hj; refine c5.part hkp hZ (fun J b u=> ?_)
   generalize hpe:ps[i]'(by omega)=x at S u J
   cases x with
   | tmp t'=>
    have B:g.own b= .s t' 0 j:=u; have hbs:b<w.heap.size:=hs.ok.own b (by rw[B]; simp)
    refine⟨⟨?_,by omega, ?_⟩,D b hbs⟩
    ·show(if b=w.heap.size then _ else if dZ ps (g.own b)=true then _ else g.own b)=_
     rw[z11 (by omega),B,z17 (NC (bI S))]
    ·simp only[B]
     rw[TX S (fun i' hi'=>hu i' i t' hi' S)]
   | const v=>
    exfalso
    simp only[FE,jD]at J; revert J
    split
    ·split<;>simp [K.hold]
    ·simp [K.hold]
   | func f=>simp [FE,K.hold]at J
   | global n=>simp [FE,K.hold]at J
 refine h1.put hC (fun _=>rfl) hn (fun l I ⟨y,hy⟩ _ hX=> ?_) ⟨⟨by simp,by simp⟩, ?_⟩ (fun h=>absurd rfl h)
 ·have hy':st.at l=some y:=hy
  rw[KQ hy']at I; by_cases J:(st.fl l).hold=true
  ·rw[z17 ⟨hX,J⟩]at I; simp [K.hold]at I
  ·rw[z11 (fun h=>J h.2)]at I; exact J I
 ·show LF _ _ (if f then .U q.size else .A q.size) (.s d 0 0) _ (.sl H)
  cases f with
  | true=>
   show Ow _ true _ (gQ q.size) _ _ _; rw[sX q8]; exact Y
  | false=>exact Y

theorem Tt(hT:aX P τ){t e:TypeId}{ei:TI}{x y:Operand}{k k':IntKind}{n:Int}(hd:o.dst=some d)(hn:d<st.n)(ho:o.op= .makeSlice t x y)(ht:tk τ t=some (.sl e))(he:τ e=some ei)
  (hx:ev st.sl x= .one (.c (.int k n)))(hy:ev st.sl y= .one (.c (.int k' n)))(h0:0≤n)(h1:n≤maxLen)(hb:ei.bytes*n≤281474976710656):
  qD P g0 w0 o st (st.put d (.one (.c (.sl (List.replicate n.toNat ei.zero)))) (fun _ _=> .U ei.size)):=by
 intro a w ⟨g,hs⟩; obtain⟨info,de,z0,q1,q2,q3,q4,q5,q6,q7,q8,q9⟩:=hT.get he; obtain⟨dt,hdt,rfl⟩:=lI hT ht; obtain⟨ze,hz⟩:=jE q6; have hzs:z0.cells.size=ei.size:=by
  simp only[z45]at ze; omega
 have hmax:(maxLen:Int)≤9223372036854775807:=by simp only[maxLen]; omega
 have hv:(execOp a.eval o).run P w= .ok (.value (.slice (some ⟨w.heap.size,0,none⟩) n.toNat n.toNat)) (w.alloc (.cells (madeCells z0.cells (n.toNat*info.size)) e)):=by
  have ex:=hs.int hx; have ey:=hs.int hy; have hrun:=run_make (P:=P) w t e info z0 hdt q1 q5 k k' n n h0 (Int.le_refl _) (by rw[q4]; exact hb) (by omega)
  obtain⟨dst,op,ty,pos,after,guard⟩:=o; simp only at ho; subst ho; simp only[execOp,ex,ey,Sem.run_bind,hrun,Result.andThen_ok,Sem.run_pure]
 refine⟨_,_,hv, .inl ⟨_,rfl,{ β:=g.β,own:=fun b=>if b=w.heap.size then .s d 0 0 else g.own b }, ?_⟩⟩
 rw[hd]; generalize hw':w.alloc (.cells (madeCells z0.cells (n.toNat*info.size)) e)=w'; have hold: ∀b,b<w.heap.size→w'.heap[b]? =w.heap[b]? :=by rw[←hw']; exact pH w _
 have hnew:w'.heap[w.heap.size]? =some (.cells (madeCells z0.cells (n.toNat*info.size)) e (0,0)):=by rw[←hw']; exact heap_alloc_new w _
 have hsz':w'.heap.size=w.heap.size+1:=by rw[←hw']; simp
 have hown: ∀b,b<w.heap.size→(if b=w.heap.size then Loc.s d 0 0 else g.own b)=g.own b:=fun b hb=>z11 (by omega)
 have hC:zW g w { β:=g.β,own:=fun b=>if b=w.heap.size then .s d 0 0 else g.own b } w' (fun _=>False) st:=by
  refine⟨⟨by omega,fun b hb _=>⟨hown b hb,hold b hb⟩⟩,fun _ h=>h.elim, .inl fun b hb=>⟨⟨by have:=hb.1; omega,fun o=>by show(if b=w.heap.size then Loc.s d 0 0 else g.own b)≠_; rw[hown b hb.1]; exact hb.2 o⟩,hold b hb.1⟩,by rw[←hw']; rfl,by rw[←hw']; rfl,by rw[←hw']; rfl,⟨fun b hb=> ?_⟩⟩
  have hb':(if b=w.heap.size then Loc.s d 0 0 else g.own b)≠ .none:=hb
  by_cases e:b=w.heap.size
  ·omega
  ·rw[z11 e]at hb'
   have:=hs.ok.own b hb'; omega
 refine hs.put hC (fun _=>rfl) hn (fun _ _ _ _ h=>h) ⟨⟨by simp,by simp⟩, ?_⟩ (fun h=>absurd rfl h)
 show Ow _ true w' (gQ ei.size) _ _ _; rw[sX q8]; refine .sl _ _ w.heap.size n.toNat n.toNat ei.size (madeCells z0.cells (n.toNat*info.size)) e _ (fun _=>(0,0)) (fun _ j=>z0.cells[j]!) (by simp) (by simp) hnew (by simp) (z59 _) (by omega) (fun i e' he'=> ?_) (by rw[size_madeCells,q3]) (fun i e' j x he' hx=> ?_) (fun i e' j x he' hx=> ?_)
 ·rw[z117]at he'
  split at he'<;>simp only[z9,reduceCtorEq]at he'
  subst he'; exact q7
 all_goals
  rw[z117]at he'
  split at he'<;>simp only[z9,reduceCtorEq]at he'
  rename_i hi; subst he'; have hj:j<ei.size:=by have:=cK hx; omega
  obtain⟨v,hv1,hv2⟩:=hz j x hx; have hzj:z0.cells[j]! =v:=by
   rw[z26]at hv1
   rw[getElem!_def,hv1]
 ·have hlt:=FR hi hj
  have hm:(i*ei.size+j) % z0.cells.size=j:=by rw[hzs,Nat.mul_comm,Nat.mul_add_mod]; exact Nat.mod_eq_of_lt hj
  simp only[madeCells,q3,Array.getElem?_map,Array.getElem?_range,hlt,if_true,z33,hm]
 ·rw[hzj]
  exact(rA hv2).2 _ _ _ _ _

def tA(fs:List (Nat×Nat×Bool)):List T→List (Nat×V)→Option (List T)
 | cs,[]=>some cs
 | cs,(i,v)::r=>match fs[i]?,aT v with
  | some (off,size,_),some xs=>if xs.length=size∧off+size≤cs.length then tA fs (cs.take off++xs++cs.drop (off+xs.length)) r else none
  | _,_=>none

def CU(fs:List (Nat×Nat×Bool)):(Nat→K)→List (Nat×(Nat→K))→Nat→K
 | κ,[]=>κ
 | κ,(i,q)::r=>match fs[i]? with
  | some (off,size,_)=>CU fs (fun j=>if off≤j∧j<off+size then q (j - off)else κ j) r
  | none=>κ

def CS(fs:List (Nat×Nat×Bool))(k:Nat)(ps:List (Nat×Operand)):Prop:= ∀p∈ps, ∀off size b,fs[p.1]? =some (off,size,b)→k<off∨off+size≤k

theorem EQ{g:G}{w:World}{fs:List (Nat×Nat×Bool)}{e:Array (Nat×Nat)}(M: ∀(i off size:Nat) b,fs[i]? =some (off,size,b)→e[i]? =some (off,size)){ρ:Operand→Value}{ρV:Operand→V}{ρK:Operand→Nat→K}{lab:Nat→Loc}
  (W: ∀x xs (l:Nat→Nat→Loc),aT (ρV x)=some xs→RV g w (fun _=>ρK x) l (ρ x) (ρV x)):
  ∀(ps:List (Nat×Operand)) (cs:List T) (a:Array Value) (κ:Nat→K) {rs:List T},tA fs cs (ps.map fun p=>(p.1,ρV p.2))=some rs→a.size=cs.length→(∀(j:Nat) x,cs[j]? =some x→ ∃c,a[j]? =some c∧nV c∧LF g w (κ j) (lab j) c x)→
  ∃B,Instr.fill (e[·]?) a (ps.map fun p=>(p.1,ρ p.2))=some B∧B.size=rs.length∧(∀(j:Nat) x,rs[j]? =some x→ ∃c,B[j]? =some c∧nV c∧LF g w (CU fs κ (ps.map fun p=>(p.1,ρK p.2)) j) (lab j) c x)∧
   (∀k,CS fs k ps→B[k]? =a[k]? ∧rs[k]? =cs[k]?)∧
   ∀(p i off size j:Nat) b x,ps[p]? =some (i,x)→fs[i]? =some (off,size,b)→j<size→CS fs (off+j) (ps.drop (p+1))→B[off+j]? =sG (ρ x) 0 j∧rs[off+j]? =(ρV x).leaf 0 j
 | [],cs,a,κ,rs,h,u,Q=>by
  simp only[Uc,tA,z9]at h; subst h; exact⟨a,rfl,u,Q,fun _ _=>⟨rfl,rfl⟩,fun p i off size j b x hx=>by simp at hx⟩
 | (i,x)::r,cs,a,κ,rs,h,u,Q=>by
  simp only[z54]at h; unfold tA at h; split at h
  ·rename_i off size b xs L H
   split at h
   ·rename_i z
    obtain⟨hl,z⟩:=z; subst hl; obtain⟨X,k2,k3,k4,_⟩:=iK (W x xs (fun _ j=>lab (off+j)) H) H
    have E:(ρ x).cells.toList.length=xs.length:=by simpa using X
    obtain⟨s1,s2⟩:=BM off (ρ x).cells.toList 0 a (by rw[E,u]; omega)
    have f:(ρ x).cells.zipIdx.foldl (fun cs (x:Value×Nat)=>cs.setIfInBounds (off+x.2) x.1) a=((ρ x).cells.toList.zipIdx 0).foldl (fun cs (x:Value×Nat)=>cs.setIfInBounds (off+x.2) x.1) a:=by
     rw[←Vy]; simp
    have m: ∀k,((ρ x).cells.zipIdx.foldl (fun cs (x:Value×Nat)=>cs.setIfInBounds (off+x.2) x.1) a)[k]? =if off≤k∧k<off+xs.length then(ρ x).cells[k - off]? else a[k]? :=by
     intro k; rw[f,s2 k,E]; simp only[z69,z26]
    have q:=fun k=>sB cs xs off z k
    obtain⟨B,f1,f2,Z,R,f5⟩:=EQ M W r (cs.take off++xs++cs.drop (off+xs.length)) ((ρ x).cells.zipIdx.foldl (fun cs (x:Value×Nat)=>cs.setIfInBounds (off+x.2) x.1) a) (fun j=>if off≤j∧j<off+xs.length then ρK x (j - off)else κ j) h
     (by rw[f,s1,u]; simp only[z32,z44,z65]; omega) (fun j y A=>by
      rw[q]at A; rw[m]; by_cases t:off≤j∧j<off+xs.length
      ·rw[z17 t]at A ⊢
       obtain⟨c,N,O,J⟩:=k2 _ y A; refine⟨c,N,O, ?_⟩
       rw[show off+(j - off)=j by omega]at J
       rw[z17 t]; exact J
      ·rw[z11 t]at A ⊢
       obtain⟨c,N,O,J⟩:=Q _ y A; exact⟨c,N,O,by rw[z11 t]; exact J⟩)
    refine⟨B, ?_,f2,fun j y A=> ?_,fun k U=> ?_,fun p i' I C j Y x' v s S D=> ?_⟩
    ·simp only[z54,Instr.fill,M i off xs.length b L,X]
     have F: ¬ (decide (off+xs.length > a.size)=true):=by simp; omega
     simp only[ne_eq,not_true_eq_false,decide_false,z56,F]; exact f1
    ·simp only[z54,CU,L]
     exact Z j y A
    ·have h1:=R k (fun p M=>U p (z23 _ M))
     have h2:=U (i,x) z27 off xs.length b L; rw[m,q,z11 (by omega),z11 (by omega)]at h1
     exact h1
    ·cases p with
     | zero=>
      simp only[z20,z9,z38]at v
      obtain⟨rfl,rfl⟩:=v; rw[L]at s; simp only[z9,z38]at s; obtain⟨rfl,rfl,rfl⟩:=s; have h1:=R (off+j) (by simpa using D)
      rw[m,q,z17 (by omega),z17 (by omega),z78]at h1
      rw[h1.1,h1.2,k3 j S,k4 j]; exact⟨rfl,rfl⟩
     | succ p=>
      simp only[z21]at v
      exact f5 p i' I C j Y x' v s S (by simpa using D)
   ·cases h
  ·cases h

theorem SA(hT:aX P τ){t:TypeId}{D:TI}{fs:List (Nat×Nat×Bool)}{c:Array (Nat×Operand)}{rs:List T}(M:List (Loc×Loc))(hd:o.dst=some d)(hn:d<st.n)(ho:o.op= .build t c)(ht:τ t=some D)(hk:D.kind= .struct fs)
  (hr:tA fs D.zero (c.toList.map fun p=>(p.1,ev st.sl p.2))=some rs)
  (hM: ∀m∈M, ∃(p i off size j C:Nat) (b:Bool),c.toList[p]? =some (i,Operand.tmp C)∧fs[i]? =some (off,size,b)∧j<size∧CS fs (off+j) (c.toList.drop (p+1))∧m=(.s C 0 j, .s d 0 (off+j))∧C≠d∧ ∃y,st.at (.s C 0 j)=some y):
  qD P g0 w0 o st ((st.put d (.one (.ag rs)) (fun _=>CU fs (DU D.zero) (c.toList.map fun p=>(p.1,opK st p.2 0)))).mvs M):=by
 intro a w ⟨g,Y⟩; obtain⟨info,dt,z,q1,q2,q3,q4,q5,q6,q7,q8,q9⟩:=hT.get ht; obtain⟨gs,V,K,B⟩:=EM hT (s:=t) (fs:=fs) (by unfold tk; rw[ht]; simp [hk])
 obtain⟨e,hz⟩:=jE q6; let k:Array (Nat×Nat):=gs.map fun f=>(f.offset,((P.info? f.type).map (·.size)).getD 0)
 have hp: ∀(i off size:Nat) b,fs[i]? =some (off,size,b)→k[i]? =some (off,size):=by
  intro i off size b U; obtain⟨gf,q,h1,R,S,h4,_⟩:=B i _ U; simp [k,h1,S,R,h4]
 have E:(gs.mapM fun f=>(do pure (f.offset, ←sizeOf f.type):Sem (Nat×Nat))).run P w= .ok k w:=by
  have gen: ∀(l:List Field),(∀f∈l, ∃q,P.info? f.type=some q)→(l.mapM fun f=>(do pure (f.offset, ←sizeOf f.type):Sem (Nat×Nat))).run P w= .ok (l.map fun f=>(f.offset,((P.info? f.type).map (·.size)).getD 0)) w:=by
   intro l; induction l with
   | nil=>intro _; rfl
   | cons f r ih=>
    intro h; obtain⟨q,J⟩:=h f z27; have Z:(sizeOf f.type).run P w= .ok q.size w:=by simp [sizeOf,typeInfo,J]
    rw[List.mapM_cons]; simp only[Sem.run_bind,Z,Result.andThen_ok,Sem.run_pure]; rw[ih (fun x L=>h x (z23 _ L))]
    simp [J]
  have h:=gen gs.toList (fun f U=>by
   obtain⟨i,J⟩:=z71 U
   have W:i<fs.length:=by have:=cK J; rw[←K]; simpa using this
   obtain⟨gf,q,h1,_,S,_⟩:=B i _ (z16 W)
   rw[←z26,J]at h1
   cases h1; exact⟨q,S⟩)
  rw[z137]; simp only[Sem.run_map,h,Result.andThen_ok]; congr 1
  apply Nd
  simp [k]
 obtain⟨rv,f1,f2,f3,_,f5⟩:=EQ (g:=g) (w:=w) (lab:=fun j=> .s d 0 j) hp (ρ:=a.eval) (ρV:=ev st.sl) (ρK:=fun x=>opK st x 0) (fun x xs l H=>by
  have h1:=Y.ev_rv x l; cases F:ev st.sl x with
  | one y=>rw[F]at h1; exact h1
  | tup ws=>rw[F]at H; simp [aT]at H) c.toList D.zero z.cells (DU D.zero) hr (by simpa using e) (fun j x L=>by
  obtain⟨v,F,H⟩:=hz j x L; obtain⟨c1,c2⟩:=rA H; refine⟨v,by simpa using F,(c1 (fun _=>False) w).not_agg, ?_⟩
  unfold DU jP; rw[L]; simp only; by_cases A:scal x=true
  ·rw[z17 A]; exact⟨A,c1 _ _⟩
  ·rw[z11 A]; exact BX H (by simpa using A))
 have F:(execOp a.eval o).run P w= .ok (.value (.agg rv)) w:=by
  obtain⟨dst,op,ty,pos,N,Q⟩:=o; simp only at ho; subst ho; have X:(c.map fun x=>(x.fst,a.eval x.snd)).toList=c.toList.map fun p=>(p.1,a.eval p.2):=by simp
  simp only[execOp,Instr.build,Sem.run_bind,zeroValue,typeInfo,run_program,Result.andThen_ok,q1,Sem.run_pure,q5,run_underlying V]; rw[E]; simp only[Result.andThen_ok]; rw[X,f1]; rfl
 refine⟨_,w,F, .inl ⟨_,rfl, ?_⟩⟩
 rw[hd]; have I:d<a.tmps.size:=by rw[Y.size]; exact hn
 have h1:=Y.set hn (u:= .agg rv) (r:= .one (.ag rs)) (κ:=fun _=>CU fs (DU D.zero) (c.toList.map fun p=>(p.1,opK st p.2 0))) ⟨rv,rfl,f2,f3⟩ (fun h=>absurd rfl h)
 obtain⟨g',_,R⟩:=h1.mvs M (fun m hm=>by
  obtain⟨p,i,off,size,j,C,b,e1,e2,e3,e4,rfl,O,y,hy⟩:=hM m hm; obtain⟨v1,v2⟩:=f5 p i off size j b _ e1 e2 e3 e4; have e7:(st.put d (.one (.ag rs)) (fun _=>CU fs (DU D.zero) (c.toList.map fun p=>(p.1,opK st p.2 0)))).at (.s C 0 j)=st.at (.s C 0 j):=at_put (by simp [aS,O])
  refine⟨rfl,rfl,by simp [O], ?_,⟨y,by rw[e7]; exact hy⟩, ?_⟩
  ·rw[pL,e7]
   exact v2
  ·rw[AY (l:= .s C 0 j) I (by simp [aS,O])]
   simp only[vAt]; rw[Act.put_getD a d _ _ I,z17 rfl]; exact v1)
 exact⟨g',R⟩
end

structure St.le (t s:St):Prop where
 n:t.n=s.n
 sl: ∀i,t.sl i= .one .junk∨t.sl i=s.sl i
 ob: ∀o,t.ob o=none∨t.ob o=s.ob o
 fl: ∀l x,t.at l=some x→(s.fl l).lo (t.fl l)=true
 cp: ∀i k xs,(t.sl i).comp k=some (.cp xs)→(s.fl (.s i k 0)).lo (t.fl (.s i k 0))=true
 pl: ∀i,aI (t.sl i)≠ .none→t.fl (.s i 0 0)≠ .D→s.fl (.s i 0 0)≠ .D∧ ∀y,s.at (aI (t.sl i))=some y→t.at (aI (t.sl i))=s.at (aI (t.sl i))∧(t.fl (aI (t.sl i))).hold=true

theorem bP.relax{g0:G}{w0:World}{s t:St}{a:Act}{g:G}{w:World}(h:bP g0 w0 s a g w)(d:t.le s):bP g0 w0 t a g w:=by
 refine⟨h.framed,h.ok,by rw[d.n]; exact h.size,h.defers,fun i=> ?_,fun o cells m=> ?_,fun i p B=> ?_,h.bp,by rw[d.n]; exact h.nle⟩
 ·rcases d.sl i with e | e
  ·rw[e]; trivial
  ·have L:=h.slots i
   have q: ∀k j x,(t.sl i).leaf k j=some x→t.at (.s i k j)=some x:=fun k j x f=>f
   have r:=d.cp i; rw[e]at q r ⊢; exact L.map (fun _=>rfl) (fun k j x u f Q _ B=>B.lo h.ok rfl (d.fl _ _ (q k j x f))) (fun k xs f b off m=>m.lo (r k xs f))
 ·rcases d.ob o with e | e
  ·rw[e]at m; cases m
  ·have A:s.ob o=some cells:=by rw[←e]; exact m
   obtain⟨z,ty,h1,I,J,K⟩:=h.obs o cells A; refine⟨z,ty,h1,I,J,fun j x f=> ?_⟩
   obtain⟨c,E,F,H⟩:=K j x f; refine⟨c,E,F,H.lo h.ok rfl (d.fl _ x ?_)⟩
   rw[St.at_oc,m]; exact f
 ·obtain⟨N,v⟩:=d.pl i p B
  rcases d.sl i with e | e
  ·rw[e]at p; exact absurd rfl p
  ·rw[e]at p v ⊢
   obtain⟨R,C⟩:=h.pls i p N; obtain⟨y,M⟩:=C.root p; obtain⟨O,P⟩:=v y M; refine⟨P, ?_⟩
   exact C.congr rfl O (fun _ _ _ _ _ _ _ h=>h)

theorem Sim.relax{g0:G}{w0:World}{s t:St}{a:Act}{w:World}(h:Sim g0 w0 s a w)(b:t.le s):Sim g0 w0 t a w:=by
 obtain⟨g,h⟩:=h; exact⟨g,h.relax b⟩

theorem qD.relax{P:Program}{g0:G}{w0:World}{o:Oper}{st s t:St}(h:qD P g0 w0 o st s)(c:t.le s):qD P g0 w0 o st t:=by
 intro a w d; obtain⟨r,w',h1,b⟩:=h a w d; refine⟨r,w',h1, ?_⟩
 rcases b with⟨v,e,b⟩ | ⟨e,b⟩
 ·exact .inl ⟨v,e,b.relax c⟩
 ·exact .inr ⟨e,b.relax c⟩

def mvK:List (Loc×Loc)→(Loc→K)→Loc→K
 | [],f=>f
 | (a,b)::r,f=>mvK r (fun m=>if m=b then f a else if m=a then(f a).cp else f m)

theorem Wb(M:List (Loc×Loc)): ∀(st:St),(st.mvs M).sl=st.sl:=by
 induction M with
 | nil=>intro st; rfl
 | cons m r ih=>intro st; exact(ih _).trans rfl

theorem Wc(M:List (Loc×Loc)): ∀(st:St),(st.mvs M).ob=st.ob:=by
 induction M with
 | nil=>intro st; rfl
 | cons m r ih=>intro st; exact(ih _).trans rfl

theorem We(M:List (Loc×Loc)): ∀(st:St),(st.mvs M).n=st.n:=by
 induction M with
 | nil=>intro st; rfl
 | cons m r ih=>intro st; exact(ih _).trans rfl

theorem Pa(M:List (Loc×Loc)): ∀ {f f':Loc→K} {l:Loc},f l=f' l→(∀m∈M,f m.1=f' m.1∧f m.2=f' m.2)→mvK M f l=mvK M f' l:=by
 induction M with
 | nil=>intro f f' l h _; exact h
 | cons m r ih=>
  intro f f' l h e; obtain⟨a,b⟩:=m; have j:f a=f' a:=(e (a,b) z27).1; have c: ∀m,f m=f' m→(if m=b then f a else if m=a then(f a).cp else f m)=(if m=b then f' a else if m=a then(f' a).cp else f' m):=fun m p=>by rw[j,p]
  exact ih (c l h) (fun q d=>by
   obtain⟨h1,g⟩:=e q (z23 _ d); exact⟨c _ h1,c _ g⟩)

theorem Wf(M:List (Loc×Loc)): ∀ {st:St} {l:Loc} {x:T},st.at l=some x→(∀m∈M,(∃y,st.at m.1=some y)∧(∃y,st.at m.2=some y))→(∀m∈M,m.1≠ .none∧m.2≠ .none)→(st.mvs M).fl l=mvK M st.fl l:=by
 induction M with
 | nil=>intro st l x _ _ _; rfl
 | cons m r ih=>
  intro st l x h g hn; obtain⟨a,b⟩:=m; have e:=hn (a,b) z27; have p:(fun m=>decide (m=a)||decide (m=b)) Loc.none=false:=by simp [Ne.symm e.1,Ne.symm e.2]
  have d: ∀m y,st.at m=some y→(st.mv a b).fl m=(if m=b then st.fl a else if m=a then(st.fl a).cp else st.fl m):=fun m y q=>xA p q
  rw[St.mvs,ih (st:=st.mv a b) (x:=x) h (fun f c=>g f (z23 _ c)) (fun f c=>hn f (z23 _ c))]
  refine Pa r (d l x h) (fun f c=> ?_)
  obtain⟨⟨u,h1⟩,⟨v,j⟩⟩:=g f (z23 _ c); exact⟨d _ u h1,d _ v j⟩

theorem Kw(M:List (Loc×Loc)): ∀ {st:St} {i k j:Nat},(∀m∈M,aI (st.sl i)≠m.1∧aI (st.sl i)≠m.2)→(∀m∈M,Loc.s i k j≠m.1∧Loc.s i k j≠m.2)→(st.mvs M).fl (.s i k j)=st.fl (.s i k j):=by
 induction M with
 | nil=>intro st i k j _ _; rfl
 | cons m r ih=>
  intro st i k j h1 p; obtain⟨a,b⟩:=m; rw[St.mvs,ih (st:=st.mv a b) (fun d c=>h1 d (z23 _ c)) (fun d c=>p d (z23 _ c))]
  obtain⟨e,f⟩:=h1 (a,b) z27; obtain⟨g,h⟩:=p (a,b) z27; simp only at e f g h; simp [St.mv,St.setf,e,f,g,h]

theorem Tp(M:List (Loc×Loc)): ∀ {f:Loc→K} {l:Loc},(∀m∈M,l≠m.1∧l≠m.2)→mvK M f l=f l:=by
 induction M with
 | nil=>intro f l _; rfl
 | cons m r ih=>
  intro f l h; obtain⟨a,b⟩:=m; obtain⟨d,e⟩:=h (a,b) z27; simp only at d e; rw[mvK,ih (fun g c=>h g (z23 _ c)),z11 e,z11 d]


structure D where
  sl:Nat→V
  ob:Un

def D.put(x:D)(d:Nat)(v:V):D:= { x with sl:=fun i=>if i=d then v else x.sl i }
def D.setO(x:D)(o:Nat)(cs:List T):D:= { x with ob:=fun a=>if a=o then some cs else x.ob a }
def D.at(x:D)(l:Loc):Option T:=atL x.sl x.ob l

def bO:W→W→Bool
  | .junk, .junk=>false
  | .c x, .c y=>tI x y
  | .ag xs, .ag ys=>iG xs ys
  | .ptr o p, .ptr g a=>Nat.beq o g&&Nat.beq p a
  | .cp xs, .cp ys=>iG xs ys
  | .pp l p _ j, .pp l' a _ e=>decide (l=l')&&Nat.beq p.length a.length&&Nat.beq j e
  | .al l p, .al l' a=>decide (l=l')&&Nat.beq p.length a.length
  | .nilp, .nilp=>true
  | .nilp, .ptr _ _=>true
  | .nilp, .cp _=>true
  | .ifc _, .ifc _=>true
  | .fn f cs, .fn f' d=>Nat.beq f f'&&decide (cs=d)
  | _,_=>false
def nT:List W→List W→Bool
  | [],[]=>true
  | x::xs,y::ys=>bO x y&&nT xs ys
  | _,_=>false
def fits:V→V→Bool
  | .one x, .one y=>bO x y
  | .tup xs, .tup ys=>nT xs ys
  | _,_=>false

structure FA where
  n:Nat
  sh:List V
  obs:List (Nat×List T)
  al:List Nat:=[]
  tk:List Nat:=[]
  dp:List Nat:=[]
  keep:List (Nat×List Nat):=[]
  fz:List Nat:=[]
  fx:List (Nat×Nat):=[]
  nw:List Nat:=[]
  n0:Option Nat:=none
  io:Option Nat:=none
  ioa:List Nat:=[]
  mks:List (Nat×List (Nat×Nat)):=[]
  lb:Option (List (List (List K))×List (List K)×Bool):=none

def dL{α:Type}(i:Nat):List (Nat×α)→Option α
  | []=>none
  | (j,a)::r=>bif Nat.beq i j then some a else dL i r

def FA.shOf(F:FA)(i:Nat):V:=match F.sh[i]? with | some v=>v | none=> .one .junk
def FA.obOf(F:FA)(o:Nat):List T:=match dL o F.obs with | some v=>v | none=> []

structure B where
  sl:List (Nat×List (List K))
  ob:List (Nat×List K)

def CI(κ:List (List K))(k j:Nat):Option K:=match κ[k]? with | some r=>r[j]? | none=>none
def B.get(b:B):Loc→Option K
  | .s i k j=>match dL i b.sl with | some κ=>CI κ k j | none=>none
  | .oc o j=>match dL o b.ob with | some r=>r[j]? | none=>none
  | _=>none
def B.kd(b:B)(l:Loc):K:=match b.get l with | some q=>q | none=> .D
def B.has(b:B)(i:Nat):Bool:=(dL i b.sl).isSome
def B.hasO(b:B)(o:Nat):Bool:=(dL o b.ob).isSome
def B.hasL(b:B):Loc→Bool
  | .s i _ _=>b.has i
  | .oc o _=>b.hasO o
  | _=>false

def B.S(n:Nat)(b:B)(x:D):St:=
  { n:=n
    sl:=fun i=>if b.has i then x.sl i else .one .junk
    ob:=fun o=>if b.hasO o then x.ob o else none
    fl:=b.kd }

structure Ag (F:FA) (b:B) (x:D):Prop where
  sl: ∀i,b.has i=true→x.sl i= .tup []∨fits (x.sl i) (F.shOf i)=true
  ob: ∀o,b.hasO o=true→ ∃cs,x.ob o=some cs∧iG cs (F.obOf o)=true

theorem zQ{α β:Type}(f:Nat→α→β)(i:Nat): ∀l:List (Nat×α),dL i (l.map fun p=>(p.1,f p.1 p.2))=(dL i l).map (f i)
  | []=>rfl
  | (j,a)::r=>by
    simp only[z54,dL]; cases h:Nat.beq i j with
    | true=>have:=z14 h; subst this; rfl
    | false=>exact zQ f i r

theorem eQ{α:Type}(p:Nat→Bool)(i:Nat): ∀l:List (Nat×α),dL i (l.filter fun q=>p q.1)=if p i=true then dL i l else none
  | []=>by simp [dL]
  | (j,a)::r=>by
    simp only[List.filter_cons]; by_cases c:p j=true
    · simp only[z17 c,dL]
      cases h:Nat.beq i j with
      | true=>have:=z14 h; subst this; simp [c]
      | false=>simpa using eQ p i r
    · simp only[z11 c,dL]
      rw[eQ p i r]; cases h:Nat.beq i j with
      | true=>have:=z14 h; subst this; simp [c]
      | false=>rfl

def vO(f:Nat→K→K):Nat→List K→List K
  | _,[]=> []
  | j,q::r=>f j q::vO f (j+1) r
def tC(f:Nat→Nat→K→K):Nat→List (List K)→List (List K)
  | _,[]=> []
  | k,q::r=>vO (f k) 0 q::tC f (k+1) r

theorem BS(f:Nat→K→K): ∀(l:List K) (a j:Nat),(vO f a l)[j]? =(l[j]?).map (f (a+j))
  | [],_,_=>by simp [vO]
  | q::r,a,0=>by simp [vO]
  | q::r,a,j+1=>by simp only[vO,z21]; rw[BS f r (a+1) j]; congr 2; omega

theorem EJ(f:Nat→Nat→K→K): ∀(l:List (List K)) (k0 k:Nat),(tC f k0 l)[k]? =(l[k]?).map (fun r=>vO (f (k0+k)) 0 r)
  | [],_,_=>by simp [tC]
  | q::r,k0,0=>by simp [tC]
  | q::r,k0,k+1=>by simp only[tC,z21]; rw[EJ f r (k0+1) k]; congr 2; funext; congr 2; omega

theorem Jn(f:Nat→Nat→K→K)(κ:List (List K))(k j:Nat):CI (tC f 0 κ) k j=(CI κ k j).map (f k j):=by
  simp only[CI,EJ,z30]; cases κ[k]? with
  | none=>rfl
  | some r=>simp only[z33,BS,z30]

def B.mapK(f:Loc→K→K)(b:B):B:=
  { sl:=b.sl.map fun p=>(p.1,tC (fun k j=>f (.s p.1 k j)) 0 p.2),ob:=b.ob.map fun p=>(p.1,vO (fun j=>f (.oc p.1 j)) 0 p.2) }

theorem HX(f:Loc→K→K)(b:B)(l:Loc):(b.mapK f).get l=(b.get l).map (f l):=by
  cases l with
  | s i k j=>
    simp only[B.get,B.mapK]; rw[zQ (fun i κ=>tC (fun k j=>f (.s i k j)) 0 κ)]
    cases dL i b.sl with
    | none=>rfl
    | some κ=>simp only[z33,Jn]
  | oc o j=>
    simp only[B.get,B.mapK]; rw[zQ (fun o r=>vO (fun j=>f (.oc o j)) 0 r)]
    cases dL o b.ob with
    | none=>rfl
    | some r=>simp only[z33,BS,z30]
  | _=>rfl

theorem Lz(f:Loc→K→K)(b:B)(i:Nat):(b.mapK f).has i=b.has i:=by
  simp only[B.has,B.mapK]; rw[zQ (fun i κ=>tC (fun k j=>f (.s i k j)) 0 κ)]
  cases dL i b.sl<;>rfl

theorem JB(f:Loc→K→K)(b:B)(o:Nat):(b.mapK f).hasO o=b.hasO o:=by
  simp only[B.hasO,B.mapK]; rw[zQ (fun o r=>vO (fun j=>f (.oc o j)) 0 r)]
  cases dL o b.ob<;>rfl

theorem Od(f:Loc→K→K)(b:B)(l:Loc):(b.mapK f).kd l=match b.get l with | some q=>f l q | none=> .D:=by
  simp only[B.kd,HX]; cases b.get l<;>rfl

def B.filt(p:Nat→Bool)(b:B):B:= { b with sl:=b.sl.filter fun q=>p q.1 }
theorem eU(p:Nat→Bool)(b:B)(i:Nat):(b.filt p).has i=(p i&&b.has i):=by
  simp only[B.has,B.filt]; rw[eQ p i b.sl]; cases p i<;>simp
theorem AI(p:Nat→Bool)(b:B)(o:Nat):(b.filt p).hasO o=b.hasO o:=rfl
theorem zV(p:Nat→Bool)(b:B)(l:Loc):(b.filt p).get l=match l with | .s i _ _=>if p i=true then b.get l else none | _=>b.get l:=by
  cases l with
  | s i k j=>
    simp only[B.get,B.filt]; rw[eQ p i b.sl]; by_cases h:p i=true
    · rw[z17 h,z17 h]
    · rw[z11 h,z11 h]
  | _=>rfl

theorem gN{p:Nat→Bool}{b:B}{i k j:Nat}(h:p i=true):(b.filt p).kd (.s i k j)=b.kd (.s i k j):=by
  simp only[B.kd,zV,z17 h]
theorem Gb{p:Nat→Bool}{b:B}{o j:Nat}:(b.filt p).kd (.oc o j)=b.kd (.oc o j):=by
  simp only[B.kd,zV]

def Qu(f:Nat→K):Nat→List T→List K
  | _,[]=> []
  | j,_::r=>f j::Qu f (j+1) r
def BH(f:Nat→K):W→List K
  | .ag xs=>Qu f 0 xs
  | _=> [f 0]
def Ac(f:Nat→Nat→K):Nat→List W→List (List K)
  | _,[]=> []
  | k,x::r=>BH (f k) x::Ac f (k+1) r
def qP(v:V)(f:Nat→Nat→K):List (List K):=match v with
  | .one w=> [BH (f 0) w]
  | .tup a=>Ac f 0 a

theorem CX(f:Nat→K): ∀(l:List T) (a j:Nat),(Qu f a l)[j]? =if j<l.length then some (f (a+j))else none
  | [],_,_=>by simp [Qu]
  | _::r,a,0=>by simp [Qu]
  | _::r,a,j+1=>by
    simp only[Qu,z21,z34]
    rw[CX f r (a+1) j,show a+1+j=a+(j+1)by omega]
    by_cases h:j<r.length
    · rw[z17 h,z17 (by omega)]
    · rw[z11 h,z11 (by omega)]

theorem yK(f:Nat→Nat→K): ∀(l:List W) (k0 k:Nat),(Ac f k0 l)[k]? =(l[k]?).map (BH (f (k0+k)))
  | [],_,_=>by simp [Ac]
  | x::r,k0,0=>by simp [Ac]
  | x::r,k0,k+1=>by simp only[Ac,z21]; rw[yK f r (k0+1) k,show k0+1+k=k0+(k+1)by omega]

theorem AK{xs ys:List T}(h:iG xs ys=true):xs.length=ys.length:=(sU h).1

theorem GV{x y:W}(h:bO x y=true)(f:Nat→K)(j:Nat):(∀t,x.leaf j=some t→(BH f y)[j]? =some (f j))∧(∀q,(BH f y)[j]? =some q→q=f j):=by
  have h1: ∀z:W,(∀ys,z≠ .ag ys)→BH f z=[f 0]:=by intro z hz; cases z<;>first | rfl | exact absurd rfl (hz _)
  have l: ∀q,[f 0][j]? =some q→q=f j:=by
    intro q d; cases j with
    | zero=>simpa using d.symm
    | succ j=>simp at d
  refine⟨fun t g=> ?_,fun q d=> ?_⟩
  · cases x with
    | c a=>
      cases y<;>simp [bO]at h
      cases j with
      | zero=>rfl
      | succ j=>simp [W.leaf]at g
    | ag xs=>
      cases y<;>simp [bO]at h
      simp only[BH,CX,z30]; rw[z17]; rw[←AK h]; exact cK g
    | _=>simp [W.leaf]at g
  · by_cases k: ∃ys,y= .ag ys
    · obtain⟨ys,rfl⟩:=k
      simp only[BH,CX,z30]at d; split at d<;>simp at d
      exact d.symm
    · rw[h1 y (fun ys e=>k ⟨ys,e⟩)]at d
      exact l q d

theorem BT: ∀ {xs ys:List W},nT xs ys=true→ ∀ {k:Nat} {x:W},xs[k]? =some x→ ∃y,ys[k]? =some y∧bO x y=true
  | [],_,_,_,_,h=>by simp at h
  | x::xs,[],h,_,_,_=>by simp [nT]at h
  | x::xs,y::ys,h,0,_,a=>by
    simp only[nT,z7]at h; simp only[z20,z9]at a
    subst a; exact⟨y,rfl,h.1⟩
  | x::xs,y::ys,h,k+1,_,a=>by
    simp only[nT,z7]at h; simp only[z21]at a ⊢
    exact BT h.2 a

theorem CC{v s:V}(h:fits v s=true)(f:Nat→Nat→K){k j:Nat}{x:T}(a:v.leaf k j=some x):CI (qP s f) k j=some (f k j):=by
  cases v with
  | one w=>
    cases s with
    | tup g=>simp [fits]at h
    | one y=>
      cases k with
      | succ k=>simp [V.leaf]at a
      | zero=>simp only[CI,qP,z20]; exact(GV h (f 0) j).1 x a
  | tup g=>
    cases s with
    | one y=>simp [fits]at h
    | tup ys=>
      simp only[V.leaf,z19]at a; obtain⟨w,d,a⟩:=a; obtain⟨y,e,c⟩:=BT h d; simp only[CI,qP,yK,z30,e,z33]; exact(GV c (f k) j).1 x a

theorem MK{xs:List T}{y:W}(h:bO (.cp xs) y=true): ∃ys,y= .cp ys:=by cases y<;>simp [bO]at h; exact⟨_,rfl⟩

theorem GW{v s:V}(h:fits v s=true)(f:Nat→Nat→K){k:Nat}{xs:List T}(a:v.comp k=some (.cp xs)):CI (qP s f) k 0=some (f k 0):=by
  cases v with
  | one w=>
    cases s with
    | tup e=>simp [fits]at h
    | one y=>
      cases k with
      | succ k=>simp [V.comp]at a
      | zero=>
        simp only[V.comp,z9]at a; subst a; obtain⟨ys,rfl⟩:=MK h; rfl
  | tup e=>
    cases s with
    | one y=>simp [fits]at h
    | tup ys=>
      simp only[V.comp]at a; obtain⟨y,d,c⟩:=BT h a; obtain⟨g,rfl⟩:=MK c; simp only[CI,qP,yK,z30,d,z33]; rfl

theorem eF{v s:V}(h:fits v s=true):aI v=aI s:=by
  cases v with
  | tup a=>cases s with
    | one y=>simp [fits]at h
    | tup ys=>rfl
  | one w=>
    cases s with
    | tup a=>simp [fits]at h
    | one y=>
      cases w<;>cases y<;>simp [fits,bO]at h<;>first | rfl | exact h.1 | exact h.1.1

theorem Jq{v s:V}(h:fits v s=true)(f:Nat→Nat→K)(a:aI v≠ .none):CI (qP s f) 0 0=some (f 0 0):=by
  rw[eF h]at a; cases s with
  | tup c=>exact absurd rfl a
  | one y=>cases y<;>first | rfl | exact absurd rfl a

theorem dP(q:K):q.lo q=true:=by cases q<;>simp [K.lo]
theorem Ic(q:K):q.lo .D=true:=by cases q<;>rfl
theorem lo_cp{a b:K}(h:a.lo b=true):a.cp.lo b.cp=true:=by
 cases a<;>cases b<;>simp_all [K.lo,K.cp]

structure Low (n:Nat) (b:B) (x:D) (s:St):Prop where
 n:s.n=n
 sl: ∀i,b.has i=true→s.sl i=x.sl i
 ob: ∀o,b.hasO o=true→s.ob o=x.ob o
 fl: ∀l t,b.hasL l=true→x.at l=some t→(s.fl l).lo (b.kd l)=true
 cp: ∀i k xs,b.has i=true→(x.sl i).comp k=some (.cp xs)→(s.fl (.s i k 0)).lo (b.kd (.s i k 0))=true
 al: ∀i,b.has i=true→aI (x.sl i)≠ .none→b.kd (.s i 0 0)≠ .D→s.fl (.s i 0 0)≠ .D

theorem Low.self(n:Nat)(b:B)(x:D):Low n b x (b.S n x):=
 ⟨rfl,fun i h=>by simp only[B.S]; rw[z17 h],fun o h=>by simp only[B.S]; rw[z17 h],fun _ _ _ _=>dP _,fun _ _ _ _ _=>dP _,fun _ _ _ h=>h⟩

theorem Sa{b:B}{l:Loc}(h:b.hasL l=false):b.kd l= .D:=by
 cases l with
 | s i k j=>
  simp only[B.hasL,B.has,z131,z84]at h; simp only[B.kd,B.get,h]
 | oc o j=>
  simp only[B.hasL,B.hasO,z131,z84]at h; simp only[B.kd,B.get,h]
 | _=>rfl

theorem S_at{n:Nat}{b:B}{x:D}{l:Loc}{t:T}(h:(b.S n x).at l=some t):b.hasL l=true∧x.at l=some t:=by
 cases l with
 | s i k j=>
  simp only[St.at,atL,B.S]at h; by_cases e:b.has i=true
  ·rw[z17 e]at h; exact⟨e,h⟩
  ·rw[z11 e]at h
   cases k with
   | zero=>simp [V.leaf,W.leaf]at h
   | succ k=>simp [V.leaf]at h
 | oc o j=>
  simp only[St.at,atL,B.S]at h; by_cases e:b.hasO o=true
  ·rw[z17 e]at h; exact⟨e,h⟩
  ·rw[z11 e]at h; simp at h
 | _=>simp [St.at,atL]at h

theorem Ig{n:Nat}{b:B}{x:D}{l:Loc}(h:b.hasL l=true):(b.S n x).at l=x.at l:=by
 cases l with
 | s i k j=>have h:b.has i=true:=h; simp only[St.at,D.at,atL,B.S]; rw[z17 h]
 | oc o j=>have h:b.hasO o=true:=h; simp only[St.at,D.at,atL,B.S]; rw[z17 h]
 | _=>cases h

def B.nrm(F:FA)(b:B):B:=b.filt fun i=>match aI (F.shOf i)with | .none=>true | l=>b.hasL l&&(b.kd l).hold

theorem Ag.filt{F:FA}{b:B}{x:D}(h:Ag F b x)(p:Nat→Bool):Ag F (b.filt p) x:=
 ⟨fun i a=>h.sl i (by rw[eU]at a; simp only[z7]at a; exact a.2),h.ob⟩

theorem Ag.nrm{F:FA}{b:B}{x:D}(h:Ag F b x):Ag F (b.nrm F) x:=h.filt _

theorem Ag.leaf_root{F:FA}{b:B}{x:D}(c:Ag F b x){i k j:Nat}{t:T}(d:b.has i=true)(a:(x.sl i).leaf k j=some t):aI (F.shOf i)= .none:=by
 rcases c.sl i d with e | e
 ·rw[e]at a
  cases k with
  | zero=>simp [V.leaf,W.leaf]at a
  | succ k=>simp [V.leaf]at a
 ·rw[←eF e]
  cases hv:x.sl i with
  | tup f=>rfl
  | one w=>
   cases k with
   | zero=>cases w<;>first | rfl | (rw[hv]at a; simp [V.leaf,W.leaf]at a)
   | succ k=>rw[hv]at a; simp [V.leaf]at a

def LZ(F:FA)(b:B)(i:Nat):Bool:=match aI (F.shOf i)with | .none=>true | l=>b.hasL l&&(b.kd l).hold

theorem xV(F:FA)(b:B):b.nrm F=b.filt (LZ F b):=rfl

theorem Dg{F:FA}{b:B}{i:Nat}(h:aI (F.shOf i)= .none):LZ F b i=true:=by simp only[LZ,h]
theorem PZ{F:FA}{b:B}{i:Nat}(h:aI (F.shOf i)≠ .none)(a:LZ F b i=true):b.hasL (aI (F.shOf i))=true∧(b.kd (aI (F.shOf i))).hold=true:=by
 unfold LZ at a; split at a
 ·rename_i e; exact absurd e h
 ·simpa using a

theorem Low.le{F:FA}{n:Nat}{b:B}{x:D}{s:St}(G:Ag F b x)(h:Low n b x s):((b.nrm F).S n x).le s:=by
 have a: ∀i,(b.nrm F).has i=true→b.has i=true∧LZ F b i=true:=fun i c=>by
  rw[xV,eU]at c; simpa [and_comm]using c
 have m: ∀o,(b.nrm F).hasO o=b.hasO o:=fun o=>rfl
 have f: ∀i k j,LZ F b i=true→(b.nrm F).kd (.s i k j)=b.kd (.s i k j):=fun i k j L=>by rw[xV]; exact gN L
 refine⟨h.n.symm,fun i=> ?_,fun o=> ?_,fun l t M=> ?_,fun i k xs v=> ?_,fun i c K=> ?_⟩
 ·simp only[B.S]
  by_cases e:(b.nrm F).has i=true
  ·rw[z17 e]; exact .inr (h.sl i (a i e).1).symm
  ·rw[z11 e]; exact .inl rfl
 ·simp only[B.S]
  by_cases e:(b.nrm F).hasO o=true
  ·rw[z17 e]; exact .inr (h.ob o (by rw[←m]; exact e)).symm
  ·rw[z11 e]; exact .inl rfl
 ·obtain⟨h1,u⟩:=S_at M
  show(s.fl l).lo ((b.nrm F).kd l)=true; cases l with
  | s i k j=>
   obtain⟨q,r⟩:=a i h1; rw[f i k j r]; exact h.fl _ t q u
  | oc o j=>exact h.fl (.oc o j) t h1 u
  | _=>exact Ic _
 ·simp only[B.S]at v
  by_cases e:(b.nrm F).has i=true
  ·rw[z17 e]at v
   obtain⟨q,r⟩:=a i e; show(s.fl (.s i k 0)).lo ((b.nrm F).kd (.s i k 0))=true; rw[f i k 0 r]; exact h.cp i k xs q v
  ·rw[z11 e]at v
   cases k<;>simp [V.comp]at v
 ·simp only[B.S]at c
  by_cases e:(b.nrm F).has i=true
  ·rw[z17 e]at c
   obtain⟨q,r⟩:=a i e; have A:b.kd (.s i 0 0)≠ .D:=by rw[←f i 0 0 r]; exact K
   have C:((b.nrm F).S n x).sl i=x.sl i:=by simp only[B.S]; rw[z17 e]
   have d:aI (x.sl i)=aI (F.shOf i):=by
    rcases G.sl i q with z | z
    ·rw[z]at c; exact absurd rfl c
    ·exact eF z
   obtain⟨r1,r2⟩:=PZ (by rw[←d]; exact c) r
   rw[←d]at r1 r2; rw[C]; refine⟨h.al i q c A,fun y H=> ?_⟩
   generalize N:aI (x.sl i)=l at r1 r2 H; cases l with
   | s g w p=>
    have h1:b.has g=true:=r1; have E:(x.sl g).leaf w p=some y:=by rw[←h.sl g h1]; exact H
    have u:LZ F b g=true:=Dg (G.leaf_root h1 E); have J:(b.nrm F).has g=true:=by rw[xV,eU,h1,u]; rfl
    refine⟨?_, ?_⟩
    ·rw[Ig (show(b.nrm F).hasL (.s g w p)=true from J),St.at_s,h.sl g h1]; rfl
    ·show((b.nrm F).kd (.s g w p)).hold=true
     rw[f g w p u]; exact r2
   | oc I p=>
    refine⟨?_,r2⟩
    rw[Ig (show(b.nrm F).hasL (.oc I p)=true from r1),St.at_oc,h.ob I r1]; rfl
   | _=>simp [B.hasL]at r1
  ·rw[z11 e]at c; exact absurd rfl c
end Go.Own
