/- A calculus for runs on plain data (part 1): whoever runs code on data, with its owners checked, runs the program. No conditions. -/
import Derived.Below
import Derived.Laws.AppendOwn
import Derived.Laws.BytesString
import Derived.Laws.Cells
import Derived.Laws.Entries
import Derived.Laws.MakeOwn
import Derived.Laws.OwnMore
import Derived.Laws.Pointers
import Derived.Laws.Rows
import Derived.Laws.Slices
import Derived.Laws.Small
import Derived.Laws.Strings
import Derived.Laws.StructEq
import Derived.Lib.AppendStr
import Derived.Orders
set_option linter.unusedVariables false
set_option linter.unusedSimpArgs false
set_option linter.unnecessarySimpa false
/- The data that Go's values stand for, and whose the memory is that they lie in. -/
namespace Go.Own
open Go.RowKit

/-- One cell's datum. A slice: its elements, each a list of cells. hole: nothing is told of it. -/
inductive T where
 | int (k:IntKind) (n:Int)
 | bool (b:Bool)
 | np
 | str (s:List UInt8)
 | sl (es:List (List T))
 | hole

/-- A place that holds a datum (a slot's component's cell, an object's cell), or an object. Also: whose a block is. -/
inductive Loc where
 | none
 | ext
 | s (i k j:Nat)
 | obj (o:Nat)
 | oc (o j:Nat)
 deriving DecidableEq

/-- What a slot holds (but for a tuple). pp, al: a cell, or a slice, inside what a place holds. -/
inductive W where
 | junk
 | c (x:T)
 | ag (xs:List T)
 | ptr (o off:Nat)
 | cp (xs:List T)
 | pp (l:Loc) (p:List (Nat×Nat)) (i j:Nat)
 | al (l:Loc) (p:List (Nat×Nat))
 | nilp
 | ifc (isNil:Bool)
 | fn (f:FuncId) (caps:List (Nat×Nat))

inductive V where
 | one (w:W)
 | tup (ws:List W)

/-- D: nothing is known of it (but of a scalar). V: it may be read, until something is turned. F: none turns it. A: the slice's own block is the place's (elements of s cells). U: all its blocks are the place's, each at one place of it. S: a scalar. N: an empty slice without memory. -/
inductive K where
 | D | V | F | A (s:Nat) | U (s:Nat) | S | N
 deriving DecidableEq

def K.hold:K→Bool
 | .A _=>true
 | .U _=>true
 | _=>false

structure G where
 β:Nat→Nat
 own:Nat→Loc

abbrev Sc:=Nat→Option (List T)

def scal:T→Bool
 | .sl _=>false
 | .hole=>false
 | _=>true

inductive Rd (P:Nat→Prop) (w:World):Value→T→Prop
 | hole (v:Value) (h1: ∀cs,v≠ .agg cs) (h2: ∀vs,v≠ .tuple vs):Rd P w v .hole
 | int (k:IntKind) (n:Int):Rd P w (.int k n) (.int k n)
 | bool (b:Bool):Rd P w (.bool b) (.bool b)
 | np:Rd P w (.pointer none) .np
 | str (s:ByteArray):Rd P w (.string s) (.str s.data.toList)
 | nil (a:Option Addr) (cap:Nat):Rd P w (.slice a 0 cap) (.sl [])
 | sl (b off len cap s:Nat) (es:List (List T)) (cs:Nat→Nat→Value) (hl:es.length=len) (hc:len≤cap) (hs: ∀(i:Nat) (e:List T),es[i]? =some e→e.length=s) (hP:P b)
   (hm: ∀(i:Nat) (e:List T) (j:Nat) (x:T),es[i]? =some e→e[j]? =some x→w.cell? ⟨b,off+i*s+j,none⟩=some (cs i j))
   (hr: ∀(i:Nat) (e:List T) (j:Nat) (x:T),es[i]? =some e→e[j]? =some x→Rd P w (cs i j) x):Rd P w (.slice (some ⟨b,off,none⟩) len cap) (.sl es)

theorem bY{w w':World}{b k:Nat}(h:w'.heap[b]? =w.heap[b]?):w'.cell? ⟨b,k,none⟩=w.cell? ⟨b,k,none⟩:=by simp [World.cell?,h]

theorem Rd.mono{P P':Nat→Prop}{w w':World}(hP: ∀b,P b→P' b∧w'.heap[b]? =w.heap[b]?){v:Value}{x:T}(h:Rd P w v x):Rd P' w' v x:=by
 induction h with
 | hole v h1 h2=>exact .hole v h1 h2
 | int k n=>exact .int k n
 | bool b=>exact .bool b
 | np=>exact .np
 | str s=>exact .str s
 | nil a cap=>exact .nil a cap
 | sl b off len cap s es cs hl hc hs hPb hm hr ih=>
  exact .sl b off len cap s es cs hl hc hs (hP b hPb).1 (fun i e j x h1 h2=>(bY (hP b hPb).2).trans (hm i e j x h1 h2)) ih

theorem Rd.weaken{P P':Nat→Prop}{w:World}(hP: ∀b,P b→P' b){v:Value}{x:T}(h:Rd P w v x):Rd P' w v x:=h.mono fun b hb=>⟨hP b hb,rfl⟩

/-- A scalar is read anywhere. -/
theorem Rd.scal{P P':Nat→Prop}{w w':World}{v:Value}{x:T}(h:Rd P w v x)(hx:scal x=true):Rd P' w' v x:=by
 cases h with
 | hole=>cases hx
 | int k n=>exact .int k n
 | bool b=>exact .bool b
 | np=>exact .np
 | str s=>exact .str s
 | nil a cap=>cases hx
 | sl=>cases hx

theorem Rd.not_agg{P:Nat→Prop}{w:World}{v:Value}{x:T}(h:Rd P w v x):(∀cs,v≠ .agg cs)∧ ∀vs,v≠ .tuple vs:=by
 cases h with
 | hole v h1 h2=>exact⟨h1,h2⟩
 | _=>exact⟨(by intro _ e; cases e),(by intro _ e; cases e)⟩

/-- What is its holder's: F the blocks that may be, Z the blocks that none turns, deep: all of it is the holder's; t: at the top, with the elements' size. -/
inductive Ow (Z:Nat→Prop) (deep:Bool) (w:World):Option Nat→(Nat→Prop)→Value→T→Prop
 | hole (t:Option Nat) (F:Nat→Prop) (v:Value) (h1: ∀cs,v≠ .agg cs) (h2: ∀vs,v≠ .tuple vs):Ow Z deep w t F v .hole
 | int (t:Option Nat) (F:Nat→Prop) (k:IntKind) (n:Int):Ow Z deep w t F (.int k n) (.int k n)
 | bool (t:Option Nat) (F:Nat→Prop) (b:Bool):Ow Z deep w t F (.bool b) (.bool b)
 | np (t:Option Nat) (F:Nat→Prop):Ow Z deep w t F (.pointer none) .np
 | str (t:Option Nat) (F:Nat→Prop) (s:ByteArray):Ow Z deep w t F (.string s) (.str s.data.toList)
 | nil (t:Option Nat) (F:Nat→Prop) (a:Option Addr):Ow Z deep w t F (.slice a 0 0) (.sl [])
 | frz (F:Nat→Prop) (v:Value) (x:T) (hd:deep=false) (h:Rd Z w v x):Ow Z deep w none F v x
 | sl (t:Option Nat) (F:Nat→Prop) (b len cap s:Nat) (arr:Array Value) (ty:TypeId) (es:List (List T)) (own:Nat→Nat×Nat) (cs:Nat→Nat→Value) (ht: ∀s0,t=some s0→s=s0) (hb:F b) (hh:w.heap[b]? =some (.cells arr ty (0,0))) (hl:es.length=len)
   (hc:len≤cap) (hcap:cap≤maxLen) (hs: ∀(i:Nat) (e:List T),es[i]? =some e→e.length=s) (ha:arr.size=cap*s)
   (hm: ∀(i:Nat) (e:List T) (j:Nat) (x:T),es[i]? =some e→e[j]? =some x→arr[i*s+j]? =some (cs i j))
   (hr: ∀(i:Nat) (e:List T) (j:Nat) (x:T),es[i]? =some e→e[j]? =some x→Ow Z deep w none (fun k=>F k∧k≠b∧own k=(i,j)) (cs i j) x):Ow Z deep w t F (.slice (some ⟨b,0,none⟩) len cap) (.sl es)

theorem Ow.mono{Z Z':Nat→Prop}{deep deep':Bool}{w w':World}{t:Option Nat}{F:Nat→Prop}{v:Value}{x:T}(h:Ow Z deep w t F v x)(hd:deep=false→deep'=false)(hZ:deep=false→ ∀b,Z b→Z' b∧w'.heap[b]? =w.heap[b]?):
  ∀ {F':Nat→Prop},(∀b,F b→F' b∧w'.heap[b]? =w.heap[b]?)→Ow Z' deep' w' t F' v x:=by
 induction h with
 | hole t F v h1 h2=>intro F' _; exact .hole t F' v h1 h2
 | int t F k n=>intro F' _; exact .int t F' k n
 | bool t F b=>intro F' _; exact .bool t F' b
 | np t F=>intro F' _; exact .np t F'
 | str t F s=>intro F' _; exact .str t F' s
 | nil t F a=>intro F' _; exact .nil t F' a
 | frz F v x h0 h=>intro F' _; exact .frz F' v x (hd h0) (h.mono (hZ h0))
 | sl t F b len cap s arr ty es own cs ht hb hh hl hc hcap hs ha hm hr ih=>
  intro F' hF
  exact .sl t F' b len cap s arr ty es own cs ht (hF b hb).1 ((hF b hb).2.trans hh) hl hc hcap hs ha hm (fun i e j x h1 h2=>ih i e j x h1 h2 (fun k hk=>⟨⟨(hF k hk.1).1,hk.2⟩,(hF k hk.1).2⟩))

theorem cI(w:World)(b k:Nat)(arr:Array Value)(ty:TypeId)(fz:Nat×Nat)(h:w.heap[b]? =some (.cells arr ty fz)):w.cell? ⟨b,k,none⟩=arr[k]? :=by simp [World.cell?,h]

/-- Read it. -/
theorem Ow.rd{Z:Nat→Prop}{deep:Bool}{w:World}{t:Option Nat}{F:Nat→Prop}{v:Value}{x:T}(h:Ow Z deep w t F v x): ∀ {P:Nat→Prop},(∀b,F b→P b)→(∀b,Z b→P b)→Rd P w v x:=by
 induction h with
 | hole t F v h1 h2=>intro P _ _; exact .hole v h1 h2
 | int t F k n=>intro P _ _; exact .int k n
 | bool t F b=>intro P _ _; exact .bool b
 | np t F=>intro P _ _; exact .np
 | str t F s=>intro P _ _; exact .str s
 | nil t F a=>intro P _ _; exact .nil a 0
 | frz F v x h0 h=>intro P _ hZ; exact h.weaken hZ
 | sl t F b len cap s arr ty es own cs ht hb hh hl hc hcap hs ha hm hr ih=>
  intro P hF hZ
  exact .sl b 0 len cap s es cs hl hc hs (hF b hb) (fun i e j x h1 h2=>by rw[Nat.zero_add,cI w b _ arr ty (0,0) hh]; exact hm i e j x h1 h2) (fun i e j x h1 h2=>ih i e j x h1 h2 (fun k hk=>hF k hk.1) hZ)

theorem Ow.sub{Z:Nat→Prop}{deep:Bool}{w:World}{n:Nat}{F:Nat→Prop}{v:Value}{x:T}(h:Ow Z deep w (some n) F v x):Ow Z deep w none F v x:=by
 cases h with
 | hole t F v h1 h2=>exact .hole none _ v h1 h2
 | int t F k n=>exact .int none _ k n
 | bool t F b=>exact .bool none _ b
 | np t F=>exact .np none _
 | str t F s=>exact .str none _ s
 | nil t F a=>exact .nil none _ a
 | sl t F b len cap s arr ty es own cs ht hb hh hl hc hcap hs ha hm hr=>exact .sl none _ b len cap s arr ty es own cs (by simp) hb hh hl hc hcap hs ha hm hr

theorem Ow.any{Z:Nat→Prop}{deep:Bool}{w:World}{t:Option Nat}{F:Nat→Prop}{v:Value}{x:T}(h:Ow Z deep w t F v x):Ow Z deep w none F v x:=by
 cases t with
 | none=>exact h
 | some n=>exact h.sub
theorem Rd.ow{P Z:Nat→Prop}{deep:Bool}{w w':World}{t:Option Nat}{F:Nat→Prop}{v:Value}{x:T}(h:Rd P w v x)(hx:Own.scal x=true):Ow Z deep w' t F v x:=by
 cases h with
 | hole=>cases hx
 | int k n=>exact .int t F k n
 | bool b=>exact .bool t F b
 | np=>exact .np t F
 | str s=>exact .str t F s
 | nil a cap=>cases hx
 | sl=>cases hx

/-- The blocks that none turns. -/
def frz(g:G)(w:World)(b:Nat):Prop:=b<w.heap.size∧g.own b= .none
def all(g:G)(w:World)(b:Nat):Prop:=b<w.heap.size∧ ∀o,g.own b≠ .obj o

def Loc.place:Loc→Bool
 | .s _ _ _=>true
 | .oc _ _=>true
 | _=>false

theorem Loc.place_ne{l:Loc}(h:l.place=true):l≠ .none∧l≠ .ext∧ ∀o,l≠ .obj o:=by
 cases l<;>first | (simp [Loc.place]at h; done) | exact⟨by simp,by simp,by simp⟩

theorem frz.all{g:G}{w:World}{b:Nat}(h:frz g w b):all g w b:=⟨h.1,fun o e=>by rw[h.2]at e; cases e⟩

/-- The elements' size, if it is known. -/
def gJ:Nat→Option Nat
 | 0=>none
 | s+1=>some (s+1)
theorem oO{s:Nat}(h:0<s):gJ s=some s:=by
 cases s with
 | zero=>omega
 | succ s=>rfl
/-- What a place of this kind owes. -/
def LF(g:G)(w:World)(κ:K)(l:Loc)(v:Value)(x:T):Prop:=
 match κ with
 | .D=>scal x=true→Rd (fun _=>False) w v x
 | .V=>Rd (all g w) w v x
 | .F=>Rd (frz g w) w v x
 | .A s=>Ow (frz g w) false w (some s) (fun b=>g.own b=l) v x
 | .U s=>Ow (frz g w) true w (gJ s) (fun b=>g.own b=l) v x
 | .S=>scal x=true∧Rd (fun _=>False) w v x
 | .N=>x= .sl []∧ ∃a,v= .slice a 0 0

structure GOk (g:G) (w:World):Prop where
 own: ∀b,g.own b≠ .none→b<w.heap.size

theorem LF.scal{g g':G}{w w':World}{κ κ':K}{l l':Loc}{v:Value}{x:T}(h:LF g w κ l v x)(hx:Own.scal x=true)(hn:κ'≠ .N:=by simp):LF g' w' κ' l' v x:=by
 have h1:Rd (fun _=>False) w v x:=by
  cases κ with
  | D=>exact h hx
  | V=>exact Rd.scal h hx
  | F=>exact Rd.scal h hx
  | A n=>exact(Ow.rd h (P:=fun _=>True) (fun _ _=>trivial) (fun _ _=>trivial)).scal hx
  | U n=>exact(Ow.rd h (P:=fun _=>True) (fun _ _=>trivial) (fun _ _=>trivial)).scal hx
  | S=>exact h.2
  | N=>obtain⟨rfl,_⟩:=h; cases hx
 cases κ' with
 | D=>exact fun _=>h1.scal hx
 | V=>exact Rd.scal h1 hx
 | F=>exact Rd.scal h1 hx
 | A n=>exact h1.ow hx
 | U n=>exact h1.ow hx
 | S=>exact⟨hx,h1.scal hx⟩
 | N=>exact absurd rfl hn

/-- Where a holder's blocks are there. -/
theorem LF.rd{g:G}{w:World}{κ:K}{l:Loc}{v:Value}{x:T}(hok:GOk g w)(hl:l.place=true)(h:LF g w κ l v x)(hk:κ≠ .D):Rd (all g w) w v x:=by
 have hF: ∀b,g.own b=l→all g w b:=fun b hb=>⟨hok.own b (fun e=>(Loc.place_ne hl).1 (hb.symm.trans e)),fun o e=>(Loc.place_ne hl).2.2 o (hb.symm.trans e)⟩
 cases κ with
 | D=>exact absurd rfl hk
 | V=>exact h
 | F=>exact Rd.weaken (fun b hb=>hb.all) h
 | A n=>exact Ow.rd h hF (fun b hb=>hb.all)
 | U n=>exact Ow.rd h hF (fun b hb=>hb.all)
 | S=>exact h.2.scal h.1
 | N=>obtain⟨rfl,a,rfl⟩:=h; exact .nil _ _

/-- A kind's copy. -/
def K.cp:K→K
 | .D=> .D
 | .V=> .V
 | .F=> .F
 | .A _=> .V
 | .U _=> .V
 | .S=> .S
 | .N=> .N

theorem LF.cp{g:G}{w:World}{κ:K}{l l':Loc}{v:Value}{x:T}(hok:GOk g w)(hl:l.place=true)(h:LF g w κ l v x):LF g w κ.cp l' v x:=by
 cases κ with
 | D=>exact h
 | V=>exact h
 | F=>exact h
 | A n=>exact h.rd hok hl (by simp)
 | U n=>exact h.rd hok hl (by simp)
 | S=>exact h
 | N=>exact h

/-- From (g, w) to (g', w'): what is not X's stays whose it was, and as it was. -/
structure Evo (g:G) (w:World) (g':G) (w':World) (X:Loc→Prop):Prop where
 size:w.heap.size≤w'.heap.size
 keep: ∀b,b<w.heap.size→ ¬ X (g.own b)→g'.own b=g.own b∧w'.heap[b]? =w.heap[b]?

theorem Evo.refl(g:G)(w:World)(X:Loc→Prop):Evo g w g w X:=⟨Nat.le_refl _,fun _ _ _=>⟨rfl,rfl⟩⟩
theorem Evo.mono{g g':G}{w w':World}{X Y:Loc→Prop}(h:Evo g w g' w' X)(hX: ∀l,X l→Y l):Evo g w g' w' Y:=⟨h.size,fun b hb hy=>h.keep b hb (fun hx=>hy (hX _ hx))⟩
theorem Evo.trans{g0 g1 g2:G}{w0 w1 w2:World}{X:Loc→Prop}(h:Evo g0 w0 g1 w1 X)(k:Evo g1 w1 g2 w2 X):Evo g0 w0 g2 w2 X:=by
 refine⟨Nat.le_trans h.size k.size,fun b hb hx=> ?_⟩
 obtain⟨h1,h2⟩:=h.keep b hb hx
 obtain⟨k1,k2⟩:=k.keep b (Nat.lt_of_lt_of_le hb h.size) (by rw[h1]; exact hx)
 exact⟨k1.trans h1,k2.trans h2⟩

theorem LF.evo{g g':G}{w w':World}{X:Loc→Prop}{κ:K}{l:Loc}{v:Value}{x:T}(hE:Evo g w g' w' X)(hok:GOk g w)(hl:l≠ .none)(hn: ¬ X .none)(ho:κ.hold=true→ ¬ X l)(hV:κ= .V→ ∀b,all g w b→all g' w' b∧w'.heap[b]? =w.heap[b]?)
  (h:LF g w κ l v x):LF g' w' κ l v x:=by
 have hZ: ∀b,frz g w b→frz g' w' b∧w'.heap[b]? =w.heap[b]? :=fun b hb=>by
  obtain⟨h1,h2⟩:=hE.keep b hb.1 (by rw[hb.2]; exact hn)
  exact⟨⟨Nat.lt_of_lt_of_le hb.1 hE.size,h1.trans hb.2⟩,h2⟩
 have hF: ¬ X l→ ∀b,g.own b=l→g'.own b=l∧w'.heap[b]? =w.heap[b]? :=fun hx b hb=>by
  have hb2:b<w.heap.size:=hok.own b (fun e=>hl (hb.symm.trans e))
  obtain⟨h1,h2⟩:=hE.keep b hb2 (by rw[hb]; exact hx)
  exact⟨h1.trans hb,h2⟩
 cases κ with
 | D=>exact fun hx=>(h hx).scal hx
 | V=>exact Rd.mono (hV rfl) h
 | F=>exact Rd.mono hZ h
 | A n=>exact Ow.mono h id (fun _=>hZ) (hF (ho rfl))
 | U n=>exact Ow.mono h id (fun _=>hZ) (hF (ho rfl))
 | S=>exact⟨h.1,h.2.scal h.1⟩
 | N=>exact h

/-- What is l's is l''s now. -/
theorem LF.moved{g g':G}{w:World}{κ:K}{l l':Loc}{v:Value}{x:T}(hF: ∀b,g.own b=l→g'.own b=l')(hZ: ∀b,g.own b= .none→g'.own b= .none)(hA: ∀b,all g w b→all g' w b)(h:LF g w κ l v x):LF g' w κ l' v x:=by
 have hZ': ∀b,frz g w b→frz g' w b∧w.heap[b]? =w.heap[b]? :=fun b hb=>⟨⟨hb.1,hZ b hb.2⟩,rfl⟩
 cases κ with
 | D=>exact h
 | V=>exact Rd.weaken hA h
 | F=>exact Rd.mono hZ' h
 | A n=>exact Ow.mono h id (fun _=>hZ') (fun b hb=>⟨hF b hb,rfl⟩)
 | U n=>exact Ow.mono h id (fun _=>hZ') (fun b hb=>⟨hF b hb,rfl⟩)
 | S=>exact h
 | N=>exact h

/-- Shut to turning: what was l's is nobody's. -/
theorem LF.freeze{g g':G}{w:World}{κ:K}{l l':Loc}{v:Value}{x:T}(hok:GOk g w)(hl:l≠ .none)(hk:κ≠ .D∧κ≠ .V)(hF: ∀b,g.own b=l→g'.own b= .none)(hZ: ∀b,g.own b= .none→g'.own b= .none)(h:LF g w κ l v x):LF g' w .F l' v x:=by
 have hF': ∀b,g.own b=l→frz g' w b:=fun b hb=>⟨hok.own b (fun e=>hl (hb.symm.trans e)),hF b hb⟩
 have hZ': ∀b,frz g w b→frz g' w b:=fun b hb=>⟨hb.1,hZ b hb.2⟩
 cases κ with
 | A n=>exact Ow.rd h hF' hZ'
 | U n=>exact Ow.rd h hF' hZ'
 | F=>exact Rd.weaken hZ' h
 | S=>exact Rd.scal h.2 h.1
 | N=>obtain⟨rfl,a,rfl⟩:=h; exact .nil _ _
 | D=>simp at hk
 | V=>simp at hk
end Go.Own

/- What operations come to, on data. -/
namespace Go.Own
open Go.RowKit

/-- What is known of a type. -/
inductive TK where
  | other | int (k:IntKind) | bool | str | ptr | ifc | sl (e:TypeId) | arr (n:Nat) (e:TypeId)
  | struct (fs:List (Nat×Nat×Bool))
structure TI where
  agg:Bool
  size:Nat
  bytes:Nat
  zero:List T
  kind:TK
  cmp:Bool:=false

def vQ:Value→Option T
  | .int k n=>some (.int k n)
  | .bool b=>some (.bool b)
  | .string s=>some (.str s.data.toList)
  | .slice none 0 0=>some (.sl [])
  | .pointer none=>some .np
  | _=>none

def uS:List Value→Option (List T)
  | []=>some []
  | v::r=>match vQ v,uS r with
    | some x,some xs=>some (x::xs)
    | _,_=>none

def bI:Value→V
  | .agg cs=>match uS cs.toList with | some xs=> .one (.ag xs) | none=> .one .junk
  | .pointer none=> .one .nilp
  | .nilIface=> .one (.ifc true)
  | v=>match vQ v with | some x=> .one (.c x) | none=> .one .junk

def QQ(P:Program):TK→TypeDesc→Prop
  | .other,_=>True
  | .int k,d=>d= .int k
  | .bool,d=>d= .bool
  | .str,d=>d= .string
  | .ptr,d=> ∃e,d= .pointer e
  | .ifc,d=> ∃ms,d= .interface ms
  | .sl e,d=>d= .slice e
  | .arr n e,d=>d= .array n e
  | .struct fs,d=> ∃gs,d= .struct gs∧gs.size=fs.length∧ ∀(j:Nat) f,fs[j]? =some f→ ∃g i,gs[j]? =some g∧g.offset=f.1∧P.info? g.type=some i∧i.size=f.2.1∧f.2.1≠0∧
      f.2.2=(match P.underlying g.type with | some (.struct _)=>true | some (.array _ _)=>true | _=>false)∧(P.underlying g.type).isSome

/-- Structs of scalars that may be held against each other. -/
def CmpOk(P:Program)(t:TypeId)(zs:List T):Prop:=P.eqGuardType P.depth t=false∧P.stoodInHeld t=false∧ ∃gs,P.underlying t=some (.struct gs)∧gs.size=zs.length∧ ∀(j:Nat) g,gs[j]? =some g→g.name≠ "_" ∧g.offset=j∧
  (match zs[j]? with | some (.int k _)=>P.underlying g.type=some (.int k) | some (.bool _)=>P.underlying g.type=some .bool | some (.str _)=>P.underlying g.type=some .string | _=>False)
/-- The table τ tells P's types as they are. -/
def bC(P:Program)(τ:TypeId→Option TI):Prop:= ∀t i,τ t=some i→ ∃info d z,P.info? t=some info∧P.underlying t=some d∧info.size=i.size∧info.bytes=i.bytes∧info.zero=some z∧
  uS z.cells.toList=some i.zero∧i.zero.length=i.size∧0<i.size∧i.agg=(match d with | .struct _=>true | .array _ _=>true | _=>false)∧QQ P i.kind d∧(i.cmp=true→CmpOk P t i.zero)

def tk(τ:TypeId→Option TI)(t:TypeId):Option TK:=(τ t).map (fun i=>i.kind)

def ev(sl:Nat→V):Operand→V
  | .tmp t=>sl t
  | .const v=>bI v
  | .func f=> .one (.fn f [])
  | .global _=> .one .junk

theorem oT{v:Value}{x:T}(h:vQ v=some x):(∀P w,Rd P w v x)∧(∀Z d w t F,Ow Z d w t F v x):=by
  unfold vQ at h
  split at h<;>simp only[Option.some.injEq,reduceCtorEq]at h<;>subst h
  · exact⟨fun _ _=> .int _ _,fun _ _ _ _ _=> .int _ _ _ _⟩
  · exact⟨fun _ _=> .bool _,fun _ _ _ _ _=> .bool _ _ _⟩
  · exact⟨fun _ _=> .str _,fun _ _ _ _ _=> .str _ _ _⟩
  · exact⟨fun _ _=> .nil _ _,fun _ _ _ _ _=> .nil _ _ _⟩
  · exact⟨fun _ _=> .np,fun _ _ _ _ _=> .np _ _⟩

theorem jB: ∀ {l:List Value} {xs:List T},uS l=some xs→l.length=xs.length∧ ∀(j:Nat) x,xs[j]? =some x→ ∃v,l[j]? =some v∧vQ v=some x
  | [],xs,h=>by simp only[uS,Option.some.injEq]at h; subst h; simp
  | v::r,xs,h=>by
    simp only[uS]at h
    split at h
    · rename_i x xs' h1 h2
      simp only[Option.some.injEq]at h
      subst h
      obtain⟨e,g⟩:=jB h2
      refine⟨by simp [e],fun j y hy=> ?_⟩
      cases j with
      | zero=>simp only[List.getElem?_cons_zero,Option.some.injEq]at hy; subst hy; exact⟨v,by simp,h1⟩
      | succ j=>simp only[List.getElem?_cons_succ]at hy ⊢; exact g j y hy
    · cases h

/-! ### scalars -/
def OD(op:BinOp)(k:IntKind)(a b:Int):Option T:=
  match op with
  | .add=>some (.int k (k.wrap (a+b)))
  | .sub=>some (.int k (k.wrap (a - b)))
  | .mul=>some (.int k (k.wrap (a*b)))
  | .quo=>if b=0 then none else some (.int k (k.wrap (a.tdiv b)))
  | .rem=>if b=0 then none else some (.int k (a.tmod b))
  | .and=>some (.int k (bits .and k a b))
  | .or=>some (.int k (bits .or k a b))
  | .xor=>some (.int k (bits .xor k a b))
  | .eql=>some (.bool (decide (a=b)))
  | .neq=>some (.bool !decide (a=b))
  | .lss=>some (.bool (decide (a<b)))
  | .leq=>some (.bool (decide (a≤b)))
  | .gtr=>some (.bool (decide (b<a)))
  | .geq=>some (.bool (decide (b≤a)))
  | _=>none

def Kv(x y:List UInt8):Bool:=Op.bytesLess x y

def Sk(op:BinOp)(x y:List UInt8):Option T:=
  match op with
  | .add=>if x.length+y.length≤9223372036854775807 then some (.str (x++y))else none
  | .eql=>some (.bool (decide (x=y)))
  | .neq=>some (.bool !decide (x=y))
  | .lss=>some (.bool (Kv x y))
  | .leq=>some (.bool (Kv x y||decide (x=y)))
  | .gtr=>some (.bool !(Kv x y||decide (x=y)))
  | .geq=>some (.bool !(Kv x y))
  | _=>none

def Hu(op:BinOp)(b:Bool):Option T:=
  match op with
  | .eql=>some (.bool b)
  | .neq=>some (.bool !b)
  | _=>none

/-- Two data that are no slices, held against each other. -/
def eqT:T→T→Option Bool
  | .int k a, .int k' b=>if k=k' then some (decide (a=b))else none
  | .bool a, .bool b=>some (a == b)
  | .str a, .str b=>some (decide (a=b))
  | _,_=>none
def JT:List T→List T→Option Bool
  | [],[]=>some true
  | x::r,y::q=>match eqT x y,JT r q with
    | some a,some b=>some (a&&b)
    | _,_=>none
  | _,_=>none

def cmpZ(τ:TypeId→Option TI)(t:TypeId):Option (List T):=match τ t with
  | some i=>bif i.cmp then some i.zero else none
  | none=>none
def Nr(τ:TypeId→Option TI)(op:BinOp)(t:TypeId)(x y:V):Option T:=
  match x,y with
  | .one (.c (.int k a)), .one (.c (.int k' b))=>
    match op with
    | .shl=>if 0≤b then some (.int k (k.wrap (a*2 ^ min b.toNat k.bits)))else none
    | .shr=>if 0≤b then some (.int k (a.fdiv (2 ^ min b.toNat k.bits)))else none
    | _=>if k=k' then OD op k a b else none
  | .one (.c (.str a)), .one (.c (.str b))=>Sk op a b
  | .one (.c (.bool a)), .one (.c (.bool b))=>match tk τ t with | some .bool=>Hu op (a == b) | _=>none
  | .one .nilp, .one .nilp=>match tk τ t with | some .ptr=>Hu op true | _=>none
  | .one (.cp _), .one .nilp=>match tk τ t with | some .ptr=>Hu op false | _=>none
  | .one (.ptr _ _), .one .nilp=>match tk τ t with | some .ptr=>Hu op false | _=>none
  | .one (.ifc b), .one (.ifc true)=>match tk τ t with | some .ifc=>Hu op b | _=>none
  | .one (.ag xs), .one (.ag ys)=>match cmpZ τ t with
    | some zs=>(match JT xs zs,JT xs ys with | some _,some b=>Hu op b | _,_=>none)
    | none=>none
  | _,_=>none

/-- A value that an operation reads: what it is, where all its memory is P's. -/
def RP(P:Nat→Prop)(β:Nat→Nat)(w:World)(v:Value):V→Prop
  | .one (.c x)=>Rd P w v x
  | .one (.ptr o off)=>v= .pointer (some ⟨β o,off,none⟩)
  | .one (.cp xs)=> ∃b off,v= .pointer (some ⟨b,off,none⟩)∧P b∧ ∀(j:Nat) x,xs[j]? =some x→ ∃c,w.cell? ⟨b,off+j,none⟩=some c∧Rd P w c x
  | .one .nilp=>v= .pointer none
  | .one (.ag xs)=> ∃cs:Array Value,v= .agg cs∧ ∀(j:Nat) x,xs[j]? =some x→scal x=true→ ∃c,cs[j]? =some c∧Rd P w c x
  | .one (.ifc b)=>if b then v= .nilIface else ∃d u,v= .iface d u
  | _=>True

theorem tK{P:Nat→Prop}{β:Nat→Nat}{w:World}{v:Value}{k:IntKind}{n:Int}(h:RP P β w v (.one (.c (.int k n)))):v= .int k n:=by have h:Rd P w v _:=h; cases h; rfl
theorem IB{P:Nat→Prop}{β:Nat→Nat}{w:World}{v:Value}{b:Bool}(h:RP P β w v (.one (.c (.bool b)))):v= .bool b:=by have h:Rd P w v _:=h; cases h; rfl
theorem DW{P:Nat→Prop}{β:Nat→Nat}{w:World}{v:Value}{s:List UInt8}(h:RP P β w v (.one (.c (.str s)))): ∃a:ByteArray,v= .string a∧a.data.toList=s:=by have h:Rd P w v _:=h; cases h; exact⟨_,rfl,rfl⟩

theorem kE{P:Program}{τ:TypeId→Option TI}(hT:bC P τ){t:TypeId}{k:TK}(h:tk τ t=some k): ∃d,P.underlying t=some d∧QQ P k d:=by
  obtain⟨i,hi,rfl⟩:=Option.map_eq_some_iff.1 h
  obtain⟨_,d,_,_,h2,_,_,_,_,_,_,_,h9,_⟩:=hT t i hi
  exact⟨d,h2,h9⟩

theorem iT{P:Program}{w:World}{op:BinOp}{t:TypeId}{xo yo:Operand}{x y:Value}(h:(∀cs,x≠ .agg cs)∧x≠ .nilIface):(eqGuard op t xo yo x y).run P w= .ok () w:=by
  have e:eqGuard op t xo yo x y=pure ():=by
    cases x<;>first | exact absurd rfl (h.1 _) | exact absurd rfl h.2 | (unfold eqGuard; cases op<;>rfl)
  rw[e]; rfl

theorem Mk(a b:List UInt8):(a == b)=decide (a=b):=by
  rw[Bool.eq_iff_iff]; simp

theorem JA{P:Program}{w:World}{t:TypeId}{ms:Array (String×TypeId)}{x:Value}{b:Bool}(n:Nat)(hd:P.underlying t=some (.interface ms))(hx:(x= .nilIface∧b=true)∨(∃d u,x= .iface d u)∧b=false):(Op.equalIn (n+1) t x .nilIface).run P w= .ok b w:=by
  rcases hx with⟨rfl,rfl⟩ | ⟨⟨d,u,rfl⟩,rfl⟩<;>simp only[Op.equalIn,Sem.run_bind,run_underlying hd,Result.andThen_ok,Sem.run_pure]

theorem Km{α:Type}{b:Bool}{a c:α}(h:(bif b then some a else none)=some c):b=true∧a=c:=by
  cases b with
  | true=>exact⟨rfl,Option.some.inj h⟩
  | false=>cases h
theorem SB{P:Program}{Q:Nat→Prop}{w:World}{d:Nat}{ty:TypeId}{c c':Value}{x y z:T}{r q:Bool}(hx:Rd Q w c x)(hy:Rd Q w c' y)(hz:eqT x z=some q)(h:eqT x y=some r)
    (hu:match(some z:Option T)with | some (.int k _)=>P.underlying ty=some (.int k) | some (.bool _)=>P.underlying ty=some .bool | some (.str _)=>P.underlying ty=some .string | _=>False):(Op.equalIn (d+1) ty c c').run P w= .ok r w∧(∀b,(isAgg ty).run P w= .ok b w→b=false)∧(isAgg ty).run P w= .ok false w:=by
  have ha: ∀dd,P.underlying ty=some dd→(∀fs,dd≠ .struct fs)→(∀n e,dd≠ .array n e)→(isAgg ty).run P w= .ok false w:=fun dd h1 h2 h3=>by
    simp only[isAgg,Sem.run_bind,run_underlying h1,Result.andThen_ok]
    cases dd<;>first | rfl | exact absurd rfl (h2 _) | exact absurd rfl (h3 _ _)
  have fin:(isAgg ty).run P w= .ok false w→(∀b,(isAgg ty).run P w= .ok b w→b=false)∧(isAgg ty).run P w= .ok false w:=fun h=>⟨fun b hb=>by rw[h]at hb; cases hb; rfl,h⟩
  cases x<;>cases z<;>simp only[eqT,reduceCtorEq]at hz<;>cases y<;>simp only[eqT,reduceCtorEq]at h
  · rename_i k a k1 a1 k2 a2
    split at hz<;>cases hz
    split at h<;>cases h
    rename_i e1 e2
    subst e1 e2
    cases hx; cases hy
    exact⟨by rw[run_equalIn_int w d ty k k a a2 hu]; rfl,fin (ha _ hu (by simp) (by simp))⟩
  · cases h
    cases hx; cases hy
    exact⟨run_equalIn_bool' w d ty _ _ hu,fin (ha _ hu (by simp) (by simp))⟩
  · cases h
    cases hx; cases hy
    refine⟨?_,fin (ha _ hu (by simp) (by simp))⟩
    rw[run_equalIn_string w d ty _ _ hu,ByteArray.toList_eq,ByteArray.toList_eq,Mk]
theorem Mf{P:Program}{Q:Nat→Prop}{w:World}{d:Nat}{cs ds:Array Value}{gs:Array Field}{zs:List T}(hg: ∀(j:Nat) g,gs[j]? =some g→g.name≠ "_" ∧g.offset=j∧
    (match zs[j]? with | some (.int k _)=>P.underlying g.type=some (.int k) | some (.bool _)=>P.underlying g.type=some .bool | some (.str _)=>P.underlying g.type=some .string | _=>False)):
    ∀(l:List Field) (xs ys us:List T) (j:Nat) (r q:Bool),(∀k,l[k]? =gs[j+k]?)→us=zs.drop j→l.length=us.length→JT xs us=some q→JT xs ys=some r→(∀(k:Nat) x,xs[k]? =some x→scal x=true→ ∃c,cs[j+k]? =some c∧Rd Q w c x)→(∀(k:Nat) x,ys[k]? =some x→scal x=true→ ∃c,ds[j+k]? =some c∧Rd Q w c x)→
      (Op.eqFields (d+1) cs ds l).run P w= .ok r w
  | [],xs,ys,us,j,r,q,_,_,hl,h1,h2,_,_=>by
    have:us=[]:=List.length_eq_zero_iff.1 (by simpa using hl.symm)
    subst this
    cases xs with
    | cons x xs=>simp [JT]at h1
    | nil=>
      cases ys with
      | cons y ys=>simp [JT]at h2
      | nil=>simp only[JT,Option.some.injEq]at h2; subst h2; rfl
  | f::l,xs,ys,us,j,r,q,hf,hu,hl,h1,h2,hx,hy=>by
    cases us with
    | nil=>simp at hl
    | cons u us=>
    cases xs with
    | nil=>simp [JT]at h1
    | cons x xs=>
    cases ys with
    | nil=>simp [JT]at h2
    | cons y ys=>
    simp only[JT]at h1 h2
    split at h1<;>try cases h1
    rename_i q1 q2 e1 e2
    split at h2<;>try cases h2
    rename_i r1 r2 e3 e4
    have hz:zs[j]? =some u:=by
      have:=congrArg (·[0]?) hu
      simpa using this.symm
    obtain⟨g1,g2,g3⟩:=hg j f (by have:=hf 0; simpa using this.symm)
    rw[hz]at g3
    have sx:scal x=true:=by cases x<;>cases u<;>simp [eqT]at e1<;>rfl
    have sy:scal y=true:=by cases x<;>cases y<;>simp [eqT]at e3<;>rfl
    obtain⟨c,c1,c2⟩:=hx 0 x rfl sx
    obtain⟨c',c3,c4⟩:=hy 0 y rfl sy
    obtain⟨k1,_,k3⟩:=SB (P:=P) (d:=d) c2 c4 e1 e3 g3
    have hp1:(part f.type cs f.offset).run P w= .ok c w:=by
      rw[g2]
      simp only[part,Sem.run_bind,k3,Result.andThen_ok]
      rw[show cs[j]? =some c from c1]; rfl
    have hp2:(part f.type ds f.offset).run P w= .ok c' w:=by
      rw[g2]
      simp only[part,Sem.run_bind,k3,Result.andThen_ok]
      rw[show ds[j]? =some c' from c3]; rfl
    have ih:=Mf (d:=d) hg l xs ys us (j+1) r2 q2 (fun k=>by have:=hf (k+1); rw[show j+1+k=j+(k+1)by omega]; simpa using this) (by
      have:=congrArg List.tail hu
      rw[List.tail_drop]at this
      simpa using this) (by simpa using hl) e2 e4 (fun k x hk sx=>by rw[show j+1+k=j+(k+1)by omega]; exact hx (k+1) x hk sx) (fun k x hk sx=>by rw[show j+1+k=j+(k+1)by omega]; exact hy (k+1) x hk sx)
    simp only[Op.eqFields]
    rw[if_pos g1]
    simp only[Sem.run_bind,hp1,hp2,k1,Result.andThen_ok]
    cases r1 with
    | false=>rfl
    | true=>exact ih

theorem SM{P:Program}{τ:TypeId→Option TI}(hT:bC P τ){Q:Nat→Prop}{β:Nat→Nat}{w:World}{op:BinOp}{t:TypeId}{x y:Value}{X Y:V}{r:T}(h:Nr τ op t X Y=some r)
    (hx:RP Q β w x X)(hy:RP Q β w y Y)(xo yo:Operand)(hyo:Y= .one (.ifc true)→ ∃c,yo= .const c): ∃v,(do eqGuard op t xo yo x y; binOp op t x y:Sem Value).run P w= .ok v w∧scal r=true∧Rd (fun _=>False) w v r:=by
  unfold Nr at h
  split at h
  · rename_i k a k' b
    have e1:=tK hx
    have e2:=tK hy
    subst e1 e2
    have hg:=iT (P:=P) (w:=w) (op:=op) (t:=t) (xo:=xo) (yo:=yo) (x:= .int k a) (y:= .int k' b) (by simp)
    simp only[Sem.run_bind,hg,Result.andThen_ok]
    split at h
    · split at h<;>simp only[Option.some.injEq,reduceCtorEq]at h
      rename_i hb
      subst h
      exact⟨_,by simp [binOp,Op.shift,Int.not_lt.2 hb],rfl, .int _ _⟩
    · split at h<;>simp only[Option.some.injEq,reduceCtorEq]at h
      rename_i hb
      subst h
      exact⟨_,by simp [binOp,Op.shift,Int.not_lt.2 hb],rfl, .int _ _⟩
    · rename_i n1 n2
      split at h
      · rename_i hk
        subst hk
        cases op<;>simp only[OD,Option.some.injEq,reduceCtorEq]at h
        all_goals first
          | exact absurd rfl (by first | exact n1 | exact n2)
          | skip
        all_goals first
          | (subst h
             first
               | exact⟨_,by simp only[binOp,ne_eq,not_true_eq_false,if_false,Op.intArith]; rfl,rfl, .int _ _⟩
               | (refine⟨_, ?_,rfl, .bool _⟩; simp only[binOp,ne_eq,not_true_eq_false,if_false,Op.intCmp]; first | rfl | (simp only[Sem.run_pure]; congr 2; first | rfl | (rw[Bool.eq_iff_iff]; simp) | (simp [bne]; rfl))))
          | (split at h
             · cases h
             · rename_i hb
               simp only[Option.some.injEq]at h
               subst h
               exact⟨_,by simp only[binOp,ne_eq,not_true_eq_false,if_false,Op.intDiv,if_neg hb]; rfl,rfl, .int _ _⟩)
      · cases h
  · rename_i a b
    obtain⟨a,rfl,rfl⟩:=DW hx
    obtain⟨b,rfl,rfl⟩:=DW hy
    have hg:=iT (P:=P) (w:=w) (op:=op) (t:=t) (xo:=xo) (yo:=yo) (x:= .string a) (y:= .string b) (by simp)
    simp only[Sem.run_bind,hg,Result.andThen_ok]
    cases op<;>simp only[Sk,Option.some.injEq,reduceCtorEq]at h
    case add=>
      split at h
      · rename_i hle
        simp only[Option.some.injEq]at h
        subst h
        have h2: ¬ (((a.size+b.size:Nat):Int) > IntKind.i64.max):=by
          have:IntKind.i64.max=9223372036854775807:=by decide
          have e1:a.data.toList.length=a.size:=Array.length_toList
          have e2:b.data.toList.length=b.size:=Array.length_toList
          rw[this]; omega
        refine⟨.string (a++b),by simp only[binOp,Op.stringOp,if_neg h2,Sem.run_pure],rfl, ?_⟩
        have e:(a++b).data.toList=a.data.toList++b.data.toList:=by simp
        rw[←e]; exact .str _
      · cases h
    all_goals
      subst h
      refine⟨_, ?_,rfl, .bool _⟩
      simp only[binOp,Op.stringOp,Sem.run_pure,ByteArray.toList_eq,Mk,Kv]
  · rename_i a b
    have e1:=IB hx
    have e2:=IB hy
    subst e1 e2
    have hg:=iT (P:=P) (w:=w) (op:=op) (t:=t) (xo:=xo) (yo:=yo) (x:= .bool a) (y:= .bool b) (by simp)
    simp only[Sem.run_bind,hg,Result.andThen_ok]
    split at h
    · rename_i hk
      obtain⟨d,hd,rfl⟩:=kE hT hk
      cases op<;>simp only[Hu,Option.some.injEq,reduceCtorEq]at h
      · subst h; exact⟨_,run_eql_bool w t a b hd,rfl, .bool _⟩
      · subst h; exact⟨_,run_neq_bool w t a b hd,rfl, .bool _⟩
    · cases h
  · have e1:x= .pointer none:=hx
    have e2:y= .pointer none:=hy
    subst e1 e2
    have hg:=iT (P:=P) (w:=w) (op:=op) (t:=t) (xo:=xo) (yo:=yo) (x:= .pointer none) (y:= .pointer none) (by simp)
    simp only[Sem.run_bind,hg,Result.andThen_ok]
    split at h
    · rename_i hk
      obtain⟨d,hd,e,rfl⟩:=kE hT hk
      have hp:P.underlying t=some (.pointer (P.pointee t)):=by unfold Program.pointee; rw[hd]
      cases op<;>simp only[Hu,Option.some.injEq,reduceCtorEq]at h
      · subst h; exact⟨_,run_eql_pointer_nil w t _ hp,rfl, .bool _⟩
      · subst h; exact⟨_,run_neq_pointer_nil w t _ hp,rfl, .bool _⟩
    · cases h
  · obtain⟨bb,off,e1,_⟩:=hx
    have e2:y= .pointer none:=hy
    subst e1 e2
    have hg:=iT (P:=P) (w:=w) (op:=op) (t:=t) (xo:=xo) (yo:=yo) (x:= .pointer (some ⟨bb,off,none⟩)) (y:= .pointer none) (by simp)
    simp only[Sem.run_bind,hg,Result.andThen_ok]
    split at h
    · rename_i hk
      obtain⟨d,hd,e,rfl⟩:=kE hT hk
      have hp:P.underlying t=some (.pointer (P.pointee t)):=by unfold Program.pointee; rw[hd]
      cases op<;>simp only[Hu,Option.some.injEq,reduceCtorEq]at h
      · subst h; exact⟨_,run_eql_pointer_nil w t _ hp,rfl, .bool _⟩
      · subst h; exact⟨_,run_neq_pointer_nil w t _ hp,rfl, .bool _⟩
    · cases h
  · have e1:x= .pointer (some _):=hx
    have e2:y= .pointer none:=hy
    subst e1 e2
    rename_i o off
    have hg:=iT (P:=P) (w:=w) (op:=op) (t:=t) (xo:=xo) (yo:=yo) (x:= .pointer (some ⟨β o,off,none⟩)) (y:= .pointer none) (by simp)
    simp only[Sem.run_bind,hg,Result.andThen_ok]
    split at h
    · rename_i hk
      obtain⟨d,hd,e,rfl⟩:=kE hT hk
      have hp:P.underlying t=some (.pointer (P.pointee t)):=by unfold Program.pointee; rw[hd]
      cases op<;>simp only[Hu,Option.some.injEq,reduceCtorEq]at h
      · subst h; exact⟨_,run_eql_pointer_nil w t _ hp,rfl, .bool _⟩
      · subst h; exact⟨_,run_neq_pointer_nil w t _ hp,rfl, .bool _⟩
    · cases h
  · rename_i b
    have e2:y= .nilIface:=hy
    subst e2
    obtain⟨c,rfl⟩:=hyo rfl
    split at h
    · rename_i hk
      obtain⟨d,hd,ms,rfl⟩:=kE hT hk
      have hg:(eqGuard op t xo (.const c) x .nilIface).run P w= .ok () w:=by
        cases b with
        | true=>
          have e1:x= .nilIface:=by simpa [RP]using hx
          subst e1
          rw[eqGuard_nil_constR]; rfl
        | false=>
          obtain⟨d,u,e1⟩: ∃d u,x= .iface d u:=by simpa [RP]using hx
          subst e1
          rw[eqGuard_at_iface]; rfl
      simp only[Sem.run_bind,hg,Result.andThen_ok]
      have hq:(Op.equal t x .nilIface).run P w= .ok b w:=by
        refine JA 9999 hd (?_)
        cases b with
        | true=>exact .inl ⟨by simpa [RP]using hx,rfl⟩
        | false=>exact .inr ⟨by simpa [RP]using hx,rfl⟩
      have hb: ∀(op:BinOp),(binOp .eql t x .nilIface).run P w= .ok (.bool b) w∧(binOp .neq t x .nilIface).run P w= .ok (.bool !b) w:=by
        intro _
        have e1:x= .nilIface∨ ∃d u,x= .iface d u:=by
          cases b with
          | true=>exact .inl (by simpa [RP]using hx)
          | false=>exact .inr (by simpa [RP]using hx)
        rcases e1 with rfl | ⟨d,u,rfl⟩<;>(constructor<;>simp only[binOp,Sem.run_bind,hq,Result.andThen_ok,Sem.run_pure])
      cases op<;>simp only[Hu,Option.some.injEq,reduceCtorEq]at h
      · subst h; exact⟨_,(hb .add).1,rfl, .bool _⟩
      · subst h; exact⟨_,(hb .add).2,rfl, .bool _⟩
    · cases h
  · rename_i xs ys
    obtain⟨cs,rfl,hc⟩:=hx
    obtain⟨ds,rfl,hd⟩:=hy
    unfold cmpZ at h
    split at h
    · rename_i zs hz
      split at hz<;>try cases hz
      rename_i i hi
      obtain⟨hb,hz⟩:=Km hz
      subst hz
      split at h<;>try cases h
      rename_i q b e1 e2
      obtain⟨_,_,_,_,_,_,_,_,_,_,_,_,_,hcmp⟩:=hT t i hi
      obtain⟨m1,m2,gs,m3,m4,m5⟩:=hcmp hb
      have hfo:P.fieldsOf t=gs:=by unfold Program.fieldsOf; rw[m3]
      have he:(Op.equalIn 10000 t (.agg cs) (.agg ds)).run P w= .ok b w:=by
        rw[run_equalIn_agg w 9999 t cs ds (by rw[hfo]; exact m3) m2,hfo]
        exact Mf (d:=9998) m5 gs.toList xs ys i.zero 0 b q (fun k=>by rw[Nat.zero_add,Array.getElem?_toList]) rfl (by simpa using m4) e1 e2 (fun k x hk sx=>by rw[Nat.zero_add]; exact hc k x hk sx) (fun k x hk sx=>by rw[Nat.zero_add]; exact hd k x hk sx)
      cases op<;>simp only[Hu,Option.some.injEq,reduceCtorEq]at h
      · subst h
        refine⟨.bool b, ?_,rfl, .bool _⟩
        simp only[Sem.run_bind,run_eqGuard_agg w .eql t xo yo cs ds m1,Result.andThen_ok,run_eql_struct,he]
      · subst h
        refine⟨.bool (!b), ?_,rfl, .bool _⟩
        simp only[Sem.run_bind,run_eqGuard_agg w .neq t xo yo cs ds m1,Result.andThen_ok,run_neq_struct,he]
    · cases h
  · cases h
end Go.Own

/- What the operations that leave memory alone come to, on data; and that the machine's come to the same. -/
namespace Go.Own
open Go.RowKit

def vS:List V→Option (List (Nat×Nat))
 | []=>some []
 | .one (.ptr o off)::r=>(vS r).map ((o,off):: ·)
 | _::_=>none

def tN:V→Option Int
 | .one (.c (.int _ n))=>some n
 | _=>none

/-- The bounds of x[lo:hi:max] where x has so many. -/
def mN(ρ:Operand→V)(len:Nat)(lo hi max:Option Operand):Option (Nat×Nat):=
 match max with
 | none=>
  (match hi with | none=>some (len:Int) | some h=>tN (ρ h)).bind fun h=>
  (match lo with | none=>some (0:Int) | some l=>tN (ρ l)).bind fun l=>
  if 0≤l∧l≤h∧h≤(len:Int)then some (l.toNat,h.toNat)else none
 | some m=>match hi with
  | none=>none
  | some h=>
   (tN (ρ m)).bind fun m=>(tN (ρ h)).bind fun h=>
   (match lo with | none=>some (0:Int) | some l=>tN (ρ l)).bind fun l=>
   if 0≤l∧l≤h∧h≤m∧m≤(len:Int)then some (l.toNat,h.toNat)else none

/-- The bytes that a slice of bytes has. -/
def BT:List (List T)→Option (List UInt8)
 | []=>some []
 | [.int .u8 n]::r=>if 0≤n∧n<256 then(BT r).map (UInt8.ofNat n.toNat:: ·)else none
 | _=>none

/-- What an operation that only reads comes to: a scalar, or a part of what it reads. -/
def gI(τ:TypeId→Option TI)(ρ:Operand→V)(o:Op):Option T:=
 match o with
 | .binOp op t x y _=>Nr τ op t (ρ x) (ρ y)
 | .unOp op _ x=>match op,ρ x with
  | .not, .one (.c (.bool b))=>some (.bool !b)
  | .neg, .one (.c (.int k n))=>some (.int k (k.wrap (0 - n)))
  | _,_=>none
 | .convert s d x=>match tk τ s,tk τ d,ρ x with
  | some _,some (.int k), .one (.c (.int _ n))=>some (.int k (k.wrap n))
  | some (.sl e),some .str, .one (.c (.sl es))=>match tk τ e with
   | some (.int .u8)=>(BT es).map .str
   | _=>none
  | some .str,some .str, .one (.c (.str s))=>some (.str s)
  | _,_,_=>none
 | .index t x i=>match tk τ t,ρ x,ρ i with
  | some .str, .one (.c (.str s)), .one (.c (.int _ n))=>if 0≤n then(s[n.toNat]?).map fun b=> .int .u8 (b.toNat:Int)else none
  | _,_,_=>none
 | .slice t x lo hi max=>match tk τ t,ρ x with
  | some .str, .one (.c (.str s))=>if max.isSome then none else(mN ρ s.length lo hi none).map fun r=> .str ((s.drop r.1).take (r.2 - r.1))
  | some (.sl e), .one (.c (.sl es))=>(τ e).bind fun ei=>if es.all (fun x=>x.length == ei.size)then(mN ρ es.length lo hi max).map fun r=> .sl ((es.drop r.1).take (r.2 - r.1))else none
  | _,_=>none
 | .call c=>match c.callee,c.args.toList,c.argTypes.toList with
  | .builtin .len,[x],[t]=>match tk τ t,ρ x with
   | some .str, .one (.c (.str s))=>some (.int .i64 s.length)
   | some (.sl _), .one (.c (.sl es))=>some (.int .i64 es.length)
   | _,_=>none
  | .builtin .max,[x,y],_=>match ρ x,ρ y with
   | .one (.c (.int k a)), .one (.c (.int _ b))=>some (.int k (if b > a then b else a))
   | _,_=>none
  | .builtin .min,[x,y],_=>match ρ x,ρ y with
   | .one (.c (.int k a)), .one (.c (.int _ b))=>some (.int k (if b<a then b else a))
   | _,_=>none
  | _,_,_=>none
 | _=>none

theorem jD(b off n:Nat):(⟨b,off,none⟩:Addr).add n=⟨b,off+n,none⟩:=by
 unfold Addr.add; split
 ·rename_i h; subst h; rfl
 ·rfl

theorem zL{P:Program}{Q:Nat→Prop}{β:Nat→Nat}{w:World}{ρ:Operand→Value}{ρV:Operand→V}{isSlice:Bool}{len cap:Nat}{lo hi max:Option Operand}{l h:Nat}
  (hρ: ∀x,lo=some x∨hi=some x∨max=some x→RP Q β w (ρ x) (ρV x))(e:mN ρV len lo hi max=some (l,h))(hcap:len≤cap):
  l≤h∧h≤len∧ ∃m,h≤m∧m≤cap∧(max=none→m=cap)∧(Instr.sliceBounds isSlice len cap (lo.map ρ) (hi.map ρ) (max.map ρ)).run P w= .ok (l,h,m) w:=by
 have hint: ∀x (n:Int),(lo=some x∨hi=some x∨max=some x)→tN (ρV x)=some n→ ∃k,ρ x= .int k n:=by
  intro x n hm hx
  have:=hρ x hm
  unfold tN at hx
  split at hx
  ·rename_i k m heq
   simp only[Option.some.injEq]at hx
   subst hx
   rw[heq]at this
   exact⟨k,tK this⟩
  ·cases hx
 unfold mN at e
 split at e
 ·simp only[Option.bind_eq_some_iff]at e
  obtain⟨hv,h1,lv,h2,e⟩:=e
  split at e
  ·rename_i hc
   simp only[Option.some.injEq,Prod.mk.injEq]at e
   obtain⟨rfl,rfl⟩:=e
   refine⟨by omega,by omega,cap,by omega,Nat.le_refl _,fun _=>rfl, ?_⟩
   have hh:hv≤(cap:Int):=by omega
   have h0:0≤hv:=by omega
   have hl:lv≤((hv.toNat:Nat):Int):=by omega
   cases lo with
   | none=>
    simp only[Option.some.injEq]at h2
    subst h2
    cases hi with
    | none=>simp only[Option.some.injEq]at h1; subst h1; simp [Instr.sliceBounds]
    | some hx=>
     obtain⟨k,hk⟩:=hint hx hv (by simp) h1
     simp [Instr.sliceBounds,Instr.sliceBound,hk,asIntOf,h0,hh]
   | some lx=>
    obtain⟨k2,hk2⟩:=hint lx lv (by simp) h2
    cases hi with
    | none=>
     simp only[Option.some.injEq]at h1; subst h1
     have hl':lv≤(len:Int):=by omega
     simp [Instr.sliceBounds,Instr.sliceBound,hk2,asIntOf,hc.1,hl']
    | some hx=>
     obtain⟨k,hk⟩:=hint hx hv (by simp) h1
     simp only[Instr.sliceBounds,Instr.sliceBound,Option.map_some,Option.map_none,hk,hk2,asIntOf,h0,hh,hc.1,and_self,if_true,Sem.run_bind,Sem.run_pure,Result.andThen_ok,hl]
  ·cases e
 ·rename_i mx
  split at e
  ·cases e
  ·rename_i hx
   simp only[Option.bind_eq_some_iff]at e
   obtain⟨mv,h0,hv,h1,lv,h2,e⟩:=e
   split at e
   ·rename_i hc
    simp only[Option.some.injEq,Prod.mk.injEq]at e
    obtain⟨rfl,rfl⟩:=e
    refine⟨by omega,by omega,mv.toNat,by omega,by omega,fun h=>by(cases h), ?_⟩
    obtain⟨k0,hk0⟩:=hint mx mv (by simp) h0
    obtain⟨k1,hk1⟩:=hint hx hv (by simp) h1
    have c1:0≤mv:=by omega
    have c2:mv≤(cap:Int):=by omega
    have c3:0≤hv:=by omega
    have c4:hv≤((mv.toNat:Nat):Int):=by omega
    have c5:lv≤((hv.toNat:Nat):Int):=by omega
    cases lo with
    | none=>
     simp only[Option.some.injEq]at h2
     subst h2
     cases isSlice<;>simp only[Instr.sliceBounds,Instr.sliceBound,Option.map_some,Option.map_none,hk0,hk1,asIntOf,c1,c2,c3,c4,and_self,if_true,Sem.run_bind,Sem.run_pure,Result.andThen_ok,Int.toNat_zero]
    | some lx=>
     obtain⟨k2,hk2⟩:=hint lx lv (by simp) h2
     cases isSlice<;>simp only[Instr.sliceBounds,Instr.sliceBound,Option.map_some,hk0,hk1,hk2,asIntOf,c1,c2,c3,c4,c5,hc.1,and_self,if_true,Sem.run_bind,Sem.run_pure,Result.andThen_ok]
   ·cases e

theorem lE{P:Program}{τ:TypeId→Option TI}(hT:bC P τ){t:TypeId}{i:TI}(h:τ t=some i): ∃info,P.info? t=some info∧info.size=i.size∧0<i.size:=by
 obtain⟨info,d,z,h1,_,h3,_,_,_,_,h4,_⟩:=hT t i h
 exact⟨info,h1,h3,h4⟩

theorem Eh{P:Nat→Prop}{β:Nat→Nat}{w:World}{v:Value}{es:List (List T)}(h:Rd P w v (.sl es)){n:Nat}{e:List T}(hn:es[n]? =some e){size:Nat}(hs:e.length=size)(h0:0<size):
  ∃b off len cap,v= .slice (some ⟨b,off,none⟩) len cap∧len=es.length∧RP P β w (.pointer (some ⟨b,off+n*size,none⟩)) (.one (.cp e)):=by
 cases h with
 | nil a cap=>simp at hn
 | sl b off len cap s _ cs hl hc hs2 hP hm hr=>
  have hs3:=hs2 n _ hn
  have:s=size:=by omega
  subst this
  exact⟨b,off,len,cap,rfl,hl.symm,b,off+n*s,rfl,hP,fun j x hx=>⟨cs n j,hm n _ j x hn hx,hr n _ j x hn hx⟩⟩

theorem Jb{P:Nat→Prop}{w:World}{a:Option Addr}{len cap:Nat}{es:List (List T)}(h:Rd P w (.slice a len cap) (.sl es)){l k m size:Nat}(hl:l≤k)(hk:k≤es.length)(hkm:k≤m)(hm':m≤cap)
  (hs: ∀x∈es,x.length=size):len=es.length∧len≤cap∧Rd P w (.slice (if m=l then a else a.map (·.add (l*size))) (k - l) (m - l)) (.sl ((es.drop l).take (k - l))):=by
 cases h with
 | nil a cap=>
  simp only[List.length_nil]at hk
  have h1:l=0:=by omega
  have h2:k=0:=by omega
  subst h1 h2
  refine⟨rfl,Nat.zero_le _, ?_⟩
  simp only[List.drop_nil,List.take_nil,Nat.sub_self]
  exact .nil _ _
 | sl b off _ _ s _ cs hl2 hc hs2 hP hm hr=>
  refine⟨hl2.symm,hc, ?_⟩
  by_cases e:k - l=0
  ·rw[e,List.take_zero]; exact .nil _ _
  ·have hne:m≠l:=by omega
   rw[if_neg hne]
   simp only[Option.map_some,jD]
   have hs3:s=size:=by
    have h0:0<es.length:=by omega
    have h1:=hs2 0 es[0] (List.getElem?_eq_getElem h0)
    have h2:=hs es[0] (List.getElem_mem h0)
    omega
   subst hs3
   have hget: ∀(i:Nat) (e:List T),((es.drop l).take (k - l))[i]? =some e→es[l+i]? =some e:=by
    intro i e he
    rw[List.getElem?_take]at he
    split at he
    ·rwa[List.getElem?_drop]at he
    ·cases he
   refine .sl b (off+l*s) (k - l) (m - l) s _ (fun i j=>cs (l+i) j) ?_ (by omega) (fun i e he=>hs2 _ e (hget i e he)) hP (fun i e j x he hx=> ?_) (fun i e j x he hx=>hr _ e j x (hget i e he) hx)
   ·simp only[List.length_take,List.length_drop]; omega
   ·have:=hm _ e j x (hget i e he) hx
    have ea:off+l*s+i*s+j=off+(l+i)*s+j:=by rw[Nat.add_mul]; omega
    rw[ea]; exact this

theorem IW{P:Nat→Prop}{w:World}{v:Value}{es:List (List T)}(h:Rd P w v (.sl es)): ∃a cap,v= .slice a es.length cap∧es.length≤cap:=by
 cases h with
 | nil a cap=>exact⟨_,_,rfl,Nat.zero_le _⟩
 | sl b off _ _ s _ cs hl2 hc=>subst hl2; exact⟨_,_,rfl,hc⟩

theorem Ca: ∀ {es:List (List T)} {s:List UInt8},BT es=some s→es=s.map (fun b=> [.int .u8 (b.toNat:Int)])
 | [],s,h=>by simp only[BT,Option.some.injEq]at h; subst h; rfl
 | e::r,s,h=>by
  unfold BT at h
  split at h
  ·rename_i heq; cases heq
  ·rename_i n r' heq
   cases heq
   split at h
   ·rename_i hn
    obtain⟨q,hq,rfl⟩:=Option.map_eq_some_iff.1 h
    rw[Ca hq]
    have:((UInt8.ofNat n.toNat).toNat:Int)=n:=by
     rw[UInt8.toNat_ofNat']; omega
    rw[List.map_cons,this]
   ·cases h
  ·cases h

/-- What readV's result is made of. -/
def HQ:Op→Bool
 | .slice _ _ _ _ _=>true
 | _=>false

theorem Oy{P:Program}{τ:TypeId→Option TI}(hT:bC P τ){Q:Nat→Prop}{β:Nat→Nat}{w:World}{ρ:Operand→Value}{ρV:Operand→V}(o:Oper)(hρ: ∀x∈o.op.operands,RP Q β w (ρ x) (ρV x))
  (hc2: ∀op t x y u,o.op= .binOp op t x y u→ρV y= .one (.ifc true)→ ∃c,y= .const c){r:T}(h:gI τ ρV o.op=some r):
  ∃v,(execOp ρ o).run P w= .ok (.value v) w∧Rd Q w v r∧(HQ o.op=true∨scal r=true):=by
 obtain⟨dst,op,type,pos,after,guard⟩:=o
 simp only at h hρ hc2
 unfold gI at h
 split at h
 ·-- binOp
  rename_i bop t x y yt
  obtain⟨v,hv,hs,hr⟩:=SM hT h (hρ x (by simp [Op.operands])) (hρ y (by simp [Op.operands])) x y (fun e=>hc2 _ _ _ _ _ rfl e)
  exact⟨v,by simp only[execOp,Sem.run_bind,hv,Result.andThen_ok,Sem.run_pure],hr.scal hs, .inr hs⟩
 ·-- unOp
  rename_i uop t x
  have h1:=hρ x (by simp [Op.operands])
  split at h
  ·rename_i b heq
   simp only[Option.some.injEq]at h
   subst h
   rw[heq]at h1
   have e:=IB h1
   exact⟨.bool !b,by simp only[execOp,e]; rfl, .bool _, .inr rfl⟩
  ·rename_i k n heq
   simp only[Option.some.injEq]at h
   subst h
   rw[heq]at h1
   have e:=tK h1
   exact⟨.int k (k.wrap (0 - n)),by simp only[execOp,e]; rfl, .int _ _, .inr rfl⟩
  ·cases h
 ·-- convert
  rename_i s d x
  have h1:=hρ x (by simp [Op.operands])
  split at h
  ·rename_i ks k _ n hs hd heq
   simp only[Option.some.injEq]at h
   subst h
   obtain⟨ds,hds,_⟩:=kE hT hs
   obtain⟨dd,hdd,rfl⟩:=kE hT hd
   rw[heq]at h1
   have e:=tK h1
   refine⟨.int k (k.wrap n), ?_, .int _ _, .inr rfl⟩
   simp only[execOp,e,convert,Sem.run_bind,run_underlying hds,run_underlying hdd,Result.andThen_ok,Conv.intToInt,Sem.run_pure]
  ·rename_i e es hs hd heq
   split at h
   ·rename_i hke
    obtain⟨q,hq,rfl⟩:=Option.map_eq_some_iff.1 h
    obtain⟨ds,hds,rfl⟩:=kE hT hs
    obtain⟨dd,hdd,rfl⟩:=kE hT hd
    obtain⟨de,hde,rfl⟩:=kE hT hke
    rw[heq]at h1
    have hrd:Rd Q w (ρ x) (.sl es):=h1
    have hes:=Ca hq
    obtain⟨a,cap,e1,_⟩:=IW hrd
    have hlen:es.length=q.length:=by rw[hes]; simp
    suffices hsuf:(Conv.bytesToString (.slice a es.length cap)).run P w= .ok (.string ⟨q.toArray⟩) w by
     refine⟨.string ⟨q.toArray⟩, ?_,by simpa using Rd.str (P:=Q) (w:=w) ⟨q.toArray⟩, .inr rfl⟩
     simp only[execOp,e1,Sem.run_bind,run_convert_bytes_string w s d e a es.length cap hds hde hdd,hsuf,Result.andThen_ok,Sem.run_pure]
    cases a with
    | none=>
     rw[e1]at hrd
     generalize hn:es.length=n at hrd
     cases hrd with
     | nil=>
      have:q=[]:=by cases q with | nil=>rfl | cons a r=>rw[hes]at hn; simp at hn
      subst this
      rfl
    | some ad=>
     have hload:(loadCells ad es.length).run P w= .ok ((q.map fun b=>(b.toNat:Int)).map (Value.int .u8)).toArray w:=by
      rw[e1]at hrd
      generalize hn:es.length=n at hrd
      cases hrd with
      | nil=>
       have:q=[]:=by cases q with | nil=>rfl | cons a r=>rw[hes]at hn; simp at hn
       subst this
       simp [loadCells,loadCellsFrom]
      | sl b off _ _ s1 _ cs hl hc' hs2 hP hm hr=>
       have hrun:=run_loadCells_list (P:=P) w ⟨b,off,none⟩ ((q.map fun b=>(b.toNat:Int)).map (Value.int .u8)) (fun j v hv=>by
        rw[List.map_map,List.getElem?_map]at hv
        obtain⟨c,hc1,rfl⟩:=Option.map_eq_some_iff.1 hv
        have he:es[j]? =some [.int .u8 (c.toNat:Int)]:=by rw[hes,List.getElem?_map,hc1]; rfl
        have e2:s1=1:=(hs2 j _ he).symm
        subst e2
        have h3:=hm j _ 0 _ he rfl
        have h4:=hr j _ 0 _ he rfl
        rw[jD]
        rw[Nat.mul_one,Nat.add_zero]at h3
        rw[h3]
        generalize cs j 0=z at h4
        cases h4
        rfl)
       simpa [←hlen,hn]using hrun
     rw[run_bytesToString w ad es.length cap _ hload]
     congr 2
     have hfold: ∀(l:List UInt8) (acc:ByteArray),((l.map fun b=>(b.toNat:Int)).foldl (fun r n=>r.push (UInt8.ofNat n.toNat)) acc)=⟨acc.data++l.toArray⟩:=by
      intro l
      induction l with
      | nil=>intro acc; simp
      | cons a r ih=>
       intro acc
       rw[List.map_cons,List.foldl_cons,ih]
       simp [ByteArray.push]
     rw[hfold]
     have:ByteArray.empty.data= #[]:=rfl
     rw[this,Array.empty_append]
   ·cases h
  ·rename_i s' hs hd heq
   simp only[Option.some.injEq]at h
   subst h
   obtain⟨ds,hds,rfl⟩:=kE hT hs
   obtain⟨dd,hdd,rfl⟩:=kE hT hd
   rw[heq]at h1
   obtain⟨a,e,rfl⟩:=DW h1
   refine⟨.string a, ?_, .str _, .inr rfl⟩
   simp only[execOp,e,convert,Sem.run_bind,run_underlying hds,run_underlying hdd,Result.andThen_ok,Sem.run_pure]
  ·cases h
 ·-- index
  rename_i t x i
  have h1:=hρ x (by simp [Op.operands])
  have h2:=hρ i (by simp [Op.operands])
  split at h
  ·rename_i s k n hs heq heqi
   split at h
   ·rename_i h0
    obtain⟨b,hb,rfl⟩:=Option.map_eq_some_iff.1 h
    obtain⟨d,hd,rfl⟩:=kE hT hs
    rw[heq]at h1
    rw[heqi]at h2
    obtain⟨a,e1,rfl⟩:=DW h1
    have e2:=tK h2
    refine⟨.int .u8 (b.toNat:Int), ?_, .int _ _, .inr rfl⟩
    have hlt:n.toNat<a.size:=by
     rcases Nat.lt_or_ge n.toNat a.data.toList.length with h3 | h3
     ·simpa using h3
     ·rw[List.getElem?_eq_none h3]at hb; cases hb
    have hg:a[n.toNat]? =some b:=by
     rw[getElem?_pos a n.toNat hlt]
     rw[Array.getElem?_toList]at hb
     have hlt':n.toNat<a.data.size:=hlt
     rw[Array.getElem?_eq_getElem hlt']at hb
     exact hb
    simp only[execOp,Instr.index,e1,e2,asIntOf,Sem.run_bind,Sem.run_pure,Result.andThen_ok,run_underlying hd,h0,if_true,hg]
   ·cases h
  ·cases h
 ·-- slice
  rename_i t x lo hi mx
  have h1:=hρ x (by simp [Op.operands])
  split at h
  ·rename_i s hs heq
   split at h
   ·cases h
   ·rename_i hmx
    have hmx':mx=none:=by cases mx with | none=>rfl | some m=>simp at hmx
    subst hmx'
    obtain⟨⟨l,u⟩,hb,rfl⟩:=Option.map_eq_some_iff.1 h
    obtain⟨d,hd,rfl⟩:=kE hT hs
    rw[heq]at h1
    obtain⟨a,e1,rfl⟩:=DW h1
    have hlen:a.data.toList.length=a.size:=Array.length_toList
    rw[hlen]at hb
    obtain⟨b1,b2,m,b3,b4,_,hrun⟩:=zL (P:=P) (isSlice:=false) (fun y hy=>hρ y (by rcases hy with rfl | rfl | hy<;>simp_all [Op.operands])) hb (Nat.le_refl _)
    refine⟨.string (a.extract l u), ?_, ?_, .inl rfl⟩
    ·simp only[Option.map_none]at hrun
     simp only[execOp,Instr.sliceAt,Instr.slice,e1,Sem.run_bind,Sem.run_pure,Result.andThen_ok,run_underlying hd,Option.map_none,Option.isSome_none,Bool.false_eq_true,if_false,hrun]
    ·have e:(a.extract l u).data.toList=(a.data.toList.drop l).take (u - l):=by simp [ByteArray.data_extract]
     rw[←e]; exact .str _
  ·rename_i e es hs heq
   obtain⟨ei,he,h⟩:=Option.bind_eq_some_iff.1 h
   split at h
   ·rename_i hall
    obtain⟨⟨l,u⟩,hb,rfl⟩:=Option.map_eq_some_iff.1 h
    obtain⟨d,hd,rfl⟩:=kE hT hs
    obtain⟨info,hinfo,hsz,_⟩:=lE hT he
    rw[heq]at h1
    have hrd:Rd Q w (ρ x) (.sl es):=h1
    obtain⟨a,cap,e1,hcap⟩:=IW hrd
    rw[e1]at hrd
    obtain⟨b1,b2,m,b3,b4,_,hrun⟩:=zL (P:=P) (isSlice:=true) (fun y hy=>hρ y (by rcases hy with rfl | rfl | rfl<;>simp [Op.operands])) hb hcap
    obtain⟨_,_,hr⟩:=Jb hrd (l:=l) (k:=u) (m:=m) b1 b2 b3 b4 (size:=ei.size) (fun y hy=>by simpa using List.all_eq_true.1 hall y hy)
    refine⟨.slice (if m=l then a else a.map (·.add (l*ei.size))) (u - l) (m - l), ?_,hr, .inl rfl⟩
    simp only[execOp,Instr.sliceAt,Instr.slice,e1,Sem.run_bind,Sem.run_pure,Result.andThen_ok,run_underlying hd,hrun,sizeOf,typeInfo,run_program,hinfo,hsz]
   ·cases h
  ·cases h
 ·-- call
  rename_i cl
  obtain⟨callee,args,ats⟩:=cl
  simp only at h
  split at h
  ·-- len
   rename_i x t ha ht
   have ha':args= #[x]:=by cases args; simp_all
   have ht':ats= #[t]:=by cases ats; simp_all
   subst ha' ht'
   have h1:=hρ x (by simp [Op.operands,Call.operands])
   split at h
   ·rename_i s hs heq
    simp only[Option.some.injEq]at h
    subst h
    obtain⟨d,hd,rfl⟩:=kE hT hs
    rw[heq]at h1
    obtain⟨a,e1,rfl⟩:=DW h1
    have hlen:a.data.toList.length=a.size:=Array.length_toList
    rw[hlen]
    refine⟨.int .i64 a.size, ?_, .int _ _, .inr rfl⟩
    simp [execOp,resolve,invoke,builtin,Builtin.len_,e1,run_underlying hd,goInt]
   ·rename_i e es hs heq
    simp only[Option.some.injEq]at h
    subst h
    obtain⟨d,hd,rfl⟩:=kE hT hs
    rw[heq]at h1
    obtain⟨a,cap,e1,_⟩:=IW h1
    refine⟨.int .i64 es.length, ?_, .int _ _, .inr rfl⟩
    simp [execOp,resolve,invoke,builtin,Builtin.len_,e1,run_underlying hd,goInt]
   ·cases h
  ·-- max
   rename_i ts x y ha
   have ha':args= #[x,y]:=by cases args; simp_all
   subst ha'
   have h1:=hρ x (by simp [Op.operands,Call.operands])
   have h2:=hρ y (by simp [Op.operands,Call.operands])
   split at h
   ·rename_i k a _ b heq heq2
    simp only[Option.some.injEq]at h
    subst h
    rw[heq]at h1
    rw[heq2]at h2
    have e1:=tK h1
    have e2:=tK h2
    refine⟨_, ?_, .int _ _, .inr rfl⟩
    simp [execOp,resolve,invoke,builtin,e1,e2,run_max_int2]
   ·cases h
  ·-- min
   rename_i ts x y ha
   have ha':args= #[x,y]:=by cases args; simp_all
   subst ha'
   have h1:=hρ x (by simp [Op.operands,Call.operands])
   have h2:=hρ y (by simp [Op.operands,Call.operands])
   split at h
   ·rename_i k a _ b heq heq2
    simp only[Option.some.injEq]at h
    subst h
    rw[heq]at h1
    rw[heq2]at h2
    have e1:=tK h1
    have e2:=tK h2
    refine⟨_, ?_, .int _ _, .inr rfl⟩
    simp [execOp,resolve,invoke,builtin,e1,e2,run_min_int2]
   ·cases h
  ·cases h
 ·cases h
end Go.Own

/- A state, and what it tells of a frame's slots and the world. -/
namespace Go.Own
open Go.RowKit

structure St where
  n:Nat
  sl:Nat→V
  ob:Sc
  fl:Loc→K

def W.leaf:W→Nat→Option T
  | .c x,0=>some x
  | .ag xs,j=>xs[j]?
  | _,_=>none
def V.leaf:V→Nat→Nat→Option T
  | .one w,0,j=>w.leaf j
  | .tup ws,k,j=>(ws[k]?).bind (·.leaf j)
  | _,_,_=>none
/-- The datum at a place. -/
def atL(sl:Nat→V)(ob:Sc):Loc→Option T
  | .s i k j=>(sl i).leaf k j
  | .oc o j=>(ob o).bind (·[j]?)
  | _=>none
def St.at(st:St)(l:Loc):Option T:=atL st.sl st.ob l

def FW:Value→Nat→Option Value
  | .agg cs,j=>cs[j]?
  | v,0=>some v
  | _,_=>none
def pR:Value→Nat→Nat→Option Value
  | .tuple vs,k,j=>(vs[k]?).bind (FW · j)
  | v,0,j=>FW v j
  | _,_,_=>none
/-- The value at a place. -/
def vAt(tmps:Array Value)(β:Nat→Nat)(w:World):Loc→Option Value
  | .s i k j=>pR (tmps.getD i undef) k j
  | .oc o j=>w.cell? ⟨β o,j,none⟩
  | _=>none

def mS(v:Value):Prop:=(∀cs,v≠ .agg cs)∧ ∀vs,v≠ .tuple vs

def CpR(g:G)(w:World)(κ:K)(b off:Nat)(xs:List T):Prop:=
  match κ with
  | .D=>True
  | .F=>frz g w b∧ ∀(j:Nat) x,xs[j]? =some x→ ∃c,w.cell? ⟨b,off+j,none⟩=some c∧Rd (frz g w) w c x
  | .V=>all g w b∧ ∀(j:Nat) x,xs[j]? =some x→ ∃c,w.cell? ⟨b,off+j,none⟩=some c∧Rd (all g w) w c x
  | _=>False

def RW(g:G)(w:World)(κ:Nat→K)(l:Nat→Loc)(v:Value):W→Prop
  | .c x=>mS v∧LF g w (κ 0) (l 0) v x
  | .ag xs=> ∃cs:Array Value,v= .agg cs∧cs.size=xs.length∧ ∀(j:Nat) x,xs[j]? =some x→ ∃c,cs[j]? =some c∧mS c∧LF g w (κ j) (l j) c x
  | .ptr o off=>v= .pointer (some ⟨g.β o,off,none⟩)
  | .cp xs=> ∃b off,v= .pointer (some ⟨b,off,none⟩)∧CpR g w (κ 0) b off xs
  | .nilp=>v= .pointer none
  | .ifc b=>if b then v= .nilIface else ∃d u,v= .iface d u
  | .fn f caps=>v= .func (.func f) #[] (caps.map fun c=>Value.pointer (some ⟨g.β c.1,c.2,none⟩)).toArray
  | _=>True

def RV(g:G)(w:World)(κ:Nat→Nat→K)(l:Nat→Nat→Loc)(v:Value):V→Prop
  | .one x=>RW g w (κ 0) (l 0) v x
  | .tup ws=> ∃vs:Array Value,v= .tuple vs∧vs.size=ws.length∧ ∀(k:Nat) x,ws[k]? =some x→ ∃u,vs[k]? =some u∧RW g w (κ k) (l k) u x

/-- From a place's value and datum into what lies in it. -/
inductive Pl (w:World):Value→T→List (Nat×Nat)→Value→T→Prop
  | nil (v:Value) (x:T):Pl w v x [] v x
  | cons (b off len cap:Nat) (es:List (List T)) (e:List T) (c:Value) (y:T) (i j:Nat) (p:List (Nat×Nat)) (v':Value) (x':T) (he:es[i]? =some e) (hy:e[j]? =some y)
      (hc:w.cell? ⟨b,off+i*e.length+j,none⟩=some c) (h:Pl w c y p v' x'):Pl w (.slice (some ⟨b,off,none⟩) len cap) (.sl es) ((i,j)::p) v' x'

def aI:V→Loc
  | .one (.al l _)=>l
  | .one (.pp l _ _ _)=>l
  | _=> .none

/-- A place inside a place is where it is told to be. -/
def EJ(st:St)(tmps:Array Value)(β:Nat→Nat)(w:World)(v:Value):V→Prop
  | .one (.al l p)=> ∃v0 x0 x',vAt tmps β w l=some v0∧st.at l=some x0∧Pl w v0 x0 p v x'
  | .one (.pp l p i j)=> ∃v0 x0 b off len cap es e,vAt tmps β w l=some v0∧st.at l=some x0∧Pl w v0 x0 p (.slice (some ⟨b,off,none⟩) len cap) (.sl es)∧es[i]? =some e∧v= .pointer (some ⟨b,off+i*e.length+j,none⟩)
  | _=>True

/-- The number that a callee gives to the first object that is handed to it. -/
def par:Nat:=1000000

def oC(l:Loc):Prop:=l= .none∨l= .ext

structure qX (g0:G) (w0:World) (g:G) (w:World):Prop where
  os:w.os=w0.os
  tape:w.tape=w0.tape
  output:w.output=w0.output
  evo:Evo g0 w0 g w (fun l=> ¬ oC l)

structure bQ (g0:G) (w0:World) (st:St) (a:Act) (g:G) (w:World):Prop where
  framed:qX g0 w0 g w
  ok:GOk g w
  size:a.tmps.size=st.n
  defers:a.defers=[]
  slots: ∀i,RV g w (fun k j=>st.fl (.s i k j)) (fun k j=> .s i k j) (a.tmps.getD i undef) (st.sl i)
  obs: ∀o cells,st.ob o=some cells→ ∃arr ty,w.heap[g.β o]? =some (.cells arr ty (0,0))∧arr.size=cells.length∧g.own (g.β o)= .obj o∧
    ∀(j:Nat) x,cells[j]? =some x→ ∃c,arr[j]? =some c∧mS c∧LF g w (st.fl (.oc o j)) (.oc o j) c x
  pls: ∀i,aI (st.sl i)≠ .none→st.fl (.s i 0 0)≠ .D→(st.fl (aI (st.sl i))).hold=true∧EJ st a.tmps g.β w (a.tmps.getD i undef) (st.sl i)
  bp: ∀o,par≤o→g.β o=g0.β o
  nle:st.n≤par

def Sim(g0:G)(w0:World)(st:St)(a:Act)(w:World):Prop:= ∃g,bQ g0 w0 st a g w

theorem qX.refl(g:G)(w:World):qX g w g w:=⟨rfl,rfl,rfl,Evo.refl _ _ _⟩
theorem qX.trans{g0 g1 g2:G}{w0 w1 w2:World}(h:qX g0 w0 g1 w1)(k:qX g1 w1 g2 w2):qX g0 w0 g2 w2:=⟨k.os.trans h.os,k.tape.trans h.tape,k.output.trans h.output,h.evo.trans k.evo⟩

theorem St.at_s(st:St)(i k j:Nat):st.at (.s i k j)=(st.sl i).leaf k j:=rfl
theorem St.at_oc(st:St)(o j:Nat):st.at (.oc o j)=(st.ob o).bind (·[j]?):=rfl

/-! ### the places' facts -/
theorem gH{v:Value}(h:mS v):FW v 0=some v∧pR v 0 0=some v:=by
  cases v<;>first | exact⟨rfl,rfl⟩ | exact absurd rfl (h.1 _) | exact absurd rfl (h.2 _)

theorem RW.leaf{g:G}{w:World}{κ:Nat→K}{l:Nat→Loc}{v:Value}{x:W}{j:Nat}{t:T}(h:RW g w κ l v x)(hl:x.leaf j=some t): ∃u,FW v j=some u∧pR v 0 j=some u∧mS u∧LF g w (κ j) (l j) u t:=by
  cases x with
  | c y=>
    cases j with
    | zero=>
      simp only[W.leaf,Option.some.injEq]at hl
      subst hl
      exact⟨v,(gH h.1).1,(gH h.1).2,h.1,h.2⟩
    | succ j=>simp [W.leaf]at hl
  | ag xs=>
    obtain⟨cs,rfl,h2,h3⟩:=h
    obtain⟨c,hc,hn,hr⟩:=h3 j t hl
    exact⟨c,hc,hc,hn,hr⟩
  | _=>simp [W.leaf]at hl

theorem RV.leaf{g:G}{w:World}{κ:Nat→Nat→K}{l:Nat→Nat→Loc}{v:Value}{x:V}{k j:Nat}{t:T}(h:RV g w κ l v x)(hl:x.leaf k j=some t): ∃u,pR v k j=some u∧mS u∧LF g w (κ k j) (l k j) u t:=by
  cases x with
  | one x=>
    cases k with
    | zero=>
      obtain⟨u,_,hu,hn,hr⟩:=RW.leaf h hl
      exact⟨u,hu,hn,hr⟩
    | succ k=>simp [V.leaf]at hl
  | tup ws=>
    obtain⟨vs,rfl,h2,h3⟩:=h
    simp only[V.leaf,Option.bind_eq_some_iff]at hl
    obtain⟨y,hy,hl⟩:=hl
    obtain⟨u,hu,hR⟩:=h3 k y hy
    obtain⟨u2,hu2,_,hn,hr⟩:=RW.leaf hR hl
    exact⟨u2,by simp [pR,hu,hu2],hn,hr⟩

theorem bQ.get{g0:G}{w0:World}{st:St}{a:Act}{g:G}{w:World}(h:bQ g0 w0 st a g w){l:Loc}{x:T}(hx:st.at l=some x): ∃v,vAt a.tmps g.β w l=some v∧mS v∧LF g w (st.fl l) l v x:=by
  cases l with
  | none=>simp [St.at,atL]at hx
  | ext=>simp [St.at,atL]at hx
  | obj o=>simp [St.at,atL]at hx
  | s i k j=>exact(h.slots i).leaf hx
  | oc o j=>
    simp only[St.at,atL,Option.bind_eq_some_iff]at hx
    obtain⟨cells,hc,hx⟩:=hx
    obtain⟨arr,ty,h1,h2,h3,h4⟩:=h.obs o cells hc
    obtain⟨c,c1,c2,c3⟩:=h4 j x hx
    exact⟨c,by simp only[vAt]; rw[cI w _ j arr ty _ h1]; exact c1,c2,c3⟩

theorem FR{st:St}{l:Loc}{x:T}(hx:st.at l=some x):l≠ .none∧l≠ .ext∧ ∀o,l≠ .obj o:=by
  cases l<;>first | (simp [St.at,atL]at hx; done) | exact⟨by simp,by simp,by simp⟩

theorem at_isPlace{st:St}{l:Loc}{x:T}(hx:st.at l=some x):l.place=true:=by
  cases l<;>first | (simp [St.at,atL]at hx; done) | rfl

/-! ### what stays -/
theorem CpR.evo{g g':G}{w w':World}{X:Loc→Prop}{κ:K}{b off:Nat}{xs:List T}(hE:Evo g w g' w' X)(hn: ¬ X .none)(hV:κ= .D∨κ= .F∨ ∀b,all g w b→all g' w' b∧w'.heap[b]? =w.heap[b]?)(h:CpR g w κ b off xs):CpR g' w' κ b off xs:=by
  have hZ: ∀b,frz g w b→frz g' w' b∧w'.heap[b]? =w.heap[b]? :=fun b hb=>by
    obtain⟨h1,h2⟩:=hE.keep b hb.1 (by rw[hb.2]; exact hn)
    exact⟨⟨Nat.lt_of_lt_of_le hb.1 hE.size,h1.trans hb.2⟩,h2⟩
  have key:(∀b,all g w b→all g' w' b∧w'.heap[b]? =w.heap[b]?)→(all g w b∧ ∀(j:Nat) x,xs[j]? =some x→ ∃c,w.cell? ⟨b,off+j,none⟩=some c∧Rd (all g w) w c x)→
      (all g' w' b∧ ∀(j:Nat) x,xs[j]? =some x→ ∃c,w'.cell? ⟨b,off+j,none⟩=some c∧Rd (all g' w') w' c x):=by
    rintro hq ⟨h1,h2⟩
    refine⟨(hq b h1).1,fun j x hx=> ?_⟩
    obtain⟨c,hc,hr⟩:=h2 j x hx
    exact⟨c,(bY (hq b h1).2).trans hc,hr.mono hq⟩
  cases κ with
  | D=>trivial
  | F=>
    obtain⟨h1,h2⟩:=h
    refine⟨(hZ b h1).1,fun j x hx=> ?_⟩
    obtain⟨c,hc,hr⟩:=h2 j x hx
    exact⟨c,(bY (hZ b h1).2).trans hc,hr.mono hZ⟩
  | V=>exact key (by simpa using hV) h
  | A n=>exact h.elim
  | U n=>exact h.elim
  | S=>exact h.elim
  | N=>exact h.elim

/-- What a step has to leave as it is, of what a place of this kind reads. -/
structure xC (g:G) (w:World) (g':G) (w':World) (X:Loc→Prop) (st:St):Prop where
  evo:Evo g w g' w' X
  X: ∀l,X l→ ¬ oC l∧ ∀o,l≠ .obj o
  V:(∀b,all g w b→all g' w' b∧w'.heap[b]? =w.heap[b]?)∨ ∀l,st.fl l≠ .V
  os:w'.os=w.os
  tape:w'.tape=w.tape
  output:w'.output=w.output
  ok:GOk g' w'

theorem xC.none{g g':G}{w w':World}{X:Loc→Prop}{st:St}(h:xC g w g' w' X st): ¬ X .none:=fun hx=>(h.X _ hx).1 (.inl rfl)
theorem xC.framed{g g':G}{w w':World}{X:Loc→Prop}{st:St}(h:xC g w g' w' X st):qX g w g' w':=⟨h.os,h.tape,h.output,h.evo.mono fun l hl=>(h.X l hl).1⟩

theorem xC.lf{g g':G}{w w':World}{X:Loc→Prop}{st:St}(h:xC g w g' w' X st)(hok:GOk g w){l:Loc}{v:Value}{x:T}(hl:l≠ .none)(hx:(st.fl l).hold=true→ ¬ X l)(hf:LF g w (st.fl l) l v x):LF g' w' (st.fl l) l v x:=by
  refine LF.evo h.evo hok hl h.none hx (fun hV=> ?_) hf
  rcases h.V with h1 | h1
  · exact h1
  · exact absurd hV (h1 l)

theorem RW.calm{g g':G}{w w':World}{X:Loc→Prop}{st:St}(h:xC g w g' w' X st)(hok:GOk g w)(hβ: ∀o,g'.β o=g.β o){i k:Nat}(hX: ∀j,(st.fl (.s i k j)).hold=true→ ¬ X (.s i k j)){v:Value}{x:W}(hr:RW g w (fun j=>st.fl (.s i k j)) (fun j=> .s i k j) v x):
    RW g' w' (fun j=>st.fl (.s i k j)) (fun j=> .s i k j) v x:=by
  cases x with
  | c y=>exact⟨hr.1,h.lf hok (by simp) (hX 0) hr.2⟩
  | ag xs=>
    obtain⟨cs,h1,h2,h3⟩:=hr
    refine⟨cs,h1,h2,fun j y hy=> ?_⟩
    obtain⟨c,c1,c2,c3⟩:=h3 j y hy
    exact⟨c,c1,c2,h.lf hok (by simp) (hX j) c3⟩
  | ptr o off=>simp only[RW]at hr ⊢; rw[hβ]; exact hr
  | cp xs=>
    obtain⟨b,off,h1,h2⟩:=hr
    refine⟨b,off,h1, ?_⟩
    have hc: ∀κ,κ=st.fl (.s i k 0)→CpR g w κ b off xs→CpR g' w' κ b off xs:=by
      intro κ hκ h2
      rcases h.V with hV | hV
      · exact h2.evo h.evo h.none (.inr (.inr hV))
      · cases κ with
        | D=>trivial
        | F=>exact h2.evo h.evo h.none (.inr (.inl rfl))
        | V=>exact absurd hκ.symm (hV (.s i k 0))
        | A n=>exact h2.elim
        | U n=>exact h2.elim
        | S=>exact h2.elim
        | N=>exact h2.elim
    exact hc _ rfl h2
  | nilp=>exact hr
  | ifc b=>exact hr
  | fn f caps=>simp only[RW]at hr ⊢; simp only[hβ]; exact hr
  | _=>trivial

theorem RV.calm{g g':G}{w w':World}{X:Loc→Prop}{st:St}(h:xC g w g' w' X st)(hok:GOk g w)(hβ: ∀o,g'.β o=g.β o){i:Nat}(hX: ∀k j,(st.fl (.s i k j)).hold=true→ ¬ X (.s i k j)){v:Value}{x:V}(hr:RV g w (fun k j=>st.fl (.s i k j)) (fun k j=> .s i k j) v x):
    RV g' w' (fun k j=>st.fl (.s i k j)) (fun k j=> .s i k j) v x:=by
  cases x with
  | one x=>exact RW.calm h hok hβ (hX 0) hr
  | tup ws=>
    obtain⟨vs,h1,h2,h3⟩:=hr
    refine⟨vs,h1,h2,fun k x hx=> ?_⟩
    obtain⟨u,hu,hR⟩:=h3 k x hx
    exact⟨u,hu,RW.calm h hok hβ (hX k) hR⟩

theorem Rd.pl{P:Nat→Prop}{w w':World}{v:Value}{x:T}(h:Rd P w v x)(hs: ∀b,P b→w'.heap[b]? =w.heap[b]?): ∀ {p:List (Nat×Nat)} {v':Value} {x':T},Pl w v x p v' x'→Pl w' v x p v' x':=by
  induction h with
  | sl b off len cap s es cs hl hc hss hP hm hr ih=>
    intro p v' x' hp
    cases hp with
    | nil=>exact .nil _ _
    | cons b off len cap es e c y i j p v' x' he hy hc h=>
      have e1:=hss i e he
      have h1:=hm i e j y he hy
      rw[e1]at hc
      rw[h1]at hc
      cases hc
      exact .cons b off len cap es e _ y i j p v' x' he hy (by rw[e1,bY (hs b hP)]; exact h1) (ih i e j y he hy h)
  | nil a cap=>
    intro p v' x' hp
    cases hp with
    | nil=>exact .nil _ _
    | cons b off len cap es e c y i j p v' x' he hy hc h=>simp at he
  | _=>
    intro p v' x' hp
    cases hp with
    | nil=>exact .nil _ _

theorem Ow.pl{Z:Nat→Prop}{deep:Bool}{w w':World}{t:Option Nat}{F:Nat→Prop}{v:Value}{x:T}(h:Ow Z deep w t F v x)(hZ: ∀b,Z b→w'.heap[b]? =w.heap[b]?):(∀b,F b→w'.heap[b]? =w.heap[b]?)→ ∀ {p:List (Nat×Nat)} {v':Value} {x':T},Pl w v x p v' x'→Pl w' v x p v' x':=by
  induction h with
  | frz F v x hd h=>intro _ p v' x' hp; exact h.pl hZ hp
  | sl t F b len cap s arr ty es own cs ht hb hh hl hc hcap hs ha hm hr ih=>
    intro hF p v' x' hp
    cases hp with
    | nil=>exact .nil _ _
    | cons _ off len cap es e c y i j p v' x' he hy hc h=>
      have e1:=hs i e he
      have h1:=hm i e j y he hy
      rw[Nat.zero_add,e1,cI w b _ arr ty _ hh,h1]at hc
      cases hc
      exact .cons b 0 len cap es e _ y i j p v' x' he hy (by rw[Nat.zero_add,e1,bY (hF b hb),cI w b _ arr ty _ hh]; exact h1) (ih i e j y he hy (fun k hk=>hF k hk.1) h)
  | nil t F a=>
    intro _ p v' x' hp
    cases hp with
    | nil=>exact .nil _ _
    | cons b off len cap es e c y i j p v' x' he hy hc h=>simp at he
  | _=>
    intro _ p v' x' hp
    cases hp with
    | nil=>exact .nil _ _

theorem Act.put_getD(a:Act)(d:Nat)(u:Value)(i:Nat)(hd:d<a.tmps.size):(a.put (some d) u).tmps.getD i undef=if i=d then u else a.tmps.getD i undef:=by
  simp only[Act.put,Array.getD_eq_getD_getElem?]
  by_cases h:i=d
  · subst h
    rw[if_pos rfl,Array.getElem?_setIfInBounds_self_of_lt hd]; rfl
  · rw[if_neg h,Array.getElem?_setIfInBounds_ne (Ne.symm h)]

def aS(d:Nat):Loc→Bool
  | .s i _ _=>i == d
  | _=>false

/-- Slot d filled. -/
def St.put(st:St)(d:Nat)(r:V)(κ:Nat→Nat→K):St:=
  { n:=st.n
    sl:=fun i=>if i=d then r else st.sl i
    ob:=st.ob
    fl:=fun l=>match l with
      | .s i k j=>if i=d then κ k j else if k=0∧j=0∧aS d (aI (st.sl i))=true then .D else st.fl (.s i k j)
      | l=>st.fl l }

theorem SR{g:G}{w:World}{κ κ':Nat→Nat→K}{l l':Nat→Nat→Loc}{v:Value}{x:V}(hx:aI x≠ .none):RV g w κ l v x=RV g w κ' l' v x:=by
  cases x with
  | one x=>cases x<;>first | rfl | exact absurd rfl hx
  | tup ws=>exact absurd rfl hx

theorem Ix(d:Nat):aS d .none=false:=rfl

/-- A place's value where the slot that is filled is another. -/
theorem yB{a:Act}{d:Nat}{u:Value}(hd:d<a.tmps.size){β:Nat→Nat}{w:World}{l:Loc}(hl:aS d l=false):vAt (a.put (some d) u).tmps β w l=vAt a.tmps β w l:=by
  cases l with
  | s i k j=>
    have:i≠d:=by intro e; subst e; simp [aS]at hl
    simp only[vAt]
    rw[Act.put_getD a d u i hd,if_neg this]
  | _=>rfl

theorem at_put{st:St}{d:Nat}{r:V}{κ:Nat→Nat→K}{l:Loc}(hl:aS d l=false):(st.put d r κ).at l=st.at l:=by
  cases l with
  | s i k j=>
    have:i≠d:=by intro e; subst e; simp [aS]at hl
    simp only[St.at,atL,St.put,if_neg this]
  | _=>rfl

theorem EJ.congr{st st':St}{tmps tmps':Array Value}{β β':Nat→Nat}{w w':World}{v:Value}{x:V}(h:EJ st tmps β w v x)(h1:vAt tmps' β' w' (aI x)=vAt tmps β w (aI x))(h2:st'.at (aI x)=st.at (aI x))
    (h3: ∀v0 x0 p v' x',vAt tmps β w (aI x)=some v0→st.at (aI x)=some x0→Pl w v0 x0 p v' x'→Pl w' v0 x0 p v' x'):EJ st' tmps' β' w' v x:=by
  cases x with
  | tup ws=>trivial
  | one x=>
    cases x with
    | al l p=>
      obtain⟨v0,x0,x',e1,e2,e3⟩:=h
      exact⟨v0,x0,x',h1.trans e1,h2.trans e2,h3 _ _ _ _ _ e1 e2 e3⟩
    | pp l p i j=>
      obtain⟨v0,x0,b,off,len,cap,es,e,e1,e2,e3,e4⟩:=h
      exact⟨v0,x0,b,off,len,cap,es,e,h1.trans e1,h2.trans e2,h3 _ _ _ _ _ e1 e2 e3,e4⟩
    | _=>trivial

/-- What a root's holder owes lets what lies in it be found where it was. -/
theorem bQ.pl_evo{g0:G}{w0:World}{st:St}{a:Act}{g:G}{w:World}(h:bQ g0 w0 st a g w){g':G}{w':World}{X:Loc→Prop}(hE:Evo g w g' w' X)(hn: ¬ X .none){l:Loc}(hk:(st.fl l).hold=true)(hX: ¬ X l){v0:Value}{x0:T}(hv:vAt a.tmps g.β w l=some v0)(hx:st.at l=some x0)
    {p:List (Nat×Nat)}{v':Value}{x':T}(hp:Pl w v0 x0 p v' x'):Pl w' v0 x0 p v' x':=by
  obtain⟨v,e1,_,e2⟩:=h.get hx
  rw[hv]at e1
  cases e1
  have hl:=(FR hx).1
  have hZ: ∀b,frz g w b→w'.heap[b]? =w.heap[b]? :=fun b hb=>(hE.keep b hb.1 (by rw[hb.2]; exact hn)).2
  have hF: ∀b,g.own b=l→w'.heap[b]? =w.heap[b]? :=fun b hb=>(hE.keep b (h.ok.own b (by rw[hb]; exact hl)) (by rw[hb]; exact hX)).2
  generalize st.fl l=κ at hk e2
  cases κ with
  | A n=>exact Ow.pl e2 hZ hF hp
  | U n=>exact Ow.pl e2 hZ hF hp
  | _=>simp [K.hold]at hk

theorem bQ.put{g0:G}{w0:World}{st:St}{a:Act}{g:G}{w:World}(h:bQ g0 w0 st a g w){g':G}{w':World}{X:Loc→Prop}(hC:xC g w g' w' X st)(hβ: ∀o,g'.β o=g.β o){d:Nat}(hd:d<st.n)
    (hX: ∀l,(st.fl l).hold=true→(∃x,st.at l=some x)→aS d l=false→ ¬ X l){u:Value}{r:V}{κ:Nat→Nat→K}(hr:RV g' w' κ (fun k j=> .s d k j) u r)
    (hpl:aI r≠ .none→κ 0 0≠ .D→(st.fl (aI r)).hold=true∧aS d (aI r)=false∧EJ st a.tmps g'.β w' u r):
    bQ g0 w0 (st.put d r κ) (a.put (some d) u) g' w':=by
  have hd':d<a.tmps.size:=by rw[h.size]; exact hd
  have hXl: ∀l x,st.at l=some x→aS d l=false→(st.fl l).hold=true→ ¬ X l:=fun l x hx hl hk=>hX l hk ⟨x,hx⟩ hl
  refine⟨h.framed.trans hC.framed,hC.ok, ?_,h.defers,fun i=> ?_,fun o cells hc=> ?_,fun i hi hf=> ?_,fun o ho=>(hβ o).trans (h.bp o ho),h.nle⟩
  · simp only[Act.put,Array.size_setIfInBounds]; exact h.size
  · rw[Act.put_getD a d u i hd']
    by_cases hi:i=d
    · subst hi
      simp only[St.put,if_true]
      exact hr
    · simp only[St.put,if_neg hi]
      by_cases hroot:aI (st.sl i)= .none
      · have e:(fun k j=>if k=0∧j=0∧aS d (aI (st.sl i))=true then K.D else st.fl (.s i k j))=fun k j=>st.fl (.s i k j):=by
          funext k j
          rw[hroot,Ix,if_neg (by simp)]
        rw[e]
        -- only what is there has to stay
        have hsl:=h.slots i
        generalize hs:st.sl i=x at hsl
        have hat: ∀k j t,x.leaf k j=some t→st.at (.s i k j)=some t:=fun k j t ht=>by rw[St.at_s,hs]; exact ht
        have hns: ∀k j,aS d (.s i k j)=false:=fun k j=>by simp [aS,hi]
        have hW: ∀k (y:W),(∀j t,y.leaf j=some t→st.at (.s i k j)=some t)→ ∀v,RW g w (fun j=>st.fl (.s i k j)) (fun j=> .s i k j) v y→RW g' w' (fun j=>st.fl (.s i k j)) (fun j=> .s i k j) v y:=by
          intro k y hy v hR
          cases y with
          | c z=>exact⟨hR.1,hC.lf h.ok (by simp) (hXl _ z (hy 0 z rfl) (hns k 0)) hR.2⟩
          | ag xs=>
            obtain⟨cs,h1,h2,h3⟩:=hR
            refine⟨cs,h1,h2,fun j z hz=> ?_⟩
            obtain⟨c,c1,c2,c3⟩:=h3 j z hz
            exact⟨c,c1,c2,hC.lf h.ok (by simp) (hXl _ z (hy j z hz) (hns k j)) c3⟩
          | ptr o off=>simp only[RW]at hR ⊢; rw[hβ]; exact hR
          | cp xs=>
            obtain⟨b,off,h1,h2⟩:=hR
            refine⟨b,off,h1, ?_⟩
            have hc: ∀κ,κ=st.fl (.s i k 0)→CpR g w κ b off xs→CpR g' w' κ b off xs:=by
              intro κ hκ h2
              rcases hC.V with hV | hV
              · exact h2.evo hC.evo hC.none (.inr (.inr hV))
              · cases κ with
                | D=>trivial
                | F=>exact h2.evo hC.evo hC.none (.inr (.inl rfl))
                | V=>exact absurd hκ.symm (hV (.s i k 0))
                | A n=>exact h2.elim
                | U n=>exact h2.elim
                | S=>exact h2.elim
                | N=>exact h2.elim
            exact hc _ rfl h2
          | nilp=>exact hR
          | ifc b=>exact hR
          | fn f caps=>simp only[RW]at hR ⊢; simp only[hβ]; exact hR
          | _=>trivial
        cases x with
        | one y=>exact hW 0 y (fun j t ht=>hat 0 j t ht) _ hsl
        | tup ws=>
          obtain⟨vs,h1,h2,h3⟩:=hsl
          refine⟨vs,h1,h2,fun k y hy=> ?_⟩
          obtain⟨v,hv,hR⟩:=h3 k y hy
          exact⟨v,hv,hW k y (fun j t ht=>hat k j t (by simp [V.leaf,hy,ht])) v hR⟩
      · have hsl:=h.slots i
        have: ∀(x:V),aI x≠ .none→ ∀κ l v,RV g' w' κ l v x:=by
          intro x hx κ l v
          cases x with
          | one x=>cases x<;>first | trivial | exact absurd rfl hx
          | tup ws=>exact absurd rfl hx
        exact this _ hroot _ _ _
  · obtain⟨arr,ty,h1,h2,h3,h4⟩:=h.obs o cells hc
    have hb:g.β o<w.heap.size:=h.ok.own _ (by rw[h3]; simp)
    obtain⟨k1,k2⟩:=hC.evo.keep (g.β o) hb (by rw[h3]; exact fun hx=>(hC.X _ hx).2 o rfl)
    rw[hβ]
    refine⟨arr,ty,k2.trans h1,h2,k1.trans h3,fun j x hx=> ?_⟩
    obtain⟨c,c1,c2,c3⟩:=h4 j x hx
    exact⟨c,c1,c2,hC.lf h.ok (by simp) (hXl _ x (by rw[St.at_oc]; have:st.ob o=some cells:=hc; rw[this]; exact hx) rfl) c3⟩
  · by_cases hid:i=d
    · subst hid
      have e1:(st.put i r κ).sl i=r:=by simp [St.put]
      have e2:(st.put i r κ).fl (.s i 0 0)=κ 0 0:=by simp [St.put]
      rw[e1]at hi ⊢
      rw[e2]at hf
      obtain⟨h1,h2,h3⟩:=hpl hi hf
      · refine⟨?_, ?_⟩
        · have:(st.put i r κ).fl (aI r)=st.fl (aI r):=by
            generalize hrr:aI r=l at*
            cases l with
            | s i' k j=>
              have hne:i'≠i:=by intro e; subst e; simp [aS]at h2
              have hns:aS i (aI (st.sl i'))=false∨ ¬ (k=0∧j=0):=by
                by_cases hkj:k=0∧j=0
                · left
                  obtain⟨rfl,rfl⟩:=hkj
                  -- a root is a datum's place, no alias
                  have hx: ∃x,st.at (.s i' 0 0)=some x:=by
                    generalize hrv:r=rv at h3 hrr
                    cases rv with
                    | tup ws=>simp [aI]at hrr
                    | one y=>
                      cases y with
                      | al l p=>simp only[aI]at hrr; subst hrr; obtain⟨_,x0,_,_,e,_⟩:=h3; exact⟨x0,e⟩
                      | pp l p a b=>simp only[aI]at hrr; subst hrr; obtain⟨_,x0,_,_,_,_,_,_,_,e,_⟩:=h3; exact⟨x0,e⟩
                      | _=>simp [aI]at hrr
                  obtain⟨x,hx⟩:=hx
                  rw[St.at_s]at hx
                  cases hsl:st.sl i' with
                  | tup ws=>rfl
                  | one y=>cases y<;>first | rfl | (rw[hsl]at hx; simp [V.leaf,W.leaf]at hx)
                · exact .inr hkj
              simp only[St.put,if_neg hne]
              rw[if_neg]
              rintro ⟨a1,a2,a3⟩
              rcases hns with h | h
              · rw[h]at a3; cases a3
              · exact h ⟨a1,a2⟩
            | _=>rfl
          rw[this]; exact h1
        · have h4:(a.put (some i) u).tmps.getD i undef=u:=by rw[Act.put_getD a i u i hd',if_pos rfl]
          rw[h4]
          exact h3.congr (yB hd' h2) (at_put h2) (fun _ _ _ _ _ _ _ h=>h)
    · have e1:(st.put d r κ).sl i=st.sl i:=by simp [St.put,hid]
      rw[e1]at hi ⊢
      have hf':aS d (aI (st.sl i))=false∧st.fl (.s i 0 0)≠ .D:=by
        simp only[St.put,if_neg hid,true_and]at hf
        by_cases hs:aS d (aI (st.sl i))=true
        · rw[if_pos hs]at hf; exact absurd rfl hf
        · rw[if_neg hs]at hf; exact⟨by simpa using hs,hf⟩
      obtain⟨h1,h2⟩:=h.pls i hi hf'.2
      have hroot: ∃x,st.at (aI (st.sl i))=some x:=by
        generalize hrv:st.sl i=rv at h2 hi
        cases rv with
        | tup ws=>simp [aI]at hi
        | one y=>
          cases y with
          | al l p=>obtain⟨_,x0,_,_,e,_⟩:=h2; exact⟨x0,e⟩
          | pp l p a b=>obtain⟨_,x0,_,_,_,_,_,_,_,e,_⟩:=h2; exact⟨x0,e⟩
          | _=>simp [aI]at hi
      obtain⟨x0,hx0⟩:=hroot
      have hnX:=hXl _ _ hx0 hf'.1 h1
      refine⟨?_, ?_⟩
      · have:(st.put d r κ).fl (aI (st.sl i))=st.fl (aI (st.sl i)):=by
          generalize hrr:aI (st.sl i)=l at*
          cases l with
          | s i' k j=>
            have hne:i'≠d:=by intro e; subst e; simp [aS]at hf'
            simp only[St.put,if_neg hne]
            rw[if_neg]
            rintro ⟨rfl,rfl,a3⟩
            rw[St.at_s]at hx0
            cases hsl:st.sl i' with
            | tup ws=>rw[hsl]at a3; simp [aI,aS]at a3
            | one y=>cases y<;>first | (rw[hsl]at a3; simp [aI,aS]at a3; done) | (rw[hsl]at hx0; simp [V.leaf,W.leaf]at hx0)
          | _=>rfl
        rw[this]; exact h1
      · rw[Act.put_getD a d u i hd',if_neg hid]
        refine h2.congr ?_ (at_put hf'.1) (fun v0 x0 p v' x' e1 e2 hp=>h.pl_evo hC.evo hC.none h1 hnX e1 e2 hp)
        rw[yB hd' hf'.1]
        generalize aI (st.sl i)=l at*
        cases l with
        | oc o j=>
          simp only[vAt]
          rw[hβ]
          simp only[St.at,atL,Option.bind_eq_some_iff]at hx0
          obtain⟨cells,hc,_⟩:=hx0
          obtain⟨arr,ty,k1,k2,k3,k4⟩:=h.obs o cells hc
          exact bY (hC.evo.keep (g.β o) (h.ok.own _ (by rw[k3]; simp)) (by rw[k3]; exact fun hx=>(hC.X _ hx).2 o rfl)).2
        | _=>rfl
end Go.Own

/- What is turned without a step: a kind made less, a holder's datum shut, what was one place's made another's. -/
namespace Go.Own
open Go.RowKit

def V.comp:V→Nat→Option W
 | .one w,0=>some w
 | .tup ws,k=>ws[k]?
 | _,_=>none

theorem RW.map{g g':G}{w w':World}{κ κ':Nat→K}{l l':Nat→Loc}{v:Value}{x:W}(hβ: ∀o,g'.β o=g.β o)(hleaf: ∀j t u,x.leaf j=some t→FW v j=some u→mS u→LF g w (κ j) (l j) u t→LF g' w' (κ' j) (l' j) u t)
  (hcp: ∀xs,x= .cp xs→ ∀b off,CpR g w (κ 0) b off xs→CpR g' w' (κ' 0) b off xs)(h:RW g w κ l v x):RW g' w' κ' l' v x:=by
 cases x with
 | c y=>exact⟨h.1,hleaf 0 y v rfl (gH h.1).1 h.1 h.2⟩
 | ag xs=>
  obtain⟨cs,rfl,h2,h3⟩:=h
  refine⟨cs,rfl,h2,fun j y hy=> ?_⟩
  obtain⟨c,c1,c2,c3⟩:=h3 j y hy
  exact⟨c,c1,c2,hleaf j y c hy c1 c2 c3⟩
 | ptr o off=>simp only[RW]at h ⊢; rw[hβ]; exact h
 | cp xs=>
  obtain⟨b,off,h1,h2⟩:=h
  exact⟨b,off,h1,hcp xs rfl b off h2⟩
 | nilp=>exact h
 | ifc b=>exact h
 | fn f caps=>simp only[RW]at h ⊢; simp only[hβ]; exact h
 | _=>trivial

theorem RV.map{g g':G}{w w':World}{κ κ':Nat→Nat→K}{l l':Nat→Nat→Loc}{v:Value}{x:V}(hβ: ∀o,g'.β o=g.β o)(hleaf: ∀k j t u,x.leaf k j=some t→pR v k j=some u→mS u→LF g w (κ k j) (l k j) u t→LF g' w' (κ' k j) (l' k j) u t)
  (hcp: ∀k xs,x.comp k=some (.cp xs)→ ∀b off,CpR g w (κ k 0) b off xs→CpR g' w' (κ' k 0) b off xs)(h:RV g w κ l v x):RV g' w' κ' l' v x:=by
 cases x with
 | one x=>
  refine RW.map hβ (fun j t u hj hu hn hf=>hleaf 0 j t u hj ?_ hn hf) (fun xs hx=>hcp 0 xs (by rw[hx]; rfl)) h
  have hx:RW g w (κ 0) (l 0) v x:=h
  obtain⟨u',h1,h2,_⟩:=RW.leaf hx hj
  rw[h1]at hu; cases hu; exact h2
 | tup ws=>
  obtain⟨vs,rfl,h2,h3⟩:=h
  refine⟨vs,rfl,h2,fun k x hx=> ?_⟩
  obtain⟨u,hu,hR⟩:=h3 k x hx
  refine⟨u,hu,RW.map hβ (fun j t u' hj hu' hn hf=>hleaf k j t u' (by simp [V.leaf,hx,hj]) (by simp [pR,hu,hu']) hn hf) (fun xs hx'=>hcp k xs (by simp only[V.comp]; rw[hx,hx'])) hR⟩

theorem CpR.own{g g':G}{w:World}{κ:K}{b off:Nat}{xs:List T}(hZ: ∀b,g.own b= .none→g'.own b= .none)(hA: ∀b,all g w b→all g' w b)(h:CpR g w κ b off xs):CpR g' w κ b off xs:=by
 have hZ': ∀b,frz g w b→frz g' w b:=fun b hb=>⟨hb.1,hZ b hb.2⟩
 cases κ with
 | F=>
  obtain⟨h1,h2⟩:=h
  refine⟨hZ' _ h1,fun j x hx=> ?_⟩
  obtain⟨c,hc,hr⟩:=h2 j x hx
  exact⟨c,hc,hr.weaken hZ'⟩
 | V=>
  obtain⟨h1,h2⟩:=h
  refine⟨hA _ h1,fun j x hx=> ?_⟩
  obtain⟨c,hc,hr⟩:=h2 j x hx
  exact⟨c,hc,hr.weaken hA⟩
 | _=>exact h

/-- Kinds turned; what lies in a place that R tells of is known no more. -/
def St.setf(st:St)(R:Loc→Bool)(f:Loc→K):St:=
 { st with fl:=fun m=>match m with
  | .s i k j=>if k=0∧j=0∧R (aI (st.sl i))=true then .D else f (.s i k j)
  | m=>f m }

theorem sP{st:St}{i:Nat}{x:T}(h:st.at (.s i 0 0)=some x):aI (st.sl i)= .none:=by
 rw[St.at_s]at h
 cases hsl:st.sl i with
 | tup ws=>rfl
 | one y=>cases y<;>first | rfl | (rw[hsl]at h; simp [V.leaf,W.leaf]at h)

/-- A datum's place is told of by f. -/
theorem uU{st:St}{R:Loc→Bool}{f:Loc→K}(hR:R .none=false){l:Loc}{x:T}(hx:st.at l=some x):(st.setf R f).fl l=f l:=by
 cases l with
 | s i k j=>
  simp only[St.setf]
  rw[if_neg]
  rintro ⟨rfl,rfl,h⟩
  rw[sP hx,hR]at h
  cases h
 | _=>rfl

theorem EJ.root{st:St}{tmps:Array Value}{β:Nat→Nat}{w:World}{v:Value}{x:V}(h:EJ st tmps β w v x)(hx:aI x≠ .none): ∃t,st.at (aI x)=some t:=by
 cases x with
 | tup ws=>exact absurd rfl hx
 | one y=>
  cases y with
  | al l p=>obtain⟨_,x0,_,_,e,_⟩:=h; exact⟨x0,e⟩
  | pp l p a b=>obtain⟨_,x0,_,_,_,_,_,_,_,e,_⟩:=h; exact⟨x0,e⟩
  | _=>exact absurd rfl hx

theorem bQ.setf{g0:G}{w0:World}{st:St}{a:Act}{g:G}{w:World}(h:bQ g0 w0 st a g w){g':G}{R:Loc→Bool}{f:Loc→K}(hR:R .none=false)(hβ: ∀o,g'.β o=g.β o)(hok:GOk g' w)
  (hfor: ∀b,oC (g.own b)→g'.own b=g.own b)(hobj: ∀b o,g.own b= .obj o→g'.own b= .obj o)(hA: ∀b,all g w b→all g' w b)
  (hL: ∀l x v,st.at l=some x→vAt a.tmps g.β w l=some v→LF g w (st.fl l) l v x→LF g' w (f l) l v x)
  (hcp: ∀i k xs b off,(st.sl i).comp k=some (.cp xs)→CpR g w (st.fl (.s i k 0)) b off xs→CpR g w (f (.s i k 0)) b off xs)
  (hroot: ∀i,aI (st.sl i)≠ .none→R (aI (st.sl i))=false→f (.s i 0 0)≠ .D→st.fl (.s i 0 0)≠ .D∧((st.fl (aI (st.sl i))).hold=true→(f (aI (st.sl i))).hold=true)):
  bQ g0 w0 (st.setf R f) a g' w:=by
 have hZ: ∀b,g.own b= .none→g'.own b= .none:=fun b hb=>(hfor b (.inl hb)).trans hb
 refine⟨⟨h.framed.os,h.framed.tape,h.framed.output,h.framed.evo.size,fun b hb hX=> ?_⟩,hok,h.size,h.defers,fun i=> ?_,fun o cells hc=> ?_,fun i hi hf=> ?_,fun o ho=>(hβ o).trans (h.bp o ho),h.nle⟩
 ·obtain⟨e1,e2⟩:=h.framed.evo.keep b hb hX
  have hX':oC (g0.own b):=Classical.not_not.1 hX
  exact⟨(hfor b (by rw[e1]; exact hX')).trans e1,e2⟩
 ·have hs:=h.slots i
  show RV g' w (fun k j=>(st.setf R f).fl (.s i k j)) (fun k j=> .s i k j) (a.tmps.getD i undef) (st.sl i)
  refine hs.map hβ (fun k j t u hj hu _ hf=> ?_) (fun k xs hx b off hc=> ?_)
  ·have hat:st.at (.s i k j)=some t:=hj
   rw[uU hR hat]
   exact hL _ t u hat hu hf
  ·have e:(st.setf R f).fl (.s i k 0)=f (.s i k 0):=by
    simp only[St.setf]
    rw[if_neg]
    rintro ⟨rfl,_,h3⟩
    have:st.sl i= .one (.cp xs):=by
     cases hsl:st.sl i with
     | one y=>rw[hsl]at hx; simp only[V.comp,Option.some.injEq]at hx; rw[hx]
     | tup ws=>rw[hsl]at h3; rw[show aI (V.tup ws)= .none from rfl,hR]at h3; cases h3
    rw[this,show aI (V.one (.cp xs))= .none from rfl,hR]at h3
    cases h3
   show CpR g' w ((st.setf R f).fl (.s i k 0)) b off xs
   rw[e]
   exact CpR.own hZ hA (hcp i k xs b off hx hc)
 ·obtain⟨arr,ty,h1,h2,h3,h4⟩:=h.obs o cells hc
  rw[hβ]
  refine⟨arr,ty,h1,h2,hobj _ _ h3,fun j x hx=> ?_⟩
  obtain⟨c,c1,c2,c3⟩:=h4 j x hx
  have hat:st.at (.oc o j)=some x:=by rw[St.at_oc]; have:st.ob o=some cells:=hc; rw[this]; exact hx
  exact⟨c,c1,c2,hL (.oc o j) x c hat (by simp only[vAt]; rw[cI w _ j arr ty _ h1]; exact c1) c3⟩
 ·have hi':aI (st.sl i)≠ .none:=hi
  have hf1:R (aI (st.sl i))=false∧f (.s i 0 0)≠ .D:=by
   simp only[St.setf,true_and]at hf
   by_cases hs:R (aI (st.sl i))=true
   ·rw[if_pos hs]at hf; exact absurd rfl hf
   ·rw[if_neg hs]at hf; exact⟨by simpa using hs,hf⟩
  obtain⟨k1,k2⟩:=hroot i hi' hf1.1 hf1.2
  obtain⟨p1,p2⟩:=h.pls i hi' k1
  obtain⟨t,ht⟩:=p2.root hi'
  refine⟨?_, ?_⟩
  ·show((st.setf R f).fl (aI (st.sl i))).hold=true
   rw[uU hR ht]; exact k2 p1
  ·have hβ':g'.β=g.β:=funext hβ
   rw[hβ']
   exact p2.congr rfl rfl (fun _ _ _ _ _ _ _ h=>h)

/-! ### a kind made less -/
def St.lower(st:St)(l:Loc)(κ:K):St:=st.setf (fun m=>decide (m=l)) (fun m=>if m=l then κ else st.fl m)

theorem CpR.toV{g:G}{w:World}{κ:K}{b off:Nat}{xs:List T}(h:CpR g w κ b off xs)(hκ:κ≠ .D):CpR g w .V b off xs:=by
 cases κ with
 | D=>exact absurd rfl hκ
 | V=>exact h
 | F=>
  obtain⟨h1,h2⟩:=h
  refine⟨h1.all,fun j x hx=> ?_⟩
  obtain⟨c,hc,hr⟩:=h2 j x hx
  exact⟨c,hc,hr.weaken fun b hb=>hb.all⟩
 | A n=>exact h.elim
 | U n=>exact h.elim
 | S=>exact h.elim
 | N=>exact h.elim

/-- A kind that is had without more. -/
def K.lo:K→K→Bool
 | _, .D=>true
 | .D,_=>false
 | _, .V=>true
 | .U n, .A m=>n == m&& !(m == 0)
 | .U n, .U m=>n == m||m == 0
 | .N, .A _=>true
 | .N, .U _=>true
 | .N, .F=>true
 | .S, .N=>false
 | .S,_=>true
 | a,b=>decide (a=b)

theorem LF.lo{g:G}{w:World}{κ κ':K}{l:Loc}{v:Value}{x:T}(hok:GOk g w)(hl:l.place=true)(h:LF g w κ l v x)(hk:κ.lo κ'=true):LF g w κ' l v x:=by
 by_cases e:κ=κ'
 ·subst e; exact h
 by_cases hD:κ'= .D
 ·subst hD
  exact fun hs=>LF.scal (g':=g) (w':=w) (κ':= .D) (l':=l) h hs (by simp) hs
 by_cases hD2:κ= .D
 ·subst hD2; cases κ'<;>simp [K.lo]at hk hD
 by_cases hV:κ'= .V
 ·subst hV
  exact h.rd hok hl hD2
 cases κ with
 | D=>exact absurd rfl hD2
 | S=>
  refine LF.scal h h.1 ?_
  intro e2; subst e2; simp [K.lo]at hk
 | N=>
  obtain⟨rfl,a,rfl⟩:=h
  cases κ' with
  | A n=>exact .nil _ _ _
  | U n=>exact .nil _ _ _
  | F=>exact .nil _ _
  | _=>simp_all [K.lo]
 | U n=>
  cases κ' with
  | A m=>
   have:n=m∧ ¬ m=0:=by simpa [K.lo]using hk
   obtain⟨rfl,h0⟩:=this
   have h:Ow (frz g w) true w (gJ n) (fun b=>g.own b=l) v x:=h
   rw[oO (by omega)]at h
   exact Ow.mono (deep':=false) h (by simp) (by simp) (fun b hb=>⟨hb,rfl⟩)
  | U m=>
   have hm:m=0:=by
    have h2:n=m∨m=0:=by simpa [K.lo]using hk
    rcases h2 with h2 | h2
    ·subst h2; exact absurd rfl e
    ·exact h2
   subst hm
   have h:Ow (frz g w) true w (gJ n) (fun b=>g.own b=l) v x:=h
   cases n with
   | zero=>exact absurd rfl e
   | succ n=>exact h.sub
  | _=>simp_all [K.lo]
 | _=>cases κ'<;>simp_all [K.lo]

theorem CpR.lo{g:G}{w:World}{κ κ':K}{b off:Nat}{xs:List T}(h:CpR g w κ b off xs)(hk:κ.lo κ'=true):CpR g w κ' b off xs:=by
 cases κ with
 | D=>cases κ'<;>first | exact h | simp [K.lo]at hk
 | V=>cases κ'<;>first | exact h | trivial | simp [K.lo]at hk
 | F=>cases κ'<;>first | exact h | trivial | exact h.toV (by simp) | simp [K.lo]at hk
 | _=>exact h.elim

theorem bQ.lower{g0:G}{w0:World}{st:St}{a:Act}{g:G}{w:World}(h:bQ g0 w0 st a g w){l:Loc}{κ:K}(hp:l.place=true)(hκ:(st.fl l).lo κ=true):bQ g0 w0 (st.lower l κ) a g w:=by
 have hl:=(Loc.place_ne hp).1
 refine h.setf (by simp [Ne.symm hl]) (fun _=>rfl) h.ok (fun _ _=>rfl) (fun _ _ h=>h) (fun _ h=>h) (fun m x v hx hv hf=> ?_) (fun i k xs b off hcx hc=> ?_) (fun i hi hR hf=> ?_)
 ·by_cases e:m=l
  ·subst e
   rw[if_pos rfl]
   exact hf.lo h.ok hp hκ
  ·rw[if_neg e]; exact hf
 ·by_cases e:Loc.s i k 0=l
  ·rw[if_pos e]
   rw[e]at hc
   exact hc.lo hκ
  ·rw[if_neg e]; exact hc
 ·have hne:aI (st.sl i)≠l:=by simpa using hR
  refine⟨?_,fun h=>by rw[if_neg hne]; exact h⟩
  by_cases e:Loc.s i 0 0=l
  ·rw[if_pos e]at hf
   rw[e]
   intro e2
   rw[e2]at hκ
   cases κ<;>simp [K.lo]at hκ hf
  ·rw[if_neg e]at hf; exact hf

/-! ### a holder's datum shut -/
def G.freeze(g:G)(l:Loc):G:= { β:=g.β,own:=fun b=>if g.own b=l then .none else g.own b }
def St.freeze(st:St)(l:Loc):St:=st.setf (fun m=>decide (m=l)) (fun m=>if m=l then .F else st.fl m)

theorem bQ.freeze{g0:G}{w0:World}{st:St}{a:Act}{g:G}{w:World}(h:bQ g0 w0 st a g w){l:Loc}(hp:l.place=true)(hκ:st.fl l≠ .D∧st.fl l≠ .V):bQ g0 w0 (st.freeze l) a (g.freeze l) w:=by
 obtain⟨hl,hle,hlo⟩:=Loc.place_ne hp
 have hown: ∀b m,m≠l→g.own b=m→(g.freeze l).own b=m:=fun b m hm hb=>by simp only[G.freeze]; rw[if_neg (by rw[hb]; exact hm)]; exact hb
 have hZ: ∀b,g.own b= .none→(g.freeze l).own b= .none:=fun b hb=>hown b _ (Ne.symm hl) hb
 have hA: ∀b,all g w b→all (g.freeze l) w b:=fun b hb=>⟨hb.1,fun o=>by
  show(if g.own b=l then Loc.none else g.own b)≠ .obj o
  split
  ·simp
  ·exact hb.2 o⟩
 have hokf:GOk (g.freeze l) w:=⟨fun b hb=>h.ok.own b (fun e=>hb (hZ b e))⟩
 refine h.setf (by simp [Ne.symm hl]) (fun _=>rfl) hokf (fun b hb=> ?_) (fun b o hb=>hown b _ (Ne.symm (hlo o)) hb) hA (fun m x v hx hv hf=> ?_) (fun i k xs b off hcx hc=> ?_) (fun i hi hR hf=> ?_)
 ·rcases hb with hb | hb
  ·rw[hb]; exact hZ b hb
  ·rw[hb]; exact hown b _ (Ne.symm hle) hb
 ·by_cases e:m=l
  ·subst e
   rw[if_pos rfl]
   exact LF.freeze (l':=m) h.ok hl hκ (fun b hb=>by simp [G.freeze,hb]) hZ hf
  ·rw[if_neg e]
   exact hf.moved (fun b hb=>hown b m e hb) hZ hA
 ·by_cases e:Loc.s i k 0=l
  ·rw[if_pos e]
   rw[e]at hc
   generalize st.fl l=κ at hc hκ
   cases κ with
   | D=>exact absurd rfl hκ.1
   | V=>exact absurd rfl hκ.2
   | F=>exact hc
   | A n=>exact hc.elim
   | U n=>exact hc.elim
   | S=>exact hc.elim
   | N=>exact hc.elim
  ·rw[if_neg e]; exact hc
 ·have hne:aI (st.sl i)≠l:=by simpa using hR
  refine⟨?_,fun h=>by rw[if_neg hne]; exact h⟩
  by_cases e:Loc.s i 0 0=l
  ·rw[e]; exact hκ.1
  ·rw[if_neg e]at hf; exact hf

/-! ### what is read until something is turned, struck -/
def St.killV(st:St):St:=st.setf (fun _=>false) (fun m=>if st.fl m= .V then .D else st.fl m)

theorem bQ.killV{g0:G}{w0:World}{st:St}{a:Act}{g:G}{w:World}(h:bQ g0 w0 st a g w):bQ g0 w0 st.killV a g w:=by
 refine h.setf rfl (fun _=>rfl) h.ok (fun _ _=>rfl) (fun _ _ h=>h) (fun _ h=>h) (fun m x v hx hv hf=> ?_) (fun i k xs b off hcx hc=> ?_) (fun i hi hR hf=> ?_)
 ·by_cases e:st.fl m= .V
  ·rw[if_pos e]
   exact fun hs=>LF.scal (g':=g) (w':=w) (κ':= .D) (l':=m) hf hs (by simp) hs
  ·rw[if_neg e]; exact hf
 ·by_cases e:st.fl (.s i k 0)= .V
  ·rw[if_pos e]; trivial
  ·rw[if_neg e]; exact hc
 ·refine⟨fun e=>hf (by rw[e]; simp),fun h=> ?_⟩
  have:st.fl (aI (st.sl i))≠ .V:=by intro e; rw[e]at h; simp [K.hold]at h
  rw[if_neg this]; exact h

theorem qK(st:St)(l:Loc):(st.killV).fl l≠ .V:=by
 have: ∀m,(if st.fl m= .V then K.D else st.fl m)≠ .V:=by
  intro m
  split
  ·simp
  ·assumption
 cases l with
 | s i k j=>
  simp only[St.killV,St.setf]
  rw[if_neg (by simp)]
  exact this _
 | _=>exact this _

/-! ### one place's made another's -/
def G.mv(g:G)(l l':Loc):G:= { β:=g.β,own:=fun b=>if g.own b=l then l' else g.own b }
def St.mv(st:St)(l l':Loc):St:=st.setf (fun m=>decide (m=l)||decide (m=l')) (fun m=>if m=l' then st.fl l else if m=l then(st.fl l).cp else st.fl m)

theorem bQ.mvG{g0:G}{w0:World}{st:St}{a:Act}{g:G}{w:World}(h:bQ g0 w0 st a g w){l l':Loc}(h1:l.place=true)(h2:l'.place=true)(hne:l≠l')
  (hs: ∃x,st.at l=some x)(hs': ∃x,st.at l'=some x)(hnew: ∀x v,st.at l'=some x→vAt a.tmps g.β w l'=some v→LF (g.mv l l') w (st.fl l) l' v x):bQ g0 w0 (st.mv l l') a (g.mv l l') w:=by
 obtain⟨hl,hle,hlo⟩:=Loc.place_ne h1
 obtain⟨hl',hle',hlo'⟩:=Loc.place_ne h2
 have hown: ∀b m,m≠l→g.own b=m→(g.mv l l').own b=m:=fun b m hm hb=>by simp only[G.mv]; rw[if_neg (by rw[hb]; exact hm)]; exact hb
 have hZ: ∀b,g.own b= .none→(g.mv l l').own b= .none:=fun b hb=>hown b _ (Ne.symm hl) hb
 have hA: ∀b,all g w b→all (g.mv l l') w b:=fun b hb=>⟨hb.1,fun o=>by
  show(if g.own b=l then l' else g.own b)≠ .obj o
  split
  ·exact hlo' o
  ·exact hb.2 o⟩
 have hok':GOk (g.mv l l') w:=⟨fun b hb=>h.ok.own b (fun e=>hb (hZ b e))⟩
 obtain⟨x0,hx0⟩:=hs
 have hncp: ∀i k,(Loc.s i k 0=l∨Loc.s i k 0=l')→ ∃x,st.at (.s i k 0)=some x:=by
  rintro i k (e | e)
  ·rw[e]; exact⟨x0,hx0⟩
  ·rw[e]; exact hs'
 have hroot0: ∀i,(Loc.s i 0 0=l∨Loc.s i 0 0=l')→aI (st.sl i)= .none:=fun i e=>by
  obtain⟨x,hx⟩:=hncp i 0 e
  exact sP hx
 refine h.setf (by simp [Ne.symm hl,Ne.symm hl']) (fun _=>rfl) hok' (fun b hb=> ?_) (fun b o hb=>hown b _ (Ne.symm (hlo o)) hb) hA (fun m x v hx hv' hf=> ?_) (fun i k xs b off hcx hc=> ?_) (fun i hi hR hf=> ?_)
 ·rcases hb with hb | hb
  ·rw[hb]; exact hZ b hb
  ·rw[hb]; exact hown b _ (Ne.symm hle) hb
 ·by_cases e1:m=l'
  ·subst e1
   rw[if_pos rfl]
   exact hnew x v hx hv'
  ·rw[if_neg e1]
   by_cases e2:m=l
   ·subst e2
    rw[if_pos rfl]
    have h3:=hf.cp (l':=m) h.ok h1
    -- a copy's kind is no holder's
    cases hk:st.fl m<;>rw[hk]at h3<;>first | exact h3 | exact Rd.weaken hA h3 | exact Rd.weaken (fun b hb=>⟨hb.1,hZ b hb.2⟩) h3
   ·rw[if_neg e2]
    exact hf.moved (fun b hb=>hown b m e2 hb) hZ hA
 ·by_cases e:Loc.s i k 0=l∨Loc.s i k 0=l'
  ·obtain⟨y,hy⟩:=hncp i k e
   exfalso
   rw[St.at_s]at hy
   cases hsl:st.sl i with
   | one z=>
    rw[hsl]at hcx hy
    cases k with
    | zero=>simp only[V.comp,Option.some.injEq]at hcx; rw[hcx]at hy; simp [V.leaf,W.leaf]at hy
    | succ k=>simp [V.comp]at hcx
   | tup ws=>rw[hsl]at hcx hy; simp only[V.comp]at hcx; simp [V.leaf,hcx,W.leaf]at hy
  ·rw[if_neg (fun h=>e (.inr h)),if_neg (fun h=>e (.inl h))]; exact hc
 ·have hne2:aI (st.sl i)≠l∧aI (st.sl i)≠l':=by simpa using hR
  have e0: ¬ (Loc.s i 0 0=l∨Loc.s i 0 0=l'):=fun e=>hi (hroot0 i e)
  rw[if_neg (fun h=>e0 (.inr h)),if_neg (fun h=>e0 (.inl h))]at hf
  exact⟨hf,fun h=>by rw[if_neg hne2.2,if_neg hne2.1]; exact h⟩
theorem bQ.mv{g0:G}{w0:World}{st:St}{a:Act}{g:G}{w:World}(h:bQ g0 w0 st a g w){l l':Loc}(h1:l.place=true)(h2:l'.place=true)(hne:l≠l')
  (ht:st.at l'=st.at l)(hs: ∃x,st.at l=some x)(hv:vAt a.tmps g.β w l'=vAt a.tmps g.β w l):bQ g0 w0 (st.mv l l') a (g.mv l l') w:=by
 have hl:=(Loc.place_ne h1).1
 have hZ: ∀b,g.own b= .none→(g.mv l l').own b= .none:=fun b hb=>by simp only[G.mv]; rw[if_neg (by rw[hb]; exact Ne.symm hl)]; exact hb
 have hA: ∀b,all g w b→all (g.mv l l') w b:=fun b hb=>⟨hb.1,fun o=>by
  show(if g.own b=l then l' else g.own b)≠ .obj o
  split
  ·exact(Loc.place_ne h2).2.2 o
  ·exact hb.2 o⟩
 refine h.mvG h1 h2 hne hs (by rw[ht]; exact hs) (fun x v hx hv'=> ?_)
 obtain⟨v2,e2,_,e4⟩:=h.get (l:=l) (x:=x) (by rw[←ht]; exact hx)
 rw[hv,e2]at hv'
 cases hv'
 exact e4.moved (l':=l') (fun b hb=>by simp [G.mv,hb]) hZ hA
end Go.Own

/- Steps that leave memory alone. -/
namespace Go.Own
open Go.RowKit

theorem RV.cp{g:G}{w:World}{κ:Nat→Nat→K}{l l':Nat→Nat→Loc}{v:Value}{x:V}(hok:GOk g w)(hl: ∀k j,(l k j).place=true)(h:RV g w κ l v x):RV g w (fun k j=>(κ k j).cp) l' v x:=by
 refine h.map (fun _=>rfl) (fun k j t u _ _ _ hf=>hf.cp hok (hl k j)) (fun k xs _ b off hc=> ?_)
 cases hk:κ k 0<;>rw[hk]at hc<;>first | exact hc | exact hc.elim

/-! ### a constant -/
def gR(v:V)(k j:Nat):K:=match v.leaf k j with | some x=>if scal x then .S else .N | none=> .S

theorem zI{u:Value}{x:T}(h:vQ u=some x)(hs:scal x=false):x= .sl []∧ ∃a,u= .slice a 0 0:=by
 unfold vQ at h
 split at h<;>simp only[Option.some.injEq,reduceCtorEq]at h<;>subst h
 ·cases hs
 ·cases hs
 ·cases hs
 ·exact⟨rfl,none,rfl⟩
 ·cases hs

theorem tC(g:G)(w:World)(l:Nat→Nat→Loc)(v:Value):RV g w (gR (bI v)) l v (bI v):=by
 have hc: ∀(κ:K) (m:Loc) {u:Value} {x:T},vQ u=some x→κ=(if scal x then .S else .N)→LF g w κ m u x:=by
  intro κ m u x hx hκ
  obtain⟨h1,h2⟩:=oT hx
  subst hκ
  by_cases hs:scal x=true
  ·rw[if_pos hs]; exact⟨hs,h1 _ _⟩
  ·rw[if_neg hs]; exact zI hx (by simpa using hs)
 have hn: ∀ {u:Value} {x:T},vQ u=some x→mS u:=fun hx=>((oT hx).1 (fun _=>False) w).not_agg
 unfold bI
 split
 ·rename_i cs
  split
  ·rename_i xs h
   obtain⟨e,hg⟩:=jB h
   refine⟨cs,rfl,by simpa using e,fun j x hx=> ?_⟩
   obtain⟨u,hu,hc'⟩:=hg j x hx
   refine⟨u,by simpa using hu,hn hc',hc _ _ hc' ?_⟩
   simp [gR,V.leaf,W.leaf,hx]
  ·trivial
 ·rfl
 ·rfl
 ·split
  ·rename_i x h
   exact⟨hn h,hc _ _ h (by simp [gR,V.leaf,W.leaf])⟩
  ·trivial

/-! ### an operand -/
def opK(st:St):Operand→Nat→Nat→K
 | .tmp t,k,j=>(st.fl (.s t k j)).cp
 | .const v,k,j=>gR (bI v) k j
 | _,_,_=> .S

theorem bQ.ev_rv{g0:G}{w0:World}{st:St}{a:Act}{g:G}{w:World}(h:bQ g0 w0 st a g w)(x:Operand)(l:Nat→Nat→Loc):RV g w (opK st x) l (a.eval x) (ev st.sl x):=by
 cases x with
 | tmp t=>exact(h.slots t).cp h.ok (fun _ _=>rfl)
 | const v=>exact tC g w l v
 | func f=>rfl
 | global n=>trivial

/-! ### a slice that lies in a place, read -/
def nav:T→List (Nat×Nat)→Option T
 | x,[]=>some x
 | .sl es,(i,j)::p=>((es[i]?).bind (·[j]?)).bind fun y=>nav y p
 | _,_::_=>none

theorem Pl.nav{w:World}{v:Value}{x:T}{p:List (Nat×Nat)}{v':Value}{x':T}(h:Pl w v x p v' x'):nav x p=some x':=by
 induction h with
 | nil v x=>cases x<;>rfl
 | cons b off len cap es e c y i j p v' x' he hy hc h ih=>simp [Own.nav,he,hy,ih]

def vD(sl:Nat→V)(ob:Sc):V→V
 | .one (.al l p)=>match(atL sl ob l).bind (nav · p)with | some x=> .one (.c x) | none=> .one .junk
 | v=>v
def evR(st:St)(x:Operand):V:=vD st.sl st.ob (ev st.sl x)

theorem Rd.plRd{P:Nat→Prop}{w:World}{v:Value}{x:T}(h:Rd P w v x): ∀ {p:List (Nat×Nat)} {v':Value} {x':T},Pl w v x p v' x'→Rd P w v' x':=by
 induction h with
 | sl b off len cap s es cs hl hc hss hP hm hr ih=>
  intro p v' x' hp
  cases hp with
  | nil=>exact .sl b off len cap s es cs hl hc hss hP hm hr
  | cons b off len cap es e c y i j p v' x' he hy hc h=>
   have e1:=hss i e he
   have h1:=hm i e j y he hy
   rw[e1]at hc
   rw[h1]at hc
   cases hc
   exact ih i e j y he hy h
 | hole v h1 h2=>intro p v' x' hp; cases hp; exact .hole _ h1 h2
 | int k n=>intro p v' x' hp; cases hp; exact .int _ _
 | bool b=>intro p v' x' hp; cases hp; exact .bool _
 | np=>intro p v' x' hp; cases hp; exact .np
 | str s=>intro p v' x' hp; cases hp; exact .str _
 | nil a cap=>
  intro p v' x' hp
  cases hp with
  | nil=>exact .nil _ _
  | cons b off len cap es e c y i j p v' x' he hy hc h=>simp at he

/-- An operand that may be read: m tells whether none turns what it reads. -/
def Rdy(st:St)(m:Bool):Operand→Prop
 | .tmp t=>match st.sl t with
  | .one (.al _ _)=>m=false∧st.fl (.s t 0 0)≠ .D
  | .one (.pp _ _ _ _)=>False
  | .one (.c z)=>scal z=true∨if m then st.fl (.s t 0 0)= .F∨st.fl (.s t 0 0)= .S∨st.fl (.s t 0 0)= .N else st.fl (.s t 0 0)≠ .D
  | .one (.cp _)=>if m then st.fl (.s t 0 0)= .F else st.fl (.s t 0 0)≠ .D
  | _=>True
 | _=>True

def pm(g:G)(w:World)(m:Bool):Nat→Prop:=if m then frz g w else all g w

theorem bQ.pl_rd{g0:G}{w0:World}{st:St}{a:Act}{g:G}{w:World}(h:bQ g0 w0 st a g w){l:Loc}(hk:(st.fl l).hold=true){v0:Value}{x0:T}(hv:vAt a.tmps g.β w l=some v0)(hx:st.at l=some x0)
  {p:List (Nat×Nat)}{v':Value}{x':T}(hp:Pl w v0 x0 p v' x'):Rd (all g w) w v' x':=by
 obtain⟨v,e1,_,e2⟩:=h.get hx
 rw[hv]at e1
 cases e1
 exact(e2.rd h.ok (at_isPlace hx) (by intro e; rw[e]at hk; simp [K.hold]at hk)).plRd hp

theorem Il{g:G}{w:World}{P:Nat→Prop}(v:Value):RP P g.β w v (bI v):=by
 unfold bI
 split
 ·rename_i cs
  split
  ·rename_i xs h
   refine⟨cs,rfl,fun j x hx _=> ?_⟩
   obtain⟨v,v1,v2⟩:=(jB h).2 j x hx
   exact⟨v,by rw[←Array.getElem?_toList]; exact v1,(oT v2).1 P w⟩
  ·trivial
 ·rfl
 ·rfl
 ·split
  ·rename_i x h; exact(oT h).1 P w
  ·trivial

theorem bQ.rp{g0:G}{w0:World}{st:St}{a:Act}{g:G}{w:World}(h:bQ g0 w0 st a g w){m:Bool}{x:Operand}(hr:Rdy st m x):RP (pm g w m) g.β w (a.eval x) (evR st x):=by
 cases x with
 | const v=>
  have e:evR st (.const v)=bI v:=by
   show vD st.sl st.ob (bI v)=bI v
   unfold bI; (repeat' split)<;>rfl
  rw[e]; exact Il v
 | func f=>trivial
 | global n=>trivial
 | tmp t=>
  have hs:=h.slots t
  have hev:evR st (.tmp t)=vD st.sl st.ob (st.sl t):=rfl
  have hva:a.eval (.tmp t)=a.tmps.getD t undef:=rfl
  rw[hva]
  have hscal: ∀(y:T) (v:Value) (κ:K) (l:Loc),scal y=true→LF g w κ l v y→Rd (pm g w m) w v y:=fun y v κ l hy hf=>by
   have:=LF.scal (g':=g) (w':=w) (κ':= .S) (l':=l) hf hy
   exact this.2.scal hy
  cases hsl:st.sl t with
  | tup ws=>rw[hev,hsl]; trivial
  | one y=>
   rw[hsl]at hs
   cases y with
   | c z=>
    have e:evR st (.tmp t)= .one (.c z):=by rw[hev,hsl]; rfl
    rw[e]
    simp only[Rdy,hsl]at hr
    rcases hr with h1 | h1
    ·exact hscal _ _ _ _ h1 hs.2
    ·have hf:LF g w (st.fl (.s t 0 0)) (.s t 0 0) (a.tmps.getD t undef) z:=hs.2
     cases m with
     | true=>
      rcases h1 with h1 | h1 | h1<;>rw[h1]at hf
      ·exact hf
      ·exact hf.2.scal hf.1
      ·obtain⟨rfl,q,hq⟩:=hf
       rw[hq]; exact .nil _ _
     | false=>exact hf.rd h.ok rfl h1
   | cp xs=>
    have e:evR st (.tmp t)= .one (.cp xs):=by rw[hev,hsl]; rfl
    rw[e]
    simp only[Rdy,hsl]at hr
    obtain⟨b,off,h2,h3⟩:=hs
    refine⟨b,off,h2, ?_⟩
    cases m with
    | true=>
     have h1:st.fl (.s t 0 0)= .F:=hr
     simp only[h1]at h3
     exact h3
    | false=>exact h3.toV hr
   | al l p=>
    simp only[Rdy,hsl]at hr
    obtain⟨rfl,h1⟩:=hr
    by_cases hl:l= .none
    ·subst hl
     rw[hev,hsl]; trivial
    ·have:=h.pls t (by rw[hsl]; exact hl) h1
     rw[hsl]at this
     obtain⟨h2,v0,x0,x',e1,e2,e3⟩:=this
     have e:evR st (.tmp t)= .one (.c x'):=by
      have e2':atL st.sl st.ob l=some x0:=e2
      rw[hev,hsl]
      simp [vD,e2',e3.nav]
     rw[e]
     exact h.pl_rd h2 e1 e2 e3
   | pp l p i j=>rw[hev,hsl]; trivial
   | junk=>rw[hev,hsl]; trivial
   | ag xs=>
    have e:evR st (.tmp t)= .one (.ag xs):=by rw[hev,hsl]; rfl
    rw[e]
    obtain⟨cs,h1,h2,h3⟩:=hs
    exact⟨cs,h1,fun j x hx sx=>by
     obtain⟨c,c1,_,c3⟩:=h3 j x hx
     exact⟨c,c1,hscal _ _ _ _ sx c3⟩⟩
   | ptr o off=>rw[hev,hsl]; exact hs
   | nilp=>rw[hev,hsl]; exact hs
   | ifc b=>rw[hev,hsl]; exact hs
   | fn f caps=>rw[hev,hsl]; trivial
end Go.Own

/- The steps that leave memory alone, told of states. -/
namespace Go.Own
open Go.RowKit

/-- What an operation that is no call has to show. -/
def nS(P:Program)(g0:G)(w0:World)(o:Oper)(st st':St):Prop:= ∀a w,Sim g0 w0 st a w→
 ∃r w',(execOp a.eval o).run P w= .ok r w'∧((∃v,r= .value v∧Sim g0 w0 st' (a.put o.dst v) w')∨(r= .skip∧Sim g0 w0 st' (a.put o.dst undef) w'))

theorem xC.refl{g:G}{w:World}(hok:GOk g w)(st:St):xC g w g w (fun _=>False) st:=⟨Evo.refl _ _ _,fun _ h=>h.elim, .inl fun _ h=>⟨h,rfl⟩,rfl,rfl,rfl,hok⟩

def St.mvs(st:St):List (Loc×Loc)→St
 | []=>st
 | m::r=>(st.mv m.1 m.2).mvs r

theorem bQ.mvs{g0:G}{w0:World}{a:Act}{w:World}: ∀(M:List (Loc×Loc)) {st:St} {g:G},bQ g0 w0 st a g w→
  (∀m∈M,m.1.place=true∧m.2.place=true∧m.1≠m.2∧st.at m.2=st.at m.1∧(∃x,st.at m.1=some x)∧vAt a.tmps g.β w m.2=vAt a.tmps g.β w m.1)→ ∃g',g'.β=g.β∧bQ g0 w0 (st.mvs M) a g' w
 | [],st,g,h,_=>⟨g,rfl,h⟩
 | m::r,st,g,h,hM=>by
  obtain⟨h1,h2,h3,h4,h5,h6⟩:=hM m List.mem_cons_self
  obtain⟨g',e,h'⟩:=bQ.mvs r (h.mv h1 h2 h3 h4 h5 h6) (fun m' hm'=>by
   obtain⟨k1,k2,k3,k4,k5,k6⟩:=hM m' (List.mem_cons_of_mem _ hm')
   exact⟨k1,k2,k3,k4,k5,k6⟩)
  exact⟨g',e,h'⟩

section
variable {P:Program} {τ:TypeId→Option TI} {g0:G} {w0:World} {o:Oper} {st:St} {d:Nat}

/-- A value laid into a slot, memory as it was. -/
theorem bQ.set{a:Act}{g:G}{w:World}(h:bQ g0 w0 st a g w)(hd:d<st.n){u:Value}{r:V}{κ:Nat→Nat→K}(hr:RV g w κ (fun k j=> .s d k j) u r)
  (hpl:aI r≠ .none→κ 0 0≠ .D→(st.fl (aI r)).hold=true∧aS d (aI r)=false∧EJ st a.tmps g.β w u r):bQ g0 w0 (st.put d r κ) (a.put (some d) u) g w:=
 h.put (xC.refl h.ok st) (fun _=>rfl) hd (fun _ _ _ _ h=>h) hr hpl

theorem mY(r:V)(κ:Nat→Nat→K)(k j:Nat):(st.put d r κ).at (.s d k j)=r.leaf k j:=by simp [St.at,atL,St.put]

/-- 'x = t', 'move t': the places of M go along. -/
theorem Ra{x:Operand}(M:List (Nat×Nat))(hd:o.dst=some d)(hn:d<st.n)(ho:o.op= .assign x∨o.op= .move x)(hroot:aI (ev st.sl x)≠ .none→aS d (aI (ev st.sl x))=false)
  (hM: ∀m∈M, ∃t,x= .tmp t∧t≠d∧ ∃y,st.at (.s t m.1 m.2)=some y):
  nS P g0 w0 o st ((st.put d (ev st.sl x) (opK st x)).mvs (M.map fun m=>(.s (match x with | .tmp t=>t | _=>0) m.1 m.2, .s d m.1 m.2))):=by
 intro a w ⟨g,hs⟩
 have hv:(execOp a.eval o).run P w= .ok (.value (a.eval x)) w:=by
  obtain⟨dst,op,ty,pos,after,guard⟩:=o
  rcases ho with ho | ho<;>(simp only at ho; subst ho; rfl)
 refine⟨_,w,hv, .inl ⟨_,rfl, ?_⟩⟩
 rw[hd]
 have hd':d<a.tmps.size:=by rw[hs.size]; exact hn
 have h1:=hs.set hn (hs.ev_rv x _) (fun h1 h2=>by
  cases x with
  | tmp t=>
   have h1':aI (st.sl t)≠ .none:=h1
   have h3:=hs.pls t h1' (fun e=>h2 (by simp [opK,e,K.cp]))
   exact⟨h3.1,hroot h1,h3.2⟩
  | const v=>
   exfalso; apply h1
   show aI (bI v)= .none
   unfold bI; (repeat' split)<;>rfl
  | func f=>exact absurd rfl h1
  | global n=>exact absurd rfl h1)
 obtain⟨g',_,h2⟩:=h1.mvs (M.map fun m=>(.s (match x with | .tmp t=>t | _=>0) m.1 m.2, .s d m.1 m.2)) (fun m hm=>by
  obtain⟨m',hm',rfl⟩:=List.mem_map.1 hm
  obtain⟨t,rfl,hne,y,hy⟩:=hM m' hm'
  have e1:(st.put d (ev st.sl (.tmp t)) (opK st (.tmp t))).at (.s t m'.1 m'.2)=st.at (.s t m'.1 m'.2):=at_put (by simp [aS,hne])
  refine⟨rfl,rfl,by simp [hne], ?_,⟨y,by rw[e1]; exact hy⟩, ?_⟩
  ·rw[mY,e1]; rfl
  ·rw[yB (l:= .s t m'.1 m'.2) hd' (by simp [aS,hne])]
   simp only[vAt]
   rw[Act.put_getD a d _ _ hd',if_pos rfl]
   rfl)
 exact⟨g',h2⟩

/-- 'move t' where t's slice may be turned through the copy. -/
theorem Py{t:Nat}{es:List (List T)}(hd:o.dst=some d)(hn:d<st.n)(ho:o.op= .move (.tmp t))(hne:t≠d)(hsl:st.sl t= .one (.c (.sl es)))(hk:(st.fl (.s t 0 0)).hold=true):
  nS P g0 w0 o st (st.put d (.one (.al (.s t 0 0) [])) (fun _ _=> .F)):=by
 intro a w ⟨g,hs⟩
 have hv:(execOp a.eval o).run P w= .ok (.value (a.eval (.tmp t))) w:=by
  obtain⟨dst,op,ty,pos,after,guard⟩:=o
  simp only at ho; subst ho; rfl
 refine⟨_,w,hv, .inl ⟨_,rfl,g, ?_⟩⟩
 rw[hd]
 have hat:st.at (.s t 0 0)=some (.sl es):=by rw[St.at_s,hsl]; rfl
 have h1:=hs.slots t
 rw[hsl]at h1
 exact hs.set hn trivial (fun _ _=>⟨hk,by simp [aI,aS,hne],a.tmps.getD t undef, .sl es, .sl es,(gH h1.1).2,hat, .nil _ _⟩)

theorem Ki{t k:Nat}{ws:List W}{x:W}(M:List Nat)(hd:o.dst=some d)(hn:d<st.n)(ho:o.op= .extract (.tmp t) k)(hne:t≠d)(ht:st.sl t= .tup ws)(hk:ws[k]? =some x)(hroot:aI (.one x)= .none)
  (hM: ∀j∈M, ∃y,x.leaf j=some y):nS P g0 w0 o st ((st.put d (.one x) (fun _ j=>(st.fl (.s t k j)).cp)).mvs (M.map fun j=>(.s t k j, .s d 0 j))):=by
 intro a w ⟨g,hs⟩
 have h1:=hs.slots t
 rw[ht]at h1
 obtain⟨vs,e1,h2,h3⟩:=h1
 obtain⟨u,hu,hr⟩:=h3 k x hk
 have hv:(execOp a.eval o).run P w= .ok (.value u) w:=by
  obtain⟨dst,op,ty,pos,after,guard⟩:=o
  simp only at ho
  subst ho
  have:a.eval (.tmp t)= .tuple vs:=e1
  simp only[execOp,Instr.extract,this,hu,Sem.run_bind,Sem.run_pure,Result.andThen_ok]
 refine⟨_,w,hv, .inl ⟨_,rfl, ?_⟩⟩
 rw[hd]
 have hd':d<a.tmps.size:=by rw[hs.size]; exact hn
 have hr':RV g w (fun _ j=>(st.fl (.s t k j)).cp) (fun k j=> .s d k j) u (.one x):=by
  have:RV g w (fun _ j=>st.fl (.s t k j)) (fun _ j=> .s t k j) u (.one x):=hr
  exact this.cp hs.ok (fun _ _=>rfl)
 have h4:=hs.set hn hr' (fun h=>absurd hroot h)
 obtain⟨g',_,h5⟩:=h4.mvs (M.map fun j=>(.s t k j, .s d 0 j)) (fun m hm=>by
  obtain⟨j,hj,rfl⟩:=List.mem_map.1 hm
  obtain⟨y,hy⟩:=hM j hj
  have hat:st.at (.s t k j)=some y:=by rw[St.at_s,ht]; simp [V.leaf,hk,hy]
  have e1':(st.put d (.one x) (fun _ j=>(st.fl (.s t k j)).cp)).at (.s t k j)=st.at (.s t k j):=at_put (by simp [aS,hne])
  refine⟨rfl,rfl,by simp [hne], ?_,⟨y,by rw[e1']; exact hat⟩, ?_⟩
  ·rw[mY,e1',hat]; exact hy
  ·rw[yB (l:= .s t k j) hd' (by simp [aS,hne])]
   simp only[vAt]
   rw[Act.put_getD a d _ _ hd',if_pos rfl,e1]
   obtain⟨u',q1,q2,_⟩:=RW.leaf hr hy
   rw[q2]
   simp only[pR,hu,Option.bind_some,q1])
 exact⟨g',h5⟩

/-- An operation that only reads. -/
theorem RM(hT:bC P τ){m:Bool}{r:T}(hd:o.dst=some d)(hn:d<st.n)(hρ: ∀x∈o.op.operands,Rdy st m x)(hc2: ∀op t x y u,o.op= .binOp op t x y u→evR st y= .one (.ifc true)→ ∃c,y= .const c)
  (h:gI τ (evR st) o.op=some r):nS P g0 w0 o st (st.put d (.one (.c r)) (fun _ _=>if HQ o.op&& !scal r then(if m then .F else .V)else .S)):=by
 intro a w ⟨g,hs⟩
 obtain⟨v,hv,hr,hsub⟩:=Oy hT (Q:=pm g w m) (β:=g.β) o (fun x hx=>hs.rp (hρ x hx)) hc2 h
 refine⟨_,w,hv, .inl ⟨v,rfl,g, ?_⟩⟩
 rw[hd]
 refine hs.set hn ⟨hr.not_agg, ?_⟩ (fun h=>absurd rfl h)
 show LF g w (if HQ o.op&& !scal r then(if m then .F else .V)else .S) (.s d 0 0) v r
 cases hsc:scal r with
 | true=>simp only[Bool.not_true,Bool.and_false,Bool.false_eq_true,if_false]; exact⟨hsc,hr.scal hsc⟩
 | false=>
  rcases hsub with hb | hb
  ·rw[hb]
   simp only[Bool.not_false,Bool.and_self,if_true]
   cases m with
   | true=>exact hr
   | false=>exact hr
  ·rw[hsc]at hb; cases hb

/-- 'a && b', 'a || b'. -/
theorem MA{c x y:Operand}{b:Bool}{r1 r2:T}(hd:o.dst=some d)(hn:d<st.n)(ho:o.op= .pick c x y)(hc:ev st.sl c= .one (.c (.bool b)))(hx:b=true→ev st.sl x= .one (.c r1)∧scal r1=true)(hy:b=false→ev st.sl y= .one (.c r2)∧scal r2=true):
  nS P g0 w0 o st (st.put d (.one (.c (if b then r1 else r2))) (fun _ _=> .S)):=by
 intro a w ⟨g,hs⟩
 have h1:=hs.ev_rv c (fun _ _=> .none)
 rw[hc]at h1
 have e1:a.eval c= .bool b:=by
  have:=LF.scal (g':=g) (w':=w) (κ':= .F) (l':= .none) h1.2 rfl
  have this:Rd _ _ _ _:=this
  generalize a.eval c=z at this
  cases this; rfl
 cases b with
 | true=>
  obtain⟨hx1,hx2⟩:=hx rfl
  have h2:=hs.ev_rv x (fun k j=> .s d k j)
  rw[hx1]at h2
  refine⟨_,w,(by obtain⟨dst,op,ty,pos,after,guard⟩:=o; simp only at ho; subst ho; simp only[execOp,e1]; rfl:(execOp a.eval o).run P w= .ok (.value (a.eval x)) w), .inl ⟨_,rfl,g, ?_⟩⟩
  rw[hd]
  exact hs.set hn ⟨h2.1,h2.2.scal hx2⟩ (fun h=>absurd rfl h)
 | false=>
  obtain⟨hx1,hx2⟩:=hy rfl
  have h2:=hs.ev_rv y (fun k j=> .s d k j)
  rw[hx1]at h2
  refine⟨_,w,(by obtain⟨dst,op,ty,pos,after,guard⟩:=o; simp only at ho; subst ho; simp only[execOp,e1]; rfl:(execOp a.eval o).run P w= .ok (.value (a.eval y)) w), .inl ⟨_,rfl,g, ?_⟩⟩
  rw[hd]
  exact hs.set hn ⟨h2.1,h2.2.scal hx2⟩ (fun h=>absurd rfl h)
end
end Go.Own

/- Steps on pointers and functions. -/
namespace Go.Own
open Go.RowKit

section
variable {P:Program} {τ:TypeId→Option TI} {g0:G} {w0:World} {o:Oper} {st:St} {d:Nat}

theorem CN(hT:bC P τ){s:TypeId}{fs:List (Nat×Nat×Bool)}(h:tk τ s=some (.struct fs)):
  ∃gs,P.underlying s=some (.struct gs)∧gs.size=fs.length∧ ∀(j:Nat) f,fs[j]? =some f→ ∃g i,gs[j]? =some g∧g.offset=f.1∧P.info? g.type=some i∧i.size=f.2.1∧f.2.1≠0∧
   f.2.2=(match P.underlying g.type with | some (.struct _)=>true | some (.array _ _)=>true | _=>false)∧(P.underlying g.type).isSome:=by
 obtain⟨d,hd,gs,rfl,hn,hk⟩:=kE hT h
 exact⟨gs,hd,hn,hk⟩

theorem Dk{w:World}{b off:Nat}{f:Field}{i:TypeInfo}(h:P.info? f.type=some i)(h0:i.size≠0):(fieldPlace ⟨b,off,none⟩ f).run P w= .ok ⟨b,off+f.offset,none⟩ w:=by
 simp [fieldPlace,sizeOf,typeInfo,h,h0,jD]

theorem oI(hT:bC P τ){s:TypeId}{fs:List (Nat×Nat×Bool)}(h:tk τ s=some (.struct fs)){f off size:Nat}{agg:Bool}(hf:fs[f]? =some (off,size,agg)){ρ:Operand→Value}{x:Operand}{b p:Nat}(hx:ρ x= .pointer (some ⟨b,p,none⟩))(ho:o.op= .fieldAddr s x f)(w:World):
  (execOp ρ o).run P w= .ok (.value (.pointer (some ⟨b,p+off,none⟩))) w:=by
 obtain⟨gs,hgs,_,hk⟩:=CN hT h
 obtain⟨fd,i,hfd,ho',hi,hsz,h0,_⟩:=hk f _ hf
 have h2:i.size≠0:=by rw[hsz]; exact h0
 obtain⟨dst,op,ty,pos,after,guard⟩:=o
 simp only at ho
 subst ho
 simp only[execOp,Instr.fieldAt,hx,Sem.run_bind,run_underlying hgs,Result.andThen_ok,hfd,Instr.sureAddr,Sem.run_pure,Dk hi h2,ho']

/-- Behind a pointer to a struct: a pointer to its field. -/
def yX(q:Nat×Nat):V→Option V
 | .one (.ptr o p)=>some (.one (.ptr o (p+q.1)))
 | .one (.cp xs)=>some (.one (.cp ((xs.drop q.1).take q.2)))
 | .one (.pp l p i j)=>some (.one (.pp l p i (j+q.1)))
 | _=>none

theorem CpR.drop{g:G}{w:World}{κ:K}{b p off:Nat}{xs:List T}(h:CpR g w κ b p xs):CpR g w κ b (p+off) (xs.drop off):=by
 have key: ∀ {Q:Nat→Prop},(∀(j:Nat) x,xs[j]? =some x→ ∃c,w.cell? ⟨b,p+j,none⟩=some c∧Rd Q w c x)→ ∀(j:Nat) x,(xs.drop off)[j]? =some x→ ∃c,w.cell? ⟨b,p+off+j,none⟩=some c∧Rd Q w c x:=by
  intro Q h j x hx
  rw[List.getElem?_drop]at hx
  obtain⟨c,hc,hr⟩:=h _ x hx
  exact⟨c,by rw[Nat.add_assoc]; exact hc,hr⟩
 cases κ with
 | D=>trivial
 | F=>exact⟨h.1,key h.2⟩
 | V=>exact⟨h.1,key h.2⟩
 | A n=>exact h.elim
 | U n=>exact h.elim
 | S=>exact h.elim
 | N=>exact h.elim

theorem CpR.take{g:G}{w:World}{κ:K}{b p:Nat}{xs:List T}(n:Nat)(h:CpR g w κ b p xs):CpR g w κ b p (xs.take n):=by
 have key: ∀ {Q:Nat→Prop},(∀(j:Nat) x,xs[j]? =some x→ ∃c,w.cell? ⟨b,p+j,none⟩=some c∧Rd Q w c x)→ ∀(j:Nat) x,(xs.take n)[j]? =some x→ ∃c,w.cell? ⟨b,p+j,none⟩=some c∧Rd Q w c x:=by
  intro Q h j x hx
  rw[List.getElem?_take]at hx
  split at hx
  ·exact h _ x hx
  ·cases hx
 cases κ with
 | D=>trivial
 | F=>exact⟨h.1,key h.2⟩
 | V=>exact⟨h.1,key h.2⟩
 | A n=>exact h.elim
 | U n=>exact h.elim
 | S=>exact h.elim
 | N=>exact h.elim

theorem Hc(hT:bC P τ){s:TypeId}{x:Operand}{f off size:Nat}{agg:Bool}{fs:List (Nat×Nat×Bool)}{r:V}(hd:o.dst=some d)(hn:d<st.n)(ho:o.op= .fieldAddr s x f)(hs':tk τ s=some (.struct fs))(hf:fs[f]? =some (off,size,agg))
  (hr:yX (off,size) (ev st.sl x)=some r)(hroot:aI (ev st.sl x)≠ .none→aS d (aI (ev st.sl x))=false∧opK st x 0 0≠ .D)(hpn: ∀l p i j,ev st.sl x= .one (.pp l p i j)→l≠ .none):nS P g0 w0 o st (st.put d r (fun _ _=>opK st x 0 0)):=by
 intro a w ⟨g,hs⟩
 have h1:=hs.ev_rv x (fun k j=> .s d k j)
 generalize hy:ev st.sl x=y at h1 hr hroot hpn
 unfold yX at hr
 split at hr
 ·rename_i ob p
  cases hr
  refine⟨_,w,oI hT hs' hf h1 ho w, .inl ⟨_,rfl,g, ?_⟩⟩
  rw[hd]
  exact hs.set hn rfl (fun h=>absurd rfl h)
 ·rename_i xs
  cases hr
  obtain⟨b,p,e,hc⟩:=h1
  refine⟨_,w,oI hT hs' hf e ho w, .inl ⟨_,rfl,g, ?_⟩⟩
  rw[hd]
  exact hs.set hn ⟨b,p+off,rfl,hc.drop.take _⟩ (fun h=>absurd rfl h)
 ·rename_i l p i j
  cases hr
  cases x with
  | tmp t=>
   have hy':st.sl t= .one (.pp l p i j):=hy
   have hl:l≠ .none:=hpn l p i j rfl
   obtain⟨hin,hk⟩:=hroot hl
   have hD:st.fl (.s t 0 0)≠ .D:=fun e=>hk (by simp [opK,e,K.cp])
   have:=hs.pls t (by rw[hy']; exact hl) hD
   rw[hy']at this
   obtain⟨hk2,v0,x0,b,o1,len,cap,es,e,e1,e2,e3,e4,e5⟩:=this
   refine⟨_,w,oI hT hs' hf (ρ:=a.eval) (x:= .tmp t) e5 ho w, .inl ⟨_,rfl,g, ?_⟩⟩
   rw[hd]
   exact hs.set hn trivial (fun _ _=>⟨hk2,hin,v0,x0,b,o1,len,cap,es,e,e1,e2,e3,e4,by rw[Nat.add_assoc (o1+i*e.length)]⟩)
  | const v=>
   exfalso
   have:bI v= .one (.pp l p i j):=hy
   unfold bI at this
   (repeat' split at this)<;>simp at this
  | func f=>simp [ev]at hy
  | global n=>simp [ev]at hy
 ·cases hr

theorem Io{x:Operand}(hd:o.dst=some d)(hn:d<st.n)(ho:o.op= .nilCheck x)(hx:match ev st.sl x with | .one (.ptr _ _)=>True | .one (.cp _)=>True | .one (.fn _ _)=>True | .one (.pp l _ _ _)=>l≠ .none∧aS d l=false∧opK st x 0 0≠ .D | _=>False):
  nS P g0 w0 o st (st.put d (ev st.sl x) (opK st x)):=by
 intro a w ⟨g,hs⟩
 have h1:=hs.ev_rv x (fun k j=> .s d k j)
 generalize hy:ev st.sl x=y at h1 hx
 have key: ∀v,(execOp a.eval o).run P w= .ok (.value v) w→v=a.eval x→(aI y≠ .none→opK st x 0 0≠ .D→(st.fl (aI y)).hold=true∧aS d (aI y)=false∧EJ st a.tmps g.β w v y)→ ∃r w',(execOp a.eval o).run P w= .ok r w'∧((∃v,r= .value v∧Sim g0 w0 (st.put d y (opK st x)) (a.put o.dst v) w')∨(r= .skip∧Sim g0 w0 (st.put d y (opK st x)) (a.put o.dst undef) w')):=by
  rintro v hv rfl hp
  refine⟨_,w,hv, .inl ⟨_,rfl,g, ?_⟩⟩
  rw[hd]
  exact hs.set hn h1 hp
 obtain⟨dst,op,ty,pos,after,guard⟩:=o
 simp only at ho hd
 subst ho
 split at hx
 ·have e:a.eval x= .pointer (some _):=h1
  exact key _ (by simp only[execOp,e]; rfl) e.symm (fun h=>absurd rfl h)
 ·obtain⟨b,p,e,_⟩:=h1
  exact key _ (by simp only[execOp,e]; rfl) e.symm (fun h=>absurd rfl h)
 ·have e:a.eval x= .func _ _ _:=h1
  exact key _ (by simp only[execOp,e]; rfl) e.symm (fun h=>absurd rfl h)
 ·rename_i l p i j
  obtain⟨hl,hin,hk⟩:=hx
  cases x with
  | tmp t=>
   have hy':st.sl t= .one (.pp l p i j):=hy
   have hD:st.fl (.s t 0 0)≠ .D:=fun e=>hk (by simp [opK,e,K.cp])
   have:=hs.pls t (by rw[hy']; exact hl) hD
   rw[hy']at this
   obtain⟨hk2,v0,x0,b,o1,len,cap,es,e,e1,e2,e3,e4,e5⟩:=this
   have e6:a.eval (.tmp t)= .pointer (some ⟨b,o1+i*e.length+j,none⟩):=e5
   exact key _ (by simp only[execOp,e6]; rfl) e6.symm (fun _ _=>⟨hk2,hin,v0,x0,b,o1,len,cap,es,e,e1,e2,e3,e4,rfl⟩)
  | const v=>
   exfalso
   have:bI v= .one (.pp l p i j):=hy
   unfold bI at this
   (repeat' split at this)<;>simp at this
  | func f=>simp [ev]at hy
  | global n=>simp [ev]at hy
 ·exact hx.elim

theorem Mh{a:Act}{g:G}{w:World}(hs:bQ g0 w0 st a g w): ∀ {l:List Operand} {cs:List (Nat×Nat)},vS (l.map (ev st.sl))=some cs→l.map a.eval=cs.map fun c=>Value.pointer (some ⟨g.β c.1,c.2,none⟩)
 | [],cs,h=>by simp only[List.map_nil,vS,Option.some.injEq]at h; subst h; rfl
 | x::r,cs,h=>by
  simp only[List.map_cons]at h
  unfold vS at h
  split at h
  ·rename_i heq; cases heq
  ·rename_i o off r' heq
   simp only[List.cons.injEq]at heq
   obtain⟨e1,e2⟩:=heq
   obtain⟨cs',h2,rfl⟩:=Option.map_eq_some_iff.1 h
   rw[←e2]at h2
   have hx:=hs.ev_rv x (fun _ _=> .none)
   rw[e1]at hx
   simp only[List.map_cons,Mh hs h2]
   congr 1
  ·cases h

theorem Is{f:FuncId}{caps:Array Operand}{cs:List (Nat×Nat)}(hd:o.dst=some d)(hn:d<st.n)(ho:o.op= .makeFunc (.func f) #[] caps)(hcs:vS (caps.toList.map (ev st.sl))=some cs):
  nS P g0 w0 o st (st.put d (.one (.fn f cs)) (fun _ _=> .S)):=by
 intro a w ⟨g,hs⟩
 have h1:=Mh hs hcs
 have hv:(execOp a.eval o).run P w= .ok (.value (.func (.func f) #[] (caps.map a.eval))) w:=by
  obtain⟨dst,op,ty,pos,after,guard⟩:=o
  simp only at ho
  subst ho
  simp [execOp,Instr.makeFunc]
 refine⟨_,w,hv, .inl ⟨_,rfl,g, ?_⟩⟩
 rw[hd]
 refine hs.set hn ?_ (fun h=>absurd rfl h)
 show Value.func (.func f) #[] (caps.map a.eval)= .func (.func f) #[] _
 rw[←h1]
 congr 1
 apply Array.ext'
 simp

theorem oH(hT:bC P τ){t e:TypeId}{ei:TI}(ht:tk τ t=some (.sl e))(he:τ e=some ei){ρ:Operand→Value}{x i:Operand}{b off len cap:Nat}{n:Int}{k:IntKind}(hx:ρ x= .slice (some ⟨b,off,none⟩) len cap)(hi:ρ i= .int k n)(h0:0≤n)(h1:n<len)(ho:o.op= .indexAddr t x i)(w:World):
  (execOp ρ o).run P w= .ok (.value (.pointer (some ⟨b,off+n.toNat*ei.size,none⟩))) w:=by
 obtain⟨d,hd,rfl⟩:=kE hT ht
 obtain⟨info,hinfo,hsz,hpos⟩:=lE hT he
 obtain⟨dst,op,ty,pos,after,guard⟩:=o
 simp only at ho
 subst ho
 simp only[execOp,Instr.indexAt,hx,hi,asIntOf,Sem.run_bind,Sem.run_pure,Result.andThen_ok,run_underlying hd,h0,h1,and_self,if_true,sizeOf,typeInfo,run_program,hinfo,hsz,jD]

theorem bQ.int{a:Act}{g:G}{w:World}(hs:bQ g0 w0 st a g w){x:Operand}{k:IntKind}{n:Int}(h:ev st.sl x= .one (.c (.int k n))):a.eval x= .int k n:=by
 have h1:=hs.ev_rv x (fun _ _=> .none)
 rw[h]at h1
 have:=LF.scal (g':=g) (w':=w) (κ':= .F) (l':= .none) h1.2 rfl
 have this:Rd _ _ _ _:=this
 generalize a.eval x=z at this
 cases this; rfl

/-- A pointer to an element that is read. -/
theorem HZ(hT:bC P τ){t e:TypeId}{ei:TI}{x i:Operand}{es:List (List T)}{row:List T}{k:IntKind}{n:Int}{m:Bool}(hd:o.dst=some d)(hn:d<st.n)(ho:o.op= .indexAddr t x i)(ht:tk τ t=some (.sl e))(he:τ e=some ei)
  (hx:evR st x= .one (.c (.sl es)))(hr:Rdy st m x)(hi:ev st.sl i= .one (.c (.int k n)))(h0:0≤n)(hrow:es[n.toNat]? =some row)(hsz:row.length=ei.size):nS P g0 w0 o st (st.put d (.one (.cp row)) (fun _ _=>if m then .F else .V)):=by
 intro a w ⟨g,hs⟩
 have h1:=hs.rp hr
 rw[hx]at h1
 obtain⟨_,_,_,hpos⟩:=lE hT he
 obtain⟨b,off,len,cap,e1,hl,b2,off2,e2,hP,hc⟩:=Eh (β:=g.β) h1 hrow hsz hpos
 have hlt:n.toNat<es.length:=by
  rcases Nat.lt_or_ge n.toNat es.length with h | h
  ·exact h
  ·rw[List.getElem?_eq_none h]at hrow; cases hrow
 simp only[Value.pointer.injEq,Option.some.injEq,Addr.mk.injEq]at e2
 obtain⟨rfl,rfl,_⟩:=e2
 refine⟨_,w,oH hT ht he e1 (hs.int hi) h0 (by omega) ho w, .inl ⟨_,rfl,g, ?_⟩⟩
 rw[hd]
 refine hs.set hn ⟨b,off+n.toNat*ei.size,rfl, ?_⟩ (fun h=>absurd rfl h)
 cases m with
 | true=>exact⟨hP,hc⟩
 | false=>exact⟨hP,hc⟩

/-- A pointer to an element of what a place's holder has. -/
theorem Fe(hT:bC P τ){t e:TypeId}{ei:TI}{x:Nat}{i:Operand}{l:Loc}{p:List (Nat×Nat)}{x0:T}{es:List (List T)}{row:List T}{k:IntKind}{n:Int}(hd:o.dst=some d)(hn:d<st.n)(ho:o.op= .indexAddr t (.tmp x) i)(ht:tk τ t=some (.sl e))(he:τ e=some ei)
  (hx:st.sl x= .one (.al l p))(hln:l≠ .none)(hk:st.fl (.s x 0 0)≠ .D)(hin:aS d l=false)(hat:st.at l=some x0)(hnav:nav x0 p=some (.sl es))(hi:ev st.sl i= .one (.c (.int k n)))(h0:0≤n)(hrow:es[n.toNat]? =some row)(hsz:row.length=ei.size):
  nS P g0 w0 o st (st.put d (.one (.pp l p n.toNat 0)) (fun _ _=> .F)):=by
 intro a w ⟨g,hs⟩
 have:=hs.pls x (by rw[hx]; exact hln) hk
 rw[hx]at this
 obtain⟨hk2,v0,x0',x',e1,e2,e3⟩:=this
 have e2':st.at l=some x0':=e2
 rw[hat]at e2'
 cases e2'
 have e4:=e3.nav
 rw[hnav]at e4
 cases e4
 have hrd:=hs.pl_rd hk2 e1 hat e3
 obtain⟨_,_,_,hpos⟩:=lE hT he
 obtain⟨b,off,len,cap,q1,hl,_⟩:=Eh (β:=g.β) hrd hrow hsz hpos
 have hlt:n.toNat<es.length:=by
  rcases Nat.lt_or_ge n.toNat es.length with h | h
  ·exact h
  ·rw[List.getElem?_eq_none h]at hrow; cases hrow
 refine⟨_,w,oH hT ht he (ρ:=a.eval) (x:= .tmp x) q1 (hs.int hi) h0 (by omega) ho w, .inl ⟨_,rfl,g, ?_⟩⟩
 rw[hd]
 exact hs.set hn trivial (fun _ _=>⟨hk2,hin,v0,x0,b,off,len,cap,es,row,e1,hat,by rw[←q1]; exact e3,hrow,by rw[hsz]; rfl⟩)

/-- A pointer to an element of an array that is an object. -/
theorem Iw(hT:bC P τ){t e:TypeId}{ei:TI}{x i:Operand}{ob p len:Nat}{k:IntKind}{n:Int}(hd:o.dst=some d)(hn:d<st.n)(ho:o.op= .indexAddr t x i)(ht:tk τ t=some (.arr len e))(he:τ e=some ei)
  (hx:ev st.sl x= .one (.ptr ob p))(hi:ev st.sl i= .one (.c (.int k n)))(h0:0≤n)(h1:n<len):nS P g0 w0 o st (st.put d (.one (.ptr ob (p+n.toNat*ei.size))) (fun _ _=> .S)):=by
 intro a w ⟨g,hs⟩
 have hx1:=hs.ev_rv x (fun _ _=> .none)
 rw[hx]at hx1
 have e1:a.eval x= .pointer (some ⟨g.β ob,p,none⟩):=hx1
 obtain⟨dd,hdd,rfl⟩:=kE hT ht
 obtain⟨info,hinfo,hsz,hpos⟩:=lE hT he
 have hv:(execOp a.eval o).run P w= .ok (.value (.pointer (some ⟨g.β ob,p+n.toNat*ei.size,none⟩))) w:=by
  have hi':=hs.int hi
  obtain⟨dst,op,ty,pos,after,guard⟩:=o
  simp only at ho
  subst ho
  simp only[execOp,Instr.indexAt,e1,hi',asIntOf,Sem.run_bind,Sem.run_pure,Result.andThen_ok,run_underlying hdd,Instr.sureAddr,h0,h1,and_self,if_true,sizeOf,typeInfo,run_program,hinfo,hsz,jD]
 refine⟨_,w,hv, .inl ⟨_,rfl,g, ?_⟩⟩
 rw[hd]
 exact hs.set hn rfl (fun h=>absurd rfl h)
end
end Go.Own

/- Steps that read and write objects: load, store, alloc, box. -/
namespace Go.Own
open Go.RowKit

/-- A datum is of a type's form. -/
def rD:T→T→Bool
 | .int k _, .int k' _=>k == k'
 | .bool _, .bool _=>true
 | .np, .np=>true
 | .str _, .str _=>true
 | .sl _, .sl _=>true
 | .hole, .sl _=>true
 | _,_=>false
def eP:List T→List T→Bool
 | [],[]=>true
 | x::r,y::q=>rD x y&&eP r q
 | _,_=>false

theorem xQ{x y:T}(h:rD x y=true):scal x=scal y:=by
 cases x<;>cases y<;>first | rfl | cases h

theorem qM: ∀ {xs ys:List T},eP xs ys=true→xs.length=ys.length∧ ∀(j:Nat) x,xs[j]? =some x→ ∃y,ys[j]? =some y∧rD x y=true
 | [],[],_=>⟨rfl,by simp⟩
 | [],_::_,h=>by cases h
 | _::_,[],h=>by cases h
 | x::r,y::q,h=>by
  simp only[eP,Bool.and_eq_true]at h
  obtain⟨e,hg⟩:=qM h.2
  refine⟨by simp [e],fun j z hz=> ?_⟩
  cases j with
  | zero=>simp only[List.getElem?_cons_zero,Option.some.injEq]at hz ⊢; subst hz; exact⟨y,rfl,h.1⟩
  | succ j=>simp only[List.getElem?_cons_succ]at hz ⊢; exact hg j z hz

/-- A cell of this type is a scalar. -/
def iW(zero:List T)(j:Nat):Bool:=match zero[j]? with | some z=>scal z | none=>false

/-- What is loaded: the cells ahead. -/
def nD(i:TI)(cells:List T):Option V:=
 if eP (cells.take i.size) i.zero then(if i.agg then some (.one (.ag (cells.take i.size)))else match cells with | x::_=>some (.one (.c x)) | []=>none)else none

theorem bC.get{P:Program}{τ:TypeId→Option TI}(hT:bC P τ){t:TypeId}{i:TI}(h:τ t=some i): ∃info d z,P.info? t=some info∧P.underlying t=some d∧info.size=i.size∧info.bytes=i.bytes∧info.zero=some z∧
 uS z.cells.toList=some i.zero∧i.zero.length=i.size∧0<i.size∧i.agg=(match d with | .struct _=>true | .array _ _=>true | _=>false):=by
 obtain⟨info,d,z,h1,h2,h3,h4,h5,h6,h7,h8,h9,_⟩:=hT t i h
 exact⟨info,d,z,h1,h2,h3,h4,h5,h6,h7,h8,h9⟩

theorem sY{P:Program}{τ:TypeId→Option TI}(hT:bC P τ){g:G}{w:World}{t:TypeId}{i:TI}(hi:τ t=some i){b p:Nat}{xs:List T}{r:V}{κ:Nat→K}{l:Nat→Loc}{l':Nat→Nat→Loc}
  (hx: ∀(j:Nat) x,xs[j]? =some x→ ∃c,w.cell? ⟨b,p+j,none⟩=some c∧mS c∧LF g w (κ j) (l j) c x)(hr:nD i xs=some r)(hcp: ∀j c x,LF g w (κ j) (l j) c x→LF g w (κ j).cp (l' 0 j) c x):
  ∃u,(loadVar t ⟨b,p,none⟩).run P w= .ok u w∧RV g w (fun _ j=>if iW i.zero j then .S else(κ j).cp) l' u r∧aI r= .none∧ ∀j y,r.leaf 0 j=some y→xs[j]? =some y∧pR u 0 j=w.cell? ⟨b,p+j,none⟩:=by
 obtain⟨info,d,z,h1,h2,h3,h4,h5,h6,h7,h8,h9⟩:=hT.get hi
 unfold nD at hr
 split at hr
 ·rename_i hconf
  obtain⟨hlen,hget⟩:=qM hconf
  have hle:i.size≤xs.length:=by
   rw[List.length_take]at hlen; omega
  have hlf: ∀(j:Nat) x c,j<i.size→xs[j]? =some x→LF g w (κ j) (l j) c x→LF g w (if iW i.zero j then .S else(κ j).cp) (l' 0 j) c x:=by
   intro j x c hj hxj hf
   split
   ·rename_i hs
    obtain⟨y,hy,hc⟩:=hget j x (by rw[List.getElem?_take,if_pos hj]; exact hxj)
    have:scal x=true:=by
     rw[xQ hc]
     simpa [iW,hy]using hs
    exact hf.scal this
   ·exact hcp j c x hf
  cases hag:i.agg with
  | true=>
   rw[hag]at hr h9
   simp only[if_true,Option.some.injEq]at hr
   subst hr
   let vB:List Value:=(List.range i.size).map fun j=>(w.cell? ⟨b,p+j,none⟩).getD undef
   have hval: ∀(j:Nat) v,vB[j]? =some v→w.cell? ((⟨b,p,none⟩:Addr).add j)=some v:=by
    intro j v hv
    simp only[vB,List.getElem?_map,Option.map_eq_some_iff]at hv
    obtain⟨j',hj',rfl⟩:=hv
    have hlt:j<i.size:=by
     rcases Nat.lt_or_ge j i.size with h | h
     ·exact h
     ·rw[List.getElem?_eq_none (by simpa using h)]at hj'; cases hj'
    rw[List.getElem?_range hlt]at hj'
    cases hj'
    obtain⟨c,hc,_⟩:=hx j xs[j] (List.getElem?_eq_getElem (by omega))
    rw[jD,hc]; rfl
   have hlen:vB.length=i.size:=by simp [vB]
   have hrun:=run_loadCells_list (P:=P) w ⟨b,p,none⟩ vB hval
   have hg: ∀j,j<i.size→vB.toArray[j]? =w.cell? ⟨b,p+j,none⟩:=by
    intro j hj
    obtain⟨c,hc,_⟩:=hx j xs[j] (List.getElem?_eq_getElem (by omega))
    have:vB[j]? =some c:=by simp [vB,List.getElem?_range hj,hc]
    rw[hc]; simpa using this
   have hlt: ∀(j:Nat) x,(xs.take i.size)[j]? =some x→j<i.size∧xs[j]? =some x:=by
    intro j x h
    rw[List.getElem?_take]at h
    split at h
    ·exact⟨by assumption,h⟩
    ·cases h
   refine⟨.agg vB.toArray, ?_,⟨vB.toArray,rfl,by simp [hlen]; omega,fun j x hjx=> ?_⟩,rfl,fun j y hj=> ?_⟩
   ·rw[hlen]at hrun
    have hisagg:(isAgg t).run P w= .ok true w:=by
     simp only[isAgg,Sem.run_bind,run_underlying h2,Result.andThen_ok]
     cases d<;>first | (simp at h9; done) | rfl
    simp only[loadVar,Sem.run_bind,hisagg,Result.andThen_ok,if_true,sizeOf,typeInfo,run_program,h1,Sem.run_pure,h3,hrun]
   ·obtain⟨hj,hxj⟩:=hlt j x hjx
    obtain⟨c,hc,hn,hf⟩:=hx j x hxj
    exact⟨c,by rw[hg j hj]; exact hc,hn,hlf j x c hj hxj hf⟩
   ·obtain⟨h1,h2⟩:=hlt j y hj
    exact⟨h2,hg j h1⟩
  | false=>
   rw[hag]at hr h9
   simp only[Bool.false_eq_true,if_false]at hr
   split at hr
   ·rename_i x q
    simp only[Option.some.injEq]at hr
    subst hr
    obtain⟨c,hc,hn,hf⟩:=hx 0 x rfl
    refine⟨c, ?_,⟨hn,hlf 0 x c h8 rfl hf⟩,rfl,fun j y hj=> ?_⟩
    ·have hisagg:(isAgg t).run P w= .ok false w:=by
      simp only[isAgg,Sem.run_bind,run_underlying h2,Result.andThen_ok]
      cases d<;>first | (simp at h9; done) | rfl
     have hc':w.cell? ⟨b,p,none⟩=some c:=hc
     simp only[loadVar,Sem.run_bind,hisagg,Result.andThen_ok,Bool.false_eq_true,if_false,run_load,hc']
    ·cases j with
     | zero=>
      simp only[V.leaf,W.leaf,Option.some.injEq]at hj
      subst hj
      exact⟨rfl,by rw[hc,(gH hn).2]⟩
     | succ j=>simp [V.leaf,W.leaf]at hj
   ·cases hr
 ·cases hr

section
variable {P:Program} {τ:TypeId→Option TI} {g0:G} {w0:World} {o:Oper} {st:St} {d:Nat}

theorem rJ{ρ:Operand→Value}{t:TypeId}{x:Operand}{b p:Nat}{u:Value}{w:World}(ho:o.op= .load t x)(hx:ρ x= .pointer (some ⟨b,p,none⟩))(hu:(loadVar t ⟨b,p,none⟩).run P w= .ok u w):(execOp ρ o).run P w= .ok (.value u) w:=by
 obtain⟨dst,op,ty,pos,after,guard⟩:=o
 simp only at ho
 subst ho
 simp only[execOp,Instr.loadAt,hx,Instr.sureAddr,Sem.run_bind,Sem.run_pure,Result.andThen_ok,hu]

theorem bQ.obsCell{a:Act}{g:G}{w:World}(hs:bQ g0 w0 st a g w){ob p:Nat}{cells:List T}(hc:st.ob ob=some cells): ∀(j:Nat) x,(cells.drop p)[j]? =some x→ ∃c,w.cell? ⟨g.β ob,p+j,none⟩=some c∧mS c∧LF g w (st.fl (.oc ob (p+j))) (.oc ob (p+j)) c x:=by
 intro j x hx
 obtain⟨arr,ty,k1,k2,k3,k4⟩:=hs.obs ob cells hc
 rw[List.getElem?_drop]at hx
 obtain⟨c,c1,c2,c3⟩:=k4 _ _ hx
 exact⟨c,by rw[cI w _ _ arr ty (0,0) k1]; exact c1,c2,c3⟩

/-- Out of an object; the cells of M go along. -/
theorem Rh(hT:bC P τ){t:TypeId}{x:Operand}{i:TI}{ob p:Nat}{cells:List T}{r:V}(M:List Nat)(hd:o.dst=some d)(hn:d<st.n)(ho:o.op= .load t x)(hi:τ t=some i)(hx:ev st.sl x= .one (.ptr ob p))(hc:st.ob ob=some cells)
  (hr:nD i (cells.drop p)=some r)(hM: ∀j∈M, ∃y,r.leaf 0 j=some y):
  nS P g0 w0 o st ((st.put d r (fun _ j=>if iW i.zero j then .S else(st.fl (.oc ob (p+j))).cp)).mvs (M.map fun j=>(.oc ob (p+j), .s d 0 j))):=by
 intro a w ⟨g,hs⟩
 have h1:=hs.ev_rv x (fun _ _=> .none)
 rw[hx]at h1
 have e1:a.eval x= .pointer (some ⟨g.β ob,p,none⟩):=h1
 obtain⟨u,hu,hru,hroot,hleaf⟩:=sY hT hi (g:=g) (κ:=fun j=>st.fl (.oc ob (p+j))) (l:=fun j=> .oc ob (p+j)) (l':=fun k j=> .s d k j) (hs.obsCell hc) hr (fun j c x hf=>hf.cp hs.ok rfl)
 refine⟨_,w,rJ ho e1 hu, .inl ⟨_,rfl, ?_⟩⟩
 rw[hd]
 have hd':d<a.tmps.size:=by rw[hs.size]; exact hn
 have h1:=hs.set hn hru (fun h=>absurd hroot h)
 obtain⟨g',_,h2⟩:=h1.mvs (M.map fun j=>(.oc ob (p+j), .s d 0 j)) (fun m hm=>by
  obtain⟨j,hj,rfl⟩:=List.mem_map.1 hm
  obtain⟨y,hy⟩:=hM j hj
  obtain⟨q1,q2⟩:=hleaf j y hy
  have hat:(st.put d r (fun _ j=>if iW i.zero j then .S else(st.fl (.oc ob (p+j))).cp)).at (.oc ob (p+j))=some y:=by
   rw[at_put rfl,St.at_oc,hc]
   rw[List.getElem?_drop]at q1
   exact q1
  refine⟨rfl,rfl,by simp,by rw[mY,hat]; exact hy,⟨y,hat⟩, ?_⟩
  simp only[vAt]
  rw[Act.put_getD a d _ _ hd',if_pos rfl]
  exact q2)
 exact⟨g',h2⟩

/-- An object's slice, that may be turned through what is loaded. -/
theorem HX(hT:bC P τ){t:TypeId}{x:Operand}{i:TI}{ob p:Nat}{cells:List T}{es:List (List T)}{e:TypeId}(hd:o.dst=some d)(hn:d<st.n)(ho:o.op= .load t x)(hi:τ t=some i)(ht:tk τ t=some (.sl e))(hx:ev st.sl x= .one (.ptr ob p))(hc:st.ob ob=some cells)
  (hr:cells[p]? =some (.sl es))(hk:(st.fl (.oc ob p)).hold=true):nS P g0 w0 o st (st.put d (.one (.al (.oc ob p) [])) (fun _ _=> .F)):=by
 intro a w ⟨g,hs⟩
 have h1:=hs.ev_rv x (fun _ _=> .none)
 rw[hx]at h1
 have e1:a.eval x= .pointer (some ⟨g.β ob,p,none⟩):=h1
 obtain⟨c,c1,c2,c3⟩:=hs.obsCell hc (p:=p) 0 (.sl es) (by rw[List.getElem?_drop]; exact hr)
 rw[Nat.add_zero]at c1 c3
 obtain⟨info,dd,z,h1,h2,h3,h4,h5,h6,h7,h8,h9⟩:=hT.get hi
 obtain⟨dd',hdd,rfl⟩:=kE hT ht
 have hu:(loadVar t ⟨g.β ob,p,none⟩).run P w= .ok c w:=by
  have hisagg:(isAgg t).run P w= .ok false w:=by simp only[isAgg,Sem.run_bind,run_underlying hdd,Result.andThen_ok]; rfl
  simp only[loadVar,Sem.run_bind,hisagg,Result.andThen_ok,Bool.false_eq_true,if_false,run_load,c1]
 refine⟨_,w,rJ ho e1 hu, .inl ⟨_,rfl,g, ?_⟩⟩
 rw[hd]
 have hat:st.at (.oc ob p)=some (.sl es):=by rw[St.at_oc,hc]; exact hr
 exact hs.set hn trivial (fun _ _=>⟨hk,rfl,c, .sl es, .sl es,c1,hat, .nil _ _⟩)

/-- Out of what is only read. -/
theorem It(hT:bC P τ){t:TypeId}{x:Operand}{i:TI}{xs:List T}{r:V}(hd:o.dst=some d)(hn:d<st.n)(ho:o.op= .load t x)(hi:τ t=some i)(hx:ev st.sl x= .one (.cp xs))(hk:opK st x 0 0≠ .D)(hr:nD i xs=some r):
  nS P g0 w0 o st (st.put d r (fun _ j=>if iW i.zero j then .S else opK st x 0 0)):=by
 intro a w ⟨g,hs⟩
 have h1:=hs.ev_rv x (fun _ _=> .none)
 rw[hx]at h1
 obtain⟨b,p,e1,h2⟩:=h1
 have hcell: ∀(j:Nat) y,xs[j]? =some y→ ∃c,w.cell? ⟨b,p+j,none⟩=some c∧mS c∧LF g w (opK st x 0 0) .none c y:=by
  intro j y hy
  generalize hkk:opK st x 0 0=κ at h2 hk
  cases κ with
  | D=>exact absurd rfl hk
  | F=>obtain⟨c,hc,hr⟩:=h2.2 j y hy; exact⟨c,hc,hr.not_agg,hr⟩
  | V=>obtain⟨c,hc,hr⟩:=h2.2 j y hy; exact⟨c,hc,hr.not_agg,hr⟩
  | A n=>exact h2.elim
  | U n=>exact h2.elim
  | S=>exact h2.elim
  | N=>exact h2.elim
 have hcpk:(opK st x 0 0).cp=opK st x 0 0:=by
  generalize hkk:opK st x 0 0=κ at h2
  cases κ<;>first | rfl | exact h2.elim
 obtain⟨u,hu,hru,hroot,_⟩:=sY hT hi (g:=g) (κ:=fun _=>opK st x 0 0) (l:=fun _=> .none) (l':=fun k j=> .s d k j) hcell hr (fun j c y hf=>by
  rw[hcpk]
  generalize hkk:opK st x 0 0=κ at h2 hf
  cases κ with
  | D=>exact hf
  | F=>exact hf
  | V=>exact hf
  | A n=>exact h2.elim
  | U n=>exact h2.elim
  | S=>exact h2.elim
  | N=>exact h2.elim)
 refine⟨_,w,rJ ho e1 hu, .inl ⟨_,rfl,g, ?_⟩⟩
 rw[hd]
 simp only[hcpk]at hru
 exact hs.set hn hru (fun h=>absurd hroot h)

/-- Out of an element of what a place's holder has. -/
theorem bQ.ppCell{a:Act}{g:G}{w:World}(hs:bQ g0 w0 st a g w){t:Nat}{l:Loc}{p:List (Nat×Nat)}{i j:Nat}{x0:T}{es:List (List T)}{row:List T}(hx:st.sl t= .one (.pp l p i j))(hln:l≠ .none)(hk:st.fl (.s t 0 0)≠ .D)(hat:st.at l=some x0)(hnav:nav x0 p=some (.sl es))(hrow:es[i]? =some row):
  (st.fl l).hold=true∧ ∃v0 b off len cap,vAt a.tmps g.β w l=some v0∧Pl w v0 x0 p (.slice (some ⟨b,off,none⟩) len cap) (.sl es)∧a.tmps.getD t undef= .pointer (some ⟨b,off+i*row.length+j,none⟩)∧
   ∀(q:Nat) y,(row.drop j)[q]? =some y→ ∃c,w.cell? ⟨b,off+i*row.length+j+q,none⟩=some c∧Rd (all g w) w c y∧Pl w v0 x0 (p++[(i,j+q)]) c y:=by
 have:=hs.pls t (by rw[hx]; exact hln) hk
 rw[hx]at this
 obtain⟨hk2,v0,x0',b,off,len,cap,es',row',e1,e2,e3,e4,e5⟩:=this
 have e2':st.at l=some x0':=e2
 rw[hat]at e2'
 cases e2'
 have e6:=e3.nav
 rw[hnav]at e6
 cases e6
 rw[hrow]at e4
 cases e4
 refine⟨hk2,v0,b,off,len,cap,e1,e3,e5,fun q y hy=> ?_⟩
 rw[List.getElem?_drop]at hy
 have hrd:=hs.pl_rd hk2 e1 hat e3
 have key: ∃c,w.cell? ⟨b,off+i*row.length+(j+q),none⟩=some c∧Rd (all g w) w c y:=by
  generalize hv:Value.slice (some ⟨b,off,none⟩) len cap=v at hrd
  cases hrd with
  | nil a cap=>simp at hrow
  | sl b' off' len' cap' s es cs hl hc hs2 hP hm hr=>
   cases hv
   have e7:=hs2 i row hrow
   exact⟨cs i (j+q),by rw[e7]; exact hm i row (j+q) y hrow hy,hr i row (j+q) y hrow hy⟩
 obtain⟨c,hc,hr⟩:=key
 refine⟨c,by rw[Nat.add_assoc]; exact hc,hr, ?_⟩
 have happ: ∀ {v:Value} {x:T} {p:List (Nat×Nat)} {v':Value} {x':T},Pl w v x p v' x'→ ∀ {i j:Nat} {v'':Value} {x'':T},Pl w v' x' [(i,j)] v'' x''→Pl w v x (p++[(i,j)]) v'' x'':=by
  intro v x p v' x' h
  induction h with
  | nil=>intro i j v'' x'' h2; exact h2
  | cons b off len cap es e c y i j p v' x' he hy hc h ih=>intro i' j' v'' x'' h2; exact .cons b off len cap es e c y i j _ _ _ he hy hc (ih h2)
 exact happ e3 (.cons b off len cap es row c y i (j+q) [] c y hrow hy hc (.nil _ _))

theorem HW(hT:bC P τ){t:TypeId}{x:Nat}{ti:TI}{l:Loc}{p:List (Nat×Nat)}{i j:Nat}{x0:T}{es:List (List T)}{row:List T}{r:V}(hd:o.dst=some d)(hn:d<st.n)(ho:o.op= .load t (.tmp x))(hi:τ t=some ti)(hx:st.sl x= .one (.pp l p i j))(hln:l≠ .none)(hk:st.fl (.s x 0 0)≠ .D)
  (hat:st.at l=some x0)(hnav:nav x0 p=some (.sl es))(hrow:es[i]? =some row)(hr:nD ti (row.drop j)=some r):nS P g0 w0 o st (st.put d r (fun _ j=>if iW ti.zero j then .S else .V)):=by
 intro a w ⟨g,hs⟩
 obtain⟨_,v0,b,off,len,cap,e1,e2,e3,e4⟩:=hs.ppCell hx hln hk hat hnav hrow
 obtain⟨u,hu,hru,hroot,_⟩:=sY hT hi (g:=g) (κ:=fun _=> .V) (l:=fun _=> .none) (l':=fun k j=> .s d k j) (b:=b) (p:=off+i*row.length+j) (xs:=row.drop j) (fun q y hy=>by
  obtain⟨c,c1,c2,_⟩:=e4 q y hy
  exact⟨c,c1,c2.not_agg,c2⟩) hr (fun _ _ _ hf=>hf)
 refine⟨_,w,rJ ho e3 hu, .inl ⟨_,rfl,g, ?_⟩⟩
 rw[hd]
 exact hs.set hn hru (fun h=>absurd hroot h)

/-- A slice inside what a place's holder has, that may be turned through what is loaded. -/
theorem zR(hT:bC P τ){t:TypeId}{x:Nat}{ti:TI}{l:Loc}{p:List (Nat×Nat)}{i j:Nat}{x0:T}{es es':List (List T)}{row:List T}{e:TypeId}(hd:o.dst=some d)(hn:d<st.n)(ho:o.op= .load t (.tmp x))(hi:τ t=some ti)(ht:tk τ t=some (.sl e))(hx:st.sl x= .one (.pp l p i j))(hln:l≠ .none)(hk:st.fl (.s x 0 0)≠ .D)(hin:aS d l=false)
  (hat:st.at l=some x0)(hnav:nav x0 p=some (.sl es))(hrow:es[i]? =some row)(hr:row[j]? =some (.sl es')):nS P g0 w0 o st (st.put d (.one (.al l (p++[(i,j)]))) (fun _ _=> .F)):=by
 intro a w ⟨g,hs⟩
 obtain⟨hk2,v0,b,off,len,cap,e1,e2,e3,e4⟩:=hs.ppCell hx hln hk hat hnav hrow
 obtain⟨c,c1,c2,c3⟩:=e4 0 (.sl es') (by rw[List.getElem?_drop]; exact hr)
 rw[Nat.add_zero]at c1 c3
 obtain⟨dd',hdd,rfl⟩:=kE hT ht
 have hu:(loadVar t ⟨b,off+i*row.length+j,none⟩).run P w= .ok c w:=by
  have hisagg:(isAgg t).run P w= .ok false w:=by simp only[isAgg,Sem.run_bind,run_underlying hdd,Result.andThen_ok]; rfl
  simp only[loadVar,Sem.run_bind,hisagg,Result.andThen_ok,Bool.false_eq_true,if_false,run_load,c1]
 refine⟨_,w,rJ ho e3 hu, .inl ⟨_,rfl,g, ?_⟩⟩
 rw[hd]
 exact hs.set hn trivial (fun _ _=>⟨hk2,hin,v0,x0, .sl es',e1,hat,c3⟩)
end
end Go.Own

/- Steps that make objects, and that write them. -/
namespace Go.Own
open Go.RowKit

def W.kill(d:Nat):W→W
  | .ptr o off=>if o=d then .junk else .ptr o off
  | .fn f caps=>if caps.any (fun c=>c.1 == d)then .junk else .fn f caps
  | w=>w
def V.kill(d:Nat):V→V
  | .one w=> .one (w.kill d)
  | .tup ws=> .tup (ws.map (W.kill d))

def tE(o:Nat):Loc→Bool
  | .oc o' _=>o' == o
  | _=>false

/-- A new object d, slot d its pointer. -/
def St.alloc(st:St)(d:Nat)(cells:List T)(κ:Nat→K):St:=
  { n:=st.n
    sl:=fun i=>if i=d then .one (.ptr d 0)else(st.sl i).kill d
    ob:=fun o=>if o=d then some cells else st.ob o
    fl:=fun l=>match l with
      | .s i k j=>if i=d then .S else if k=0∧j=0∧(aS d (aI (st.sl i))||tE d (aI (st.sl i)))=true then .D else st.fl (.s i k j)
      | .oc o j=>if o=d then κ j else st.fl (.oc o j)
      | l=>st.fl l }

theorem W.kill_leaf{d:Nat}{x:W}{j:Nat}:(x.kill d).leaf j=x.leaf j:=by
  cases x with
  | ptr o off=>simp only[W.kill]; split<;>rfl
  | fn f caps=>simp only[W.kill]; split<;>rfl
  | _=>rfl
theorem V.kill_leaf{d:Nat}{x:V}{k j:Nat}:(x.kill d).leaf k j=x.leaf k j:=by
  cases x with
  | one w=>cases k with
    | zero=>exact W.kill_leaf
    | succ k=>rfl
  | tup ws=>
    simp only[V.kill,V.leaf,List.getElem?_map]
    cases ws[k]? with
    | none=>rfl
    | some y=>exact W.kill_leaf
theorem V.kill_root{d:Nat}{x:V}:aI (x.kill d)=aI x:=by
  cases x with
  | tup ws=>rfl
  | one w=>cases w with
    | ptr o off=>simp only[V.kill,W.kill]; split<;>rfl
    | fn f caps=>simp only[V.kill,W.kill]; split<;>rfl
    | _=>rfl
theorem EJ.kill{st:St}{tmps:Array Value}{β:Nat→Nat}{w:World}{v:Value}{x:V}{d:Nat}(h:EJ st tmps β w v x):EJ st tmps β w v (x.kill d):=by
  cases x with
  | tup ws=>trivial
  | one y=>cases y with
    | ptr o off=>simp only[V.kill,W.kill]; split<;>trivial
    | fn f caps=>simp only[V.kill,W.kill]; split<;>trivial
    | al l p=>exact h
    | pp l p i j=>exact h
    | _=>trivial

theorem RW.kill{g g':G}{w w':World}{κ κ':Nat→K}{l:Nat→Loc}{v:Value}{x:W}{d:Nat}(hβ: ∀o,o≠d→g'.β o=g.β o)(hleaf: ∀j t u,x.leaf j=some t→FW v j=some u→mS u→LF g w (κ j) (l j) u t→LF g' w' (κ' j) (l j) u t)
    (hcp: ∀xs,x= .cp xs→ ∀b off,CpR g w (κ 0) b off xs→CpR g' w' (κ' 0) b off xs)(h:RW g w κ l v x):RW g' w' κ' l v (x.kill d):=by
  cases x with
  | ptr o off=>
    simp only[W.kill]
    split
    · trivial
    · rename_i ho
      simp only[RW]at h ⊢
      rw[hβ o ho]; exact h
  | fn f caps=>
    simp only[W.kill]
    split
    · trivial
    · rename_i ho
      simp only[RW]at h ⊢
      rw[h]
      congr 2
      refine List.map_congr_left (fun c hc=> ?_)
      have:c.1≠d:=by
        intro e
        apply ho
        rw[List.any_eq_true]
        exact⟨c,hc,by simp [e]⟩
      rw[hβ c.1 this]
  | c y=>exact⟨h.1,hleaf 0 y v rfl (gH h.1).1 h.1 h.2⟩
  | ag xs=>
    obtain⟨cs,rfl,h2,h3⟩:=h
    refine⟨cs,rfl,h2,fun j y hy=> ?_⟩
    obtain⟨c,c1,c2,c3⟩:=h3 j y hy
    exact⟨c,c1,c2,hleaf j y c hy c1 c2 c3⟩
  | cp xs=>
    obtain⟨b,off,h1,h2⟩:=h
    exact⟨b,off,h1,hcp xs rfl b off h2⟩
  | nilp=>exact h
  | ifc b=>exact h
  | _=>trivial

theorem RV.kill{g g':G}{w w':World}{κ κ':Nat→Nat→K}{l:Nat→Nat→Loc}{v:Value}{x:V}{d:Nat}(hβ: ∀o,o≠d→g'.β o=g.β o)(hleaf: ∀k j t u,x.leaf k j=some t→pR v k j=some u→mS u→LF g w (κ k j) (l k j) u t→LF g' w' (κ' k j) (l k j) u t)
    (hcp: ∀k xs,x.comp k=some (.cp xs)→ ∀b off,CpR g w (κ k 0) b off xs→CpR g' w' (κ' k 0) b off xs)(h:RV g w κ l v x):RV g' w' κ' l v (x.kill d):=by
  cases x with
  | one x=>
    refine RW.kill hβ (fun j t u hj hu hn hf=>hleaf 0 j t u hj ?_ hn hf) (fun xs hx=>hcp 0 xs (by rw[hx]; rfl)) h
    have hx:RW g w (κ 0) (l 0) v x:=h
    obtain⟨u',h1,h2,_⟩:=RW.leaf hx hj
    rw[h1]at hu; cases hu; exact h2
  | tup ws=>
    obtain⟨vs,rfl,h2,h3⟩:=h
    refine⟨vs,rfl,by simpa using h2,fun k x hx=> ?_⟩
    rw[List.getElem?_map]at hx
    obtain⟨y,hy,rfl⟩:=Option.map_eq_some_iff.1 hx
    obtain⟨u,hu,hR⟩:=h3 k y hy
    refine⟨u,hu,RW.kill hβ (fun j t u' hj hu' hn hf=>hleaf k j t u' (by simp [V.leaf,hy,hj]) (by simp [pR,hu,hu']) hn hf) (fun xs hx'=>hcp k xs (by simp only[V.comp]; rw[hy,hx'])) hR⟩

def G.alloc(g:G)(d b:Nat):G:= { β:=fun o=>if o=d then b else g.β o,own:=fun k=>if k=b then .obj d else g.own k }

theorem oQ(w:World)(o:Obj)(b:Nat)(h:b<w.heap.size):(w.alloc o).heap[b]? =w.heap[b]? :=heap_alloc_old w o b h

theorem Me{st:St}{i k:Nat}{xs:List T}(hx:(st.sl i).comp k=some (.cp xs)): ¬ (k=0∧aI (st.sl i)≠ .none):=by
  rintro ⟨rfl,h⟩
  cases hsl:st.sl i with
  | one y=>rw[hsl]at hx h; simp only[V.comp,Option.some.injEq]at hx; rw[hx]at h; exact h rfl
  | tup ws=>rw[hsl]at h; exact h rfl

theorem bQ.alloc{g0:G}{w0:World}{st:St}{a:Act}{g:G}{w:World}(h:bQ g0 w0 st a g w){d:Nat}(hd:d<st.n)(cs:Array Value)(ty:TypeId)(cells:List T)(κ:Nat→K)(hsz:cs.size=cells.length)
    (hc: ∀(j:Nat) x,cells[j]? =some x→ ∃c,cs[j]? =some c∧mS c∧LF g w (κ j) (.oc d j) c x):
    bQ g0 w0 (st.alloc d cells κ) (a.put (some d) (.pointer (some ⟨w.heap.size,0,none⟩))) (g.alloc d w.heap.size) (w.alloc (.cells cs ty)):=by
  have hd':d<a.tmps.size:=by rw[h.size]; exact hd
  have hdp:d<par:=Nat.lt_of_lt_of_le hd h.nle
  have hβ: ∀o,o≠d→(g.alloc d w.heap.size).β o=g.β o:=fun o ho=>by simp [G.alloc,ho]
  have hown: ∀b,b<w.heap.size→(g.alloc d w.heap.size).own b=g.own b:=fun b hb=>by simp [G.alloc,Nat.ne_of_lt hb]
  have hE:Evo g w (g.alloc d w.heap.size) (w.alloc (.cells cs ty)) (fun _=>False):=⟨by simp,fun b hb _=>⟨hown b hb,oQ w _ b hb⟩⟩
  have hA: ∀b,all g w b→all (g.alloc d w.heap.size) (w.alloc (.cells cs ty)) b∧(w.alloc (.cells cs ty)).heap[b]? =w.heap[b]? :=fun b hb=>⟨⟨by simp; have:=hb.1; omega,fun o=>by rw[hown b hb.1]; exact hb.2 o⟩,oQ w _ b hb.1⟩
  have hlf: ∀ {κ:K} {l:Loc} {v:Value} {x:T},l.place=true→LF g w κ l v x→LF (g.alloc d w.heap.size) (w.alloc (.cells cs ty)) κ l v x:=fun hl hf=>LF.evo hE h.ok (Loc.place_ne hl).1 id (fun _=>id) (fun _=>hA) hf
  have hcpr: ∀ {κ:K} {b off:Nat} {xs:List T},CpR g w κ b off xs→CpR (g.alloc d w.heap.size) (w.alloc (.cells cs ty)) κ b off xs:=fun hc=>hc.evo hE id (.inr (.inr hA))
  have hlive: ∀i,i≠d→(st.alloc d cells κ).fl (.s i 0 0)≠ .D→(aS d (aI (st.sl i))||tE d (aI (st.sl i)))=false∧st.fl (.s i 0 0)≠ .D:=by
    intro i hi hf
    simp only[St.alloc,if_neg hi,true_and]at hf
    by_cases hs:(aS d (aI (st.sl i))||tE d (aI (st.sl i)))=true
    · rw[if_pos hs]at hf; exact absurd rfl hf
    · rw[if_neg hs]at hf; exact⟨by simpa using hs,hf⟩
  have hfl: ∀i k j,i≠d→ ¬ (k=0∧aI (st.sl i)≠ .none)→(st.alloc d cells κ).fl (.s i k j)=st.fl (.s i k j):=by
    intro i k j hi hr
    simp only[St.alloc,if_neg hi]
    rw[if_neg]
    rintro ⟨rfl,rfl,h3⟩
    apply hr
    refine⟨rfl,fun e=> ?_⟩
    rw[e]at h3
    simp [aS,tE]at h3
  refine⟨⟨h.framed.os,h.framed.tape,h.framed.output,h.framed.evo.trans (hE.mono fun _=>False.elim)⟩,⟨fun b hb=> ?_⟩, ?_,h.defers,fun i=> ?_,fun o cells' hc'=> ?_,fun i hi hf=> ?_,fun o ho=> ?_,h.nle⟩
  · by_cases e:b=w.heap.size
    · subst e; simp
    · have:g.own b≠ .none:=by intro e2; apply hb; simp only[G.alloc,if_neg e]; exact e2
      have:=h.ok.own b this; simp; omega
  · simp only[Act.put,Array.size_setIfInBounds]; exact h.size
  · rw[Act.put_getD a d _ i hd']
    by_cases hi:i=d
    · subst hi
      simp only[St.alloc,if_true]
      show Value.pointer _= .pointer _
      simp [G.alloc]
    · rw[if_neg hi]
      have e:(st.alloc d cells κ).sl i=(st.sl i).kill d:=by simp [St.alloc,hi]
      rw[e]
      refine(h.slots i).kill hβ (fun k j t u hj _ _ hf=> ?_) (fun k xs hx b off hc=> ?_)
      · have hat:st.at (.s i k j)=some t:=hj
        rw[hfl i k j hi]
        · exact hlf rfl hf
        · rintro ⟨rfl,hr⟩
          cases hsl:st.sl i with
          | one y=>rw[hsl]at hr hj; cases y<;>first | exact hr rfl | simp [V.leaf,W.leaf]at hj
          | tup ws=>rw[hsl]at hr; exact hr rfl
      · rw[hfl i k 0 hi (Me hx)]
        exact hcpr hc
  · by_cases ho:o=d
    · subst ho
      have hc2:cells'=cells:=by simpa [St.alloc]using hc'.symm
      subst hc2
      have hβd:(g.alloc o w.heap.size).β o=w.heap.size:=by simp [G.alloc]
      rw[hβd]
      refine⟨cs,ty,heap_alloc_new w _,hsz,by simp [G.alloc],fun j x hx=> ?_⟩
      obtain⟨c,c1,c2,c3⟩:=hc j x hx
      refine⟨c,c1,c2, ?_⟩
      have:(st.alloc o cells' κ).fl (.oc o j)=κ j:=by simp [St.alloc]
      rw[this]
      exact hlf rfl c3
    · have hc2:st.ob o=some cells':=by simpa [St.alloc,ho]using hc'
      obtain⟨arr,ty',h1,h2,h3,h4⟩:=h.obs o cells' hc2
      have hb:g.β o<w.heap.size:=h.ok.own _ (by rw[h3]; simp)
      rw[hβ o ho]
      refine⟨arr,ty',(oQ w _ _ hb).trans h1,h2,(hown _ hb).trans h3,fun j x hx=> ?_⟩
      obtain⟨c,c1,c2,c3⟩:=h4 j x hx
      refine⟨c,c1,c2, ?_⟩
      have:(st.alloc d cells κ).fl (.oc o j)=st.fl (.oc o j):=by simp [St.alloc,ho]
      rw[this]
      exact hlf rfl c3
  · by_cases hid:i=d
    · subst hid
      exfalso; apply hi; simp [St.alloc,aI]
    · have e:(st.alloc d cells κ).sl i=(st.sl i).kill d:=by simp [St.alloc,hid]
      obtain⟨k1,k2⟩:=hlive i hid hf
      rw[e,V.kill_root]at hi ⊢
      obtain⟨p1,p2⟩:=h.pls i hi k2
      obtain⟨t,ht⟩:=p2.root hi
      simp only[Bool.or_eq_false_iff]at k1
      have hne: ∀i' k j,aI (st.sl i)= .s i' k j→i'≠d:=fun i' k j e1 e2=>by subst e2; rw[e1]at k1; simp [aS]at k1
      have hne2: ∀o j,aI (st.sl i)= .oc o j→o≠d:=fun o j e1 e2=>by subst e2; rw[e1]at k1; simp [tE]at k1
      refine⟨?_, ?_⟩
      · have:(st.alloc d cells κ).fl (aI (st.sl i))=st.fl (aI (st.sl i)):=by
          generalize hr:aI (st.sl i)=l at*
          cases l with
          | s i' k j=>
            refine hfl i' k j (hne i' k j rfl) ?_
            rintro ⟨rfl,h2⟩
            rw[St.at_s]at ht
            cases hsl:st.sl i' with
            | one y=>rw[hsl]at h2 ht; cases y<;>first | exact h2 rfl | simp [V.leaf,W.leaf]at ht
            | tup ws=>rw[hsl]at h2; exact h2 rfl
          | oc o j=>simp [St.alloc,hne2 o j rfl]
          | _=>rfl
        rw[this]; exact p1
      · rw[Act.put_getD a d _ i hd',if_neg hid]
        refine(p2.congr ?_ ?_ (fun v0 x0 p v' x' e1 e2 hp=>h.pl_evo hE id p1 id e1 e2 hp)).kill
        · generalize hr:aI (st.sl i)=l at*
          cases l with
          | s i' k j=>
            simp only[vAt]
            rw[Act.put_getD a d _ _ hd',if_neg (hne i' k j rfl)]
          | oc o j=>
            simp only[vAt]
            rw[hβ o (hne2 o j rfl)]
            simp only[St.at,atL,Option.bind_eq_some_iff]at ht
            obtain⟨cells',hc',_⟩:=ht
            obtain⟨arr,ty',k1,k2,k3,k4⟩:=h.obs o cells' hc'
            exact bY (oQ w _ _ (h.ok.own _ (by rw[k3]; simp)))
          | _=>rfl
        · generalize hr:aI (st.sl i)=l at*
          cases l with
          | s i' k j=>simp only[St.at,atL,St.alloc,if_neg (hne i' k j rfl),V.kill_leaf]
          | oc o j=>simp only[St.at,atL,St.alloc,if_neg (hne2 o j rfl)]
          | _=>rfl
  · have:o≠d:=by omega
    rw[hβ o this]; exact h.bp o ho

section
variable {P:Program} {τ:TypeId→Option TI} {g0:G} {w0:World} {o:Oper} {st:St} {d:Nat}

def BU(zero:List T)(j:Nat):K:=if iW zero j then .S else .N

/-- 'var x T'. -/
theorem Px(hT:bC P τ){t:TypeId}{i:TI}(hd:o.dst=some d)(hn:d<st.n)(ho:o.op= .alloc t)(hi:τ t=some i):nS P g0 w0 o st (st.alloc d i.zero (BU i.zero)):=by
  intro a w ⟨g,hs⟩
  obtain⟨info,dd,z,h1,h2,h3,h4,h5,h6,h7,h8,h9⟩:=hT.get hi
  obtain⟨e,hz⟩:=jB h6
  have hv:(execOp a.eval o).run P w= .ok (.value (.pointer (some ⟨w.heap.size,0,none⟩))) (w.alloc (.cells z.cells t)):=by
    obtain⟨dst,op,ty,pos,after,guard⟩:=o
    simp only at ho
    subst ho
    simp only[execOp,Instr.alloc,zeroValue,typeInfo,Sem.run_bind,run_program,Result.andThen_ok,h1,Sem.run_pure,h5,newVar,newRow,run_newObj,World.alloc_eq]
  refine⟨_,_,hv, .inl ⟨_,rfl,g.alloc d w.heap.size, ?_⟩⟩
  rw[hd]
  refine hs.alloc hn z.cells t i.zero (BU i.zero) (by simpa using e) (fun j x hx=> ?_)
  obtain⟨v,hv,hc⟩:=hz j x hx
  obtain⟨c1,c2⟩:=oT hc
  refine⟨v,by simpa using hv,(c1 (fun _=>False) w).not_agg, ?_⟩
  unfold BU iW
  rw[hx]
  simp only
  by_cases hs:scal x=true
  · rw[if_pos hs]; exact⟨hs,c1 _ _⟩
  · rw[if_neg hs]; exact zI hc (by simpa using hs)

def aO:V→Option (List T)
  | .one (.c x)=>some [x]
  | .one (.ag xs)=>some xs
  | _=>none

theorem gA{g:G}{w:World}{κ:Nat→Nat→K}{l:Nat→Nat→Loc}{u:Value}{r:V}{xs:List T}(h:RV g w κ l u r)(hc:aO r=some xs):u.cells.size=xs.length∧(∀(j:Nat) x,xs[j]? =some x→ ∃c,u.cells[j]? =some c∧mS c∧LF g w (κ 0 j) (l 0 j) c x)∧
    (∀j,(j:Nat)<xs.length→pR u 0 j=u.cells[j]?)∧(∀j,r.leaf 0 j=xs[j]?)∧aI r= .none:=by
  unfold aO at hc
  split at hc
  · rename_i x
    simp only[Option.some.injEq]at hc
    subst hc
    have hcells:u.cells= #[u]:=by
      have:=h.1.1
      cases u<;>first | rfl | exact absurd rfl (this _)
    rw[hcells]
    refine⟨rfl,fun j y hy=> ?_,fun j hj=> ?_,fun j=> ?_,rfl⟩
    · cases j with
      | zero=>simp only[List.getElem?_cons_zero,Option.some.injEq]at hy; subst hy; exact⟨u,rfl,h.1,h.2⟩
      | succ j=>simp at hy
    · have hj0:j=0:=by simpa using hj
      subst hj0
      exact(gH h.1).2
    · cases j<;>rfl
  · rename_i ys
    simp only[Option.some.injEq]at hc
    subst hc
    obtain⟨cs,rfl,h2,h3⟩:=h
    exact⟨h2,h3,fun j hj=>rfl,fun j=>rfl,rfl⟩
  · cases hc

/-- A new variable that holds what a slot holds; the cells of M go along. -/
theorem Wp{t:Nat}{ty:TypeId}{xs:List T}(M:List Nat)(hd:o.dst=some d)(hn:d<st.n)(ho:o.op= .box ty (.tmp t))(hc:aO (st.sl t)=some xs)(hne:t≠d)(hM: ∀j∈M,j<xs.length):
    nS P g0 w0 o st ((st.alloc d xs (fun j=>(st.fl (.s t 0 j)).cp)).mvs (M.map fun j=>(.s t 0 j, .oc d j))):=by
  intro a w ⟨g,hs⟩
  have hrv:RV g w (fun k j=>(st.fl (.s t k j)).cp) (fun _ j=> .oc d j) (a.tmps.getD t undef) (st.sl t):=(hs.slots t).cp hs.ok (fun _ _=>rfl)
  obtain⟨k1,k2,k3,k4,k5⟩:=gA hrv hc
  have hev:a.eval (.tmp t)=a.tmps.getD t undef:=rfl
  have hv:(execOp a.eval o).run P w= .ok (.value (.pointer (some ⟨w.heap.size,0,none⟩))) (w.alloc (.cells (a.tmps.getD t undef).cells ty)):=by
    obtain⟨dst,op,ty',pos,after,guard⟩:=o
    simp only at ho
    subst ho
    simp only[execOp,Instr.box,hev,newVar,newRow,Sem.run_bind,run_newObj,World.alloc_eq,Result.andThen_ok,Sem.run_pure]
  refine⟨_,_,hv, .inl ⟨_,rfl, ?_⟩⟩
  rw[hd]
  have hd':d<a.tmps.size:=by rw[hs.size]; exact hn
  have h1:=hs.alloc hn (a.tmps.getD t undef).cells ty xs (fun j=>(st.fl (.s t 0 j)).cp) k1 k2
  obtain⟨g',_,h2⟩:=h1.mvs (M.map fun j=>(.s t 0 j, .oc d j)) (fun m hm=>by
    obtain⟨j,hjm,rfl⟩:=List.mem_map.1 hm
    have hj:=hM j hjm
    have e1:(st.alloc d xs (fun j=>(st.fl (.s t 0 j)).cp)).at (.s t 0 j)=xs[j]? :=by
      simp only[St.at,atL,St.alloc,if_neg hne,V.kill_leaf]
      exact k4 j
    refine⟨rfl,rfl,by simp, ?_,⟨xs[j],by rw[e1]; exact List.getElem?_eq_getElem hj⟩, ?_⟩
    · rw[e1]
      simp [St.at,atL,St.alloc]
    · simp only[vAt]
      rw[Act.put_getD a d _ t hd',if_neg hne,k3 j hj]
      have hb:(g.alloc d w.heap.size).β d=w.heap.size:=by simp [G.alloc]
      rw[hb]
      exact cI _ _ _ _ _ _ (heap_alloc_new w _))
  exact⟨g',h2⟩

/-! ### a write into an object -/
def St.write(st:St)(o p:Nat)(xs cells:List T)(κ:Nat→K):St:=
  { n:=st.n
    sl:=st.sl
    ob:=fun o'=>if o'=o then some (cells.take p++xs++cells.drop (p+xs.length))else st.ob o'
    fl:=fun l=>match l with
      | .s i k j=>if k=0∧j=0∧tE o (aI (st.sl i))=true then .D else st.fl (.s i k j)
      | .oc o' j=>if o'=o∧p≤j∧j<p+xs.length then κ (j - p)else st.fl (.oc o' j)
      | l=>st.fl l }

theorem pN{α:Type}(l xs:List α)(p:Nat)(h:p+xs.length≤l.length)(j:Nat):(l.take p++xs++l.drop (p+xs.length))[j]? =if p≤j∧j<p+xs.length then xs[j - p]? else l[j]? :=by
  have hp:(l.take p).length=p:=by simp; omega
  by_cases h1:j<p
  · rw[if_neg (by omega),List.append_assoc,List.getElem?_append_left (by omega),List.getElem?_take,if_pos h1]
  · by_cases h2:j<p+xs.length
    · rw[if_pos (by omega),List.getElem?_append_left (by simp; omega),List.getElem?_append_right (by omega),hp]
    · rw[if_neg (by omega),List.getElem?_append_right (by simp; omega),List.getElem?_drop]
      congr 1
      simp; omega

theorem mO{w:World}{b p:Nat}{ty:TypeId}{arr:Array Value}(hb:w.heap[b]? =some (.cells arr ty (0,0)))(vs:List Value)(hle:p+vs.length≤arr.size)(h1: ∀v∈vs,v.oneCell'=true):
    ∃w',(storeCells ⟨b,p,none⟩ vs).run P w= .ok () w'∧w'.heap[b]? =some (.cells (arr.toList.take p++vs++arr.toList.drop (p+vs.length)).toArray ty (0,0))∧(∀k,k≠b→w'.heap[k]? =w.heap[k]?)∧w'.heap.size=w.heap.size∧w'.os=w.os∧w'.tape=w.tape∧w'.output=w.output:=by
  have h:=run_storeCells_at P b p ty vs 0 arr w hb (by omega) h1
  simp only[Nat.add_zero]at h
  refine⟨_,h,setRow_heap w b arr _ ty _ hb,fun k hk=>setRow_other w b k _ (fun e=>hk e),by simp,rfl,rfl,rfl⟩

theorem nQ{c:Value}(h:mS c):c.oneCell'=true:=by
  cases c<;>first | rfl | exact absurd rfl (h.1 _) | exact absurd rfl (h.2 _)

theorem bQ.write{a:Act}{g:G}{w:World}(hs:bQ g0 w0 st a g w){ob p:Nat}{cells xs:List T}{κ:Nat→K}(hc:st.ob ob=some cells)(hle:p+xs.length≤cells.length){vs:List Value}(hlen:vs.length=xs.length)
    (hx: ∀(j:Nat) x,xs[j]? =some x→ ∃c,vs[j]? =some c∧mS c∧LF g w (κ j) (.oc ob (p+j)) c x):
    ∃w',(storeCells ⟨g.β ob,p,none⟩ vs).run P w= .ok () w'∧bQ g0 w0 (st.write ob p xs cells κ) a g w'∧ ∀j,w'.cell? ⟨g.β ob,j,none⟩=if p≤j∧j<p+xs.length then vs[j - p]? else w.cell? ⟨g.β ob,j,none⟩:=by
  obtain⟨arr,ty,r1,r2,r3,r5⟩:=hs.obs ob cells hc
  have h1: ∀v∈vs,v.oneCell'=true:=fun v hv=>by
    obtain⟨j,hj⟩:=List.getElem?_of_mem hv
    have hjl:j<xs.length:=by
      rcases Nat.lt_or_ge j xs.length with h | h
      · exact h
      · rw[List.getElem?_eq_none (by omega)]at hj; cases hj
    obtain⟨c,hc1,hc2,_⟩:=hx j xs[j] (List.getElem?_eq_getElem hjl)
    rw[hj]at hc1
    cases hc1
    exact nQ hc2
  obtain⟨w',s1,s2,s3,s4,s5,s6,s7⟩:=mO (P:=P) r1 vs (by rw[hlen,r2]; exact hle) h1
  rw[hlen]at s2
  have hcell: ∀j,w'.cell? ⟨g.β ob,j,none⟩=if p≤j∧j<p+xs.length then vs[j - p]? else w.cell? ⟨g.β ob,j,none⟩:=by
    intro j
    rw[cI w' _ j _ _ _ s2,cI w _ j _ _ _ r1]
    have:=pN arr.toList vs p (by rw[hlen]; simp [r2]; exact hle) j
    rw[hlen]at this
    simpa using this
  refine⟨w',s1, ?_,hcell⟩
  have hE:Evo g w g w' (fun l=>l= .obj ob):=⟨by omega,fun b _ hX=>⟨rfl,s3 b (fun e=>hX (by rw[e]; exact r3))⟩⟩
  have hA: ∀b,all g w b→all g w' b∧w'.heap[b]? =w.heap[b]? :=fun b hb=>⟨⟨by rw[s4]; exact hb.1,hb.2⟩,s3 b (fun e=>hb.2 ob (by rw[e]; exact r3))⟩
  have hn: ¬ (Loc.none= .obj ob):=by simp
  have hlf: ∀ {κ:K} {l:Loc} {v:Value} {x:T},l.place=true→LF g w κ l v x→LF g w' κ l v x:=fun hl hf=>LF.evo hE hs.ok (Loc.place_ne hl).1 hn (fun _=>(Loc.place_ne hl).2.2 ob) (fun _=>hA) hf
  have hcpr: ∀ {κ:K} {b off:Nat} {xs:List T},CpR g w κ b off xs→CpR g w' κ b off xs:=fun hc=>hc.evo hE hn (.inr (.inr hA))
  have hfl: ∀i k j, ¬ (k=0∧aI (st.sl i)≠ .none)→(st.write ob p xs cells κ).fl (.s i k j)=st.fl (.s i k j):=by
    intro i k j hr
    simp only[St.write]
    rw[if_neg]
    rintro ⟨rfl,rfl,h3⟩
    apply hr
    refine⟨rfl,fun e=> ?_⟩
    rw[e]at h3
    simp [tE]at h3
  refine⟨⟨s5.trans hs.framed.os,s6.trans hs.framed.tape,s7.trans hs.framed.output,hs.framed.evo.trans (hE.mono fun l hl=>by subst hl; simp [oC])⟩,⟨fun b hb=>by rw[s4]; exact hs.ok.own b hb⟩,hs.size,hs.defers,fun i=> ?_,fun o' cells' hc'=> ?_,fun i hi hf=> ?_,hs.bp,hs.nle⟩
  · refine(hs.slots i).map (fun _=>rfl) (fun k j t u hj _ _ hf=> ?_) (fun k xs hx b off hc=> ?_)
    · rw[hfl i k j]
      · exact hlf rfl hf
      · rintro ⟨rfl,hr⟩
        have hj':(st.sl i).leaf 0 j=some t:=hj
        cases hsl:st.sl i with
        | one y=>rw[hsl]at hr hj'; cases y<;>first | exact hr rfl | simp [V.leaf,W.leaf]at hj'
        | tup ws=>rw[hsl]at hr; exact hr rfl
    · rw[hfl i k 0 (Me hx)]
      exact hcpr hc
  · by_cases e:o'=ob
    · subst e
      have hc2:cells'=cells.take p++xs++cells.drop (p+xs.length):=by simpa [St.write]using hc'.symm
      subst hc2
      refine⟨_,ty,s2, ?_,r3,fun j z hz=> ?_⟩
      · simp only[List.size_toArray,List.length_append,List.length_take,List.length_drop,Array.length_toList,hlen,r2]
      · rw[pN cells xs p hle j]at hz
        have:=pN arr.toList vs p (by rw[hlen]; simp [r2]; exact hle) j
        rw[hlen]at this
        by_cases hin:p≤j∧j<p+xs.length
        · rw[if_pos hin]at hz this
          obtain⟨c,hc1,hc2,hc3⟩:=hx _ z hz
          have e1:(st.write o' p xs cells κ).fl (.oc o' j)=κ (j - p):=by simp [St.write,hin]
          refine⟨c,by rw[List.getElem?_toArray,this]; exact hc1,hc2, ?_⟩
          rw[e1]
          rw[show p+(j - p)=j by omega]at hc3
          exact hlf rfl hc3
        · rw[if_neg hin]at hz this
          obtain⟨c,hc1,hc2,hc3⟩:=r5 _ z hz
          have e1:(st.write o' p xs cells κ).fl (.oc o' j)=st.fl (.oc o' j):=by
            simp only[St.write]
            rw[if_neg (fun h=>hin h.2)]
          refine⟨c,by rw[List.getElem?_toArray,this,Array.getElem?_toList]; exact hc1,hc2, ?_⟩
          rw[e1]
          exact hlf rfl hc3
    · have hc2:st.ob o'=some cells':=by simpa [St.write,e]using hc'
      obtain⟨arr',ty',f1,f2,f3,f5⟩:=hs.obs o' cells' hc2
      have hne:g.β o'≠g.β ob:=fun h=>by
        rw[h,r3]at f3
        exact e (Loc.obj.inj f3).symm
      refine⟨arr',ty',(s3 _ hne).trans f1,f2,f3,fun j z hz=> ?_⟩
      obtain⟨c,c1,c2,c3⟩:=f5 j z hz
      have e1:(st.write ob p xs cells κ).fl (.oc o' j)=st.fl (.oc o' j):=by simp [St.write,e]
      exact⟨c,c1,c2,by rw[e1]; exact hlf rfl c3⟩
  · have hi':aI (st.sl i)≠ .none:=hi
    have hf1:tE ob (aI (st.sl i))=false∧st.fl (.s i 0 0)≠ .D:=by
      simp only[St.write,true_and]at hf
      by_cases hs:tE ob (aI (st.sl i))=true
      · rw[if_pos hs]at hf; exact absurd rfl hf
      · rw[if_neg hs]at hf; exact⟨by simpa using hs,hf⟩
    obtain⟨p1,p2⟩:=hs.pls i hi' hf1.2
    obtain⟨t,ht⟩:=p2.root hi'
    have hne2: ∀o j,aI (st.sl i)= .oc o j→o≠ob:=fun o j e1 e2=>by subst e2; rw[e1]at hf1; simp [tE]at hf1
    show((st.write ob p xs cells κ).fl (aI (st.sl i))).hold=true∧EJ _ _ _ _ _ (st.sl i)
    refine⟨?_,p2.congr ?_ ?_ (fun v0 x0 p v' x' e1 e2 hp=>hs.pl_evo hE hn p1 ((Loc.place_ne (at_isPlace ht)).2.2 ob) e1 e2 hp)⟩
    · have:(st.write ob p xs cells κ).fl (aI (st.sl i))=st.fl (aI (st.sl i)):=by
        generalize hr:aI (st.sl i)=l at*
        cases l with
        | s i' k j=>
          refine hfl i' k j ?_
          rintro ⟨rfl,h2⟩
          rw[St.at_s]at ht
          cases hsl:st.sl i' with
          | one y=>rw[hsl]at h2 ht; cases y<;>first | exact h2 rfl | simp [V.leaf,W.leaf]at ht
          | tup ws=>rw[hsl]at h2; exact h2 rfl
        | oc o j=>simp [St.write,hne2 o j rfl]
        | _=>rfl
      rw[this]; exact p1
    · generalize hr:aI (st.sl i)=l at*
      cases l with
      | oc o j=>
        simp only[vAt]
        simp only[St.at,atL,Option.bind_eq_some_iff]at ht
        obtain⟨cells',hc',_⟩:=ht
        obtain⟨arr',ty',k1,k2,k3,k4⟩:=hs.obs o cells' hc'
        exact bY (s3 _ (fun h=>by rw[h,r3]at k3; exact hne2 o j rfl (Loc.obj.inj k3).symm))
      | _=>rfl
    · generalize hr:aI (st.sl i)=l at*
      cases l with
      | oc o j=>simp only[St.at,atL,St.write,if_neg (hne2 o j rfl)]
      | _=>rfl

theorem Oo(hT:bC P τ){t:TypeId}{x y:Operand}{i:TI}{ob p:Nat}{cells xs:List T}(M:List (Nat×Nat))(hd:o.dst=none)(ho:o.op= .store t x y)(hi:τ t=some i)(hx:ev st.sl x= .one (.ptr ob p))(hc:st.ob ob=some cells)
    (hy:aO (ev st.sl y)=some xs)(hsz:xs.length=i.size)(hle:p+xs.length≤cells.length)(hM: ∀m∈M,m.2<xs.length∧y= .tmp m.1):
    nS P g0 w0 o st ((st.write ob p xs cells (opK st y 0)).mvs (M.map fun m=>(.s m.1 0 m.2, .oc ob (p+m.2)))):=by
  intro a w ⟨g,hs⟩
  have h1:=hs.ev_rv x (fun _ _=> .none)
  rw[hx]at h1
  have e1:a.eval x= .pointer (some ⟨g.β ob,p,none⟩):=h1
  obtain⟨k1,k2,k3,k4,k5⟩:=gA (hs.ev_rv y (fun _ j=> .oc ob (p+j))) hy
  obtain⟨info,_,_,q1,_,q3,_⟩:=hT.get hi
  obtain⟨w',s1,h2,hcell⟩:=hs.write (P:=P) hc hle (vs:=(a.eval y).cells.toList) (by simpa using k1) (fun j z hz=>by
    obtain⟨c,c1,c2,c3⟩:=k2 j z hz
    exact⟨c,by rw[Array.getElem?_toList]; exact c1,c2,c3⟩)
  have hv:(execOp a.eval o).run P w= .ok .skip w':=by
    obtain⟨dst,op,ty',pos,after,guard⟩:=o
    simp only at ho
    subst ho
    have hne: ¬ (a.eval y).cells.size≠info.size:=by rw[k1,q3,hsz]; simp
    simp only[execOp,Instr.storeAt,e1,Instr.sureAddr,Sem.run_bind,Sem.run_pure,Result.andThen_ok,storeVar,sizeOf,typeInfo,run_program,q1,if_neg hne,s1]
  refine⟨_,_,hv, .inr ⟨rfl, ?_⟩⟩
  rw[hd]
  obtain⟨g',_,h3⟩:=h2.mvs (M.map fun m=>(.s m.1 0 m.2, .oc ob (p+m.2))) (fun m hm=>by
    obtain⟨m',hm',rfl⟩:=List.mem_map.1 hm
    obtain⟨m1,m2⟩:=hM m' hm'
    have e2:st.at (.s m'.1 0 m'.2)=xs[m'.2]? :=by
      have:=k4 m'.2
      rw[m2]at this
      exact this
    refine⟨rfl,rfl,by simp, ?_,⟨xs[m'.2],by show st.at (.s m'.1 0 m'.2)=_; rw[e2]; exact List.getElem?_eq_getElem m1⟩, ?_⟩
    · show _=st.at (.s m'.1 0 m'.2)
      rw[e2]
      simp only[St.at,atL,St.write,if_true,Option.bind_some]
      rw[pN cells xs p hle,if_pos (by omega),Nat.add_sub_cancel_left]
    · simp only[vAt]
      rw[hcell,if_pos (by omega),Nat.add_sub_cancel_left,Array.getElem?_toList, ←k3 m'.2 m1,m2]
      rfl)
  exact⟨g',h3⟩
end
end Go.Own

/- An append. -/
namespace Go.Own
open Go.RowKit

section
variable {P:Program} (w:World)

theorem DD(t u ty e:TypeId)(du:TypeDesc)(i:TypeInfo)(z:Value)(ht:P.underlying t=some (.slice e))(hu:P.underlying u=some du)(hdu: ∀k,du≠ .int k)(hi:P.info? e=some i)(hz:i.zero=some z)
  (a:Option Addr)(n1 c1 n2:Nat)(x:Value)(olds news:List Value)(h1:(Builtin.firstCells i.size n1 (.slice a n1 c1)).run P w.drew= .ok olds.toArray w.drew)(h2:(Builtin.firstCells i.size n2 x).run P w.drew= .ok news.toArray w.drew)
  (hx: ∀w':World,(Builtin.lenOf x).run P w'= .ok n2 w')(hg:c1<n1+n2)(h63:n1+n2≤maxLen)(hb:(n1+n2)*i.bytes≤140737488355328):
  (Builtin.append_ #[t,u] ty #[.slice a n1 c1,x]).run P w=
   .ok (.slice (some ⟨w.heap.size,0,none⟩) (n1+n2) (grownCap w (n1+n2) c1 e))
    (w.drew.alloc (.cells ((olds++news).toArray++Builtin.zeroCells z.cells (grownCap w (n1+n2) c1 e - (n1+n2))) e)):=by
 have hn: ¬ (n1+n2≤c1):=by omega
 have h63': ¬ (9223372036854775807<((n1:Int)+(n2:Int))):=by simp only[maxLen]at h63; omega
 have hfit:=growslice_fits hg hb
 have h48': ¬ (281474976710656<Builtin.nextslicecap (n1+n2) c1*i.bytes):=by omega
 simp [Builtin.append_,run_underlying ht,run_underlying hu,sizeOf,typeInfo,zeroValue,hi,hz,hx,hn,h63',h48',Question.forced,h1,h2,newRow,grownCap]
 congr 2
 apply Array.ext'
 simp

theorem DB(t u ty e:TypeId)(du:TypeDesc)(i:TypeInfo)(ht:P.underlying t=some (.slice e))(hu:P.underlying u=some du)(hdu: ∀k,du≠ .int k)(hi:P.info? e=some i)
  (b:Nat)(n1 c1 n2:Nat)(x:Value)(news:List Value)(h2:(Builtin.firstCells i.size n2 x).run P w= .ok news.toArray w)(hx: ∀w':World,(Builtin.lenOf x).run P w'= .ok n2 w')(hg:n1+n2≤c1)
  (w':World)(hst:(storeCells ⟨b,n1*i.size,none⟩ news).run P w= .ok () w'):
  (Builtin.append_ #[t,u] ty #[.slice (some ⟨b,0,none⟩) n1 c1,x]).run P w= .ok (.slice (some ⟨b,0,none⟩) (n1+n2) c1) w':=by
 simp [Builtin.append_,run_underlying ht,run_underlying hu,sizeOf,typeInfo,hi,hx,hg,h2,jD,hst]

theorem DC(t u ty e:TypeId)(du:TypeDesc)(i:TypeInfo)(ht:P.underlying t=some (.slice e))(hu:P.underlying u=some du)(hdu: ∀k,du≠ .int k)(hi:P.info? e=some i)
  (a:Option Addr)(c1:Nat)(x:Value)(h2:(Builtin.firstCells i.size 0 x).run P w= .ok #[] w)(hx: ∀w':World,(Builtin.lenOf x).run P w'= .ok 0 w'):
  (Builtin.append_ #[t,u] ty #[.slice a 0 c1,x]).run P w= .ok (.slice a 0 c1) w:=by
 cases a<;>simp [Builtin.append_,run_underlying ht,run_underlying hu,sizeOf,typeInfo,hi,hx,h2,storeCells]
end

/-! ### a list of rows, row behind row -/
theorem FM{es:List (List T)}{s:Nat}(h: ∀e∈es,e.length=s):es.flatten.length=es.length*s:=by
 induction es with
 | nil=>simp
 | cons e r ih=>
  rw[List.flatten_cons,List.length_append,ih (fun x hx=>h x (List.mem_cons_of_mem _ hx)),h e List.mem_cons_self,List.length_cons,Nat.add_mul]
  omega

theorem Pg{es:List (List T)}{s:Nat}(h: ∀e∈es,e.length=s): ∀ {i:Nat} {e:List T} {j:Nat},es[i]? =some e→j<s→es.flatten[i*s+j]? =e[j]? :=by
 induction es with
 | nil=>intro i e j h1; simp at h1
 | cons x r ih=>
  intro i e j h1 hj
  have hx:=h x List.mem_cons_self
  rw[List.flatten_cons]
  cases i with
  | zero=>
   simp only[List.getElem?_cons_zero,Option.some.injEq]at h1
   subst h1
   rw[List.getElem?_append_left (by omega)]; simp
  | succ i=>
   simp only[List.getElem?_cons_succ]at h1
   rw[List.getElem?_append_right (by rw[hx,Nat.succ_mul]; omega),hx]
   have:(i+1)*s+j - s=i*s+j:=by rw[Nat.succ_mul]; omega
   rw[this]
   exact ih (fun y hy=>h y (List.mem_cons_of_mem _ hy)) h1 hj

theorem Jt{es:List (List T)}{s:Nat}(h: ∀e∈es,e.length=s){k:Nat}{x:T}(hk:es.flatten[k]? =some x): ∃(i:Nat) (e:List T) (j:Nat),es[i]? =some e∧e[j]? =some x∧j<s∧k=i*s+j:=by
 have hlt:k<es.flatten.length:=by
  rcases Nat.lt_or_ge k es.flatten.length with h1 | h1
  ·exact h1
  ·rw[List.getElem?_eq_none h1]at hk; cases hk
 rw[FM h]at hlt
 have hs:0<s:=by
  rcases Nat.eq_zero_or_pos s with h0 | h0
  ·subst h0; simp at hlt
  ·exact h0
 have hi:k / s<es.length:=(Nat.div_lt_iff_lt_mul hs).2 hlt
 have hj:k % s<s:=Nat.mod_lt _ hs
 have hkk:k=k / s*s+k % s:=by rw[Nat.mul_comm]; exact(Nat.div_add_mod k s).symm
 refine⟨k / s,es[k / s],k % s,List.getElem?_eq_getElem hi, ?_,hj,hkk⟩
 have:=Pg h (List.getElem?_eq_getElem hi) hj
 rw[←hkk,hk]at this
 exact this.symm

theorem bN{α:Type}{l:List α}{i:Nat}{x:α}(h:l[i]? =some x):x∈l:=List.mem_of_getElem? h

theorem cC{α:Type}{l:List α}{i:Nat}{x:α}(h:l[i]? =some x):i<l.length:=by
 rcases Nat.lt_or_ge i l.length with h1 | h1
 ·exact h1
 ·rw[List.getElem?_eq_none h1]at h; cases h

/-- Where a cell of a row lies. -/
theorem DZ{i n s j:Nat}(hi:i<n)(hj:j<s):i*s+j<n*s:=by
 have:(i+1)*s≤n*s:=Nat.mul_le_mul_right _ hi
 rw[Nat.add_mul]at this; omega

/-- The values of a slice's cells, as the machine reads them. -/
structure Qb (w:World) (v:Value) (n s:Nat) (news:List Value):Prop where
 len:news.length=n*s
 first: ∀(P:Program) (w':World),w'.heap=w.heap→(Builtin.firstCells s n v).run P w'= .ok news.toArray w'
 lenOf: ∀(P:Program) (w':World),(Builtin.lenOf v).run P w'= .ok n w'

/-- The cells of a slice that is read. -/
theorem BL{Q:Nat→Prop}{w:World}{v:Value}{es:List (List T)}{s:Nat}(h:Rd Q w v (.sl es))(hs: ∀e∈es,e.length=s):
  ∃news:List Value,Qb w v es.length s news∧(∀(i:Nat) e (j:Nat) x,es[i]? =some e→e[j]? =some x→ ∃c,news[i*s+j]? =some c∧mS c∧Rd Q w c x)∧
   ∀b off len cap,v= .slice (some ⟨b,off,none⟩) len cap→ ∀k:Nat,k<es.length*s→news[k]? =w.cell? ⟨b,off+k,none⟩:=by
 cases h with
 | nil a cap=>
  refine⟨[],⟨by simp,fun P w' _=> ?_,fun P w'=>rfl⟩,fun i e j x h=>by simp at h,fun b off len cap _ k hk=>by simp at hk⟩
  cases a<;>simp [Builtin.firstCells,loadCells,loadCellsFrom]
 | sl b off len cap s' _ cs hl hc hs2 hP hm hr=>
  have hlen:=FM hs
  let news:List Value:=(List.range (es.length*s)).map fun k=>(w.cell? ⟨b,off+k,none⟩).getD undef
  have hj: ∀(i:Nat) e (j:Nat) x,es[i]? =some e→e[j]? =some x→j<s∧s'=s:=fun i e j x he hx=>by
   have e1:=hs e (bN he)
   have e2:=hs2 i e he
   exact⟨by have:=cC hx; omega,by omega⟩
  have hcell: ∀k,k<es.length*s→ ∃c,w.cell? ⟨b,off+k,none⟩=some c:=by
   intro k hk
   obtain⟨i,e,j,h1,h2,h3,rfl⟩:=Jt hs (List.getElem?_eq_getElem (by rw[hlen]; exact hk):es.flatten[k]? =_)
   have h4:=(hj i e j _ h1 h2).2
   subst h4
   exact⟨_,by rw[←Nat.add_assoc]; exact hm i e j _ h1 h2⟩
  have hget: ∀k,k<es.length*s→news[k]? =w.cell? ⟨b,off+k,none⟩:=by
   intro k hk
   obtain⟨c,hc⟩:=hcell k hk
   simp [news,List.getElem?_range hk,hc]
  refine⟨news,⟨by simp [news],fun P w' hw'=> ?_,fun P w'=>by simp [Builtin.lenOf,hl]⟩,fun i e j x he hx=> ?_,fun b' off' len' cap' he k hk=> ?_⟩
  ·refine run_firstCells_some w' s es.length ⟨b,off,none⟩ len cap news (by simp [news]) (fun j v hv=> ?_)
   have hlt:j<es.length*s:=by
    have:=cC hv
    simpa [news]using this
   rw[jD]
   have:w'.cell? ⟨b,off+j,none⟩=w.cell? ⟨b,off+j,none⟩:=by simp [World.cell?,hw']
   rw[this, ←hget j hlt]; exact hv
  ·obtain⟨h1,h2⟩:=hj i e j x he hx
   subst h2
   refine⟨cs i j, ?_,(hr i e j x he hx).not_agg,hr i e j x he hx⟩
   rw[hget _ (DZ (cC he) h1), ←Nat.add_assoc]
   exact hm i e j x he hx
  ·simp only[Value.slice.injEq,Option.some.injEq,Addr.mk.injEq]at he
   obtain⟨⟨rfl,rfl,_⟩,_,_⟩:=he
   exact hget k hk

/-- The rows of a string's bytes. -/
def qV(s:List UInt8):List (List T):=s.map fun b=> [.int .u8 (b.toNat:Int)]

theorem On(w:World)(a:ByteArray): ∃news:List Value,Qb w (.string a) (qV a.data.toList).length 1 news∧ ∀(i:Nat) e (j:Nat) x,(qV a.data.toList)[i]? =some e→e[j]? =some x→ ∃n,news[i*1+j]? =some (.int .u8 n)∧x= .int .u8 n:=by
 have hsz:a.data.toList.length=a.size:=Array.length_toList
 refine⟨a.data.toList.map fun b=> .int .u8 (b.toNat:Int),⟨by simp [qV],fun P w' _=> ?_,fun P w'=>by simp only[Builtin.lenOf,Sem.run_pure,qV,List.length_map,hsz]⟩,fun i e j x he hx=> ?_⟩
 ·simp only[Builtin.firstCells,Sem.run_pure,qV,List.length_map]
  congr 1
  have:a.extract 0 a.data.toList.length=a:=by rw[hsz]; simp
  rw[this]
  apply Array.ext'
  simp
 ·simp only[qV,List.getElem?_map,Option.map_eq_some_iff]at he
  obtain⟨b,hb,rfl⟩:=he
  cases j with
  | zero=>
   simp only[List.getElem?_cons_zero,Option.some.injEq]at hx
   subst hx
   exact⟨_,by simp [hb],rfl⟩
  | succ j=>simp at hx

/-- What an append leaves. -/
structure FT (g:G) (w:World) (l1 l2 L:Loc) (f:Bool) (s:Nat) (es:List (List T)) (v':Value) (g':G) (w':World):Prop where
 os:w'.os=w.os
 tape:w'.tape=w.tape
 output:w'.output=w.output
 ok:GOk g' w'
 β: ∀o,g'.β o=g.β o
 evo:Evo g w g' w' (fun l=>(l=l1∨l=l2)∧l.place=true)
 ow:Ow (frz g' w') f w' (some s) (fun b=>g'.own b=L) v' (.sl es)

def G.app(g:G)(l1 l2 L:Loc)(nb:Nat):G:=
 { β:=g.β,own:=fun b=>if b=nb then L else if(g.own b=l1∨g.own b=l2)∧(g.own b).place=true then L else g.own b }

theorem Kp{P:Program}{g:G}{w:World}(hok:GOk g w){l1 l2 L:Loc}{f:Bool}{v1 x:Value}{es1 es2:List (List T)}{s:Nat}{news:List Value}(h1:Ow (frz g w) f w (some s) (fun b=>g.own b=l1∧l1.place=true) v1 (.sl es1))(hL:L.place=true)
  (hl1: ∀e∈es1,e.length=s)(hs2: ∀e∈es2,e.length=s)(hpos:0<s)(hN:Qb w x es2.length s news)
  (hc2: ∃own2:Nat→Nat×Nat, ∀(i:Nat) e (j:Nat) y,es2[i]? =some e→e[j]? =some y→ ∃c,news[i*s+j]? =some c∧mS c∧Ow (frz g w) f w none (fun k=>(g.own k=l2∧l2.place=true∧l2≠l1)∧own2 k=(i,j)) c y)
  (t u ty e:TypeId)(du:TypeDesc)(i:TypeInfo)(z:Value)(ht:P.underlying t=some (.slice e))(hu:P.underlying u=some du)(hdu: ∀k,du≠ .int k)(hi:P.info? e=some i)(hz:i.zero=some z)(hsz:i.size=s)(hzs:z.cells.size=s)
  (h63:es1.length+es2.length≤maxLen)(hb:(es1.length+es2.length)*i.bytes≤140737488355328):
  ∃v' g' w',(Builtin.append_ #[t,u] ty #[v1,x]).run P w= .ok v' w'∧FT g w l1 l2 L f s (es1++es2) v' g' w':=by
 subst hsz
 obtain⟨own2,hc2⟩:=hc2
 have hLn:=Loc.place_ne hL
 have hall: ∀e∈es1++es2,e.length=i.size:=fun e he=>(List.mem_append.1 he).elim (hl1 e) (hs2 e)
 have hrd1:Rd (fun _=>True) w v1 (.sl es1):=h1.rd (fun _ _=>trivial) (fun _ _=>trivial)
 obtain⟨olds,o1,o2,o5⟩:=BL hrd1 hl1
 have hlenall:(es1++es2).length=es1.length+es2.length:=List.length_append
 -- the old one's parts
 obtain⟨own1,b1,hu1⟩: ∃(own1:Nat→Nat×Nat) (b1:Nat→Prop),(∀k cap,v1= .slice (some ⟨k,0,none⟩) es1.length cap→es1≠[]→b1 k)∧ ∀(i':Nat) e (j:Nat) y,es1[i']? =some e→e[j]? =some y→ ∃c,olds[i'*i.size+j]? =some c∧mS c∧
   Ow (frz g w) f w none (fun k=>(g.own k=l1∧l1.place=true)∧ ¬ b1 k∧own1 k=(i',j)) c y:=by
  cases h1 with
  | nil t F a=>exact⟨fun _=>(0,0),fun _=>False,fun k cap _ h=>absurd rfl h,fun i' e j y h=>by simp at h⟩
  | sl t F b len1 cap1 s1 arr1 ty1 _ own1 cs1 ht1 hb1 hh1 hl1' hc1 hcap1 hs1 ha1 hm1 hr1=>
   refine⟨own1,fun k=>k=b,fun k cap hv _=> ?_,fun i' e j y he hy=> ?_⟩
   ·simp only[Value.slice.injEq,Option.some.injEq,Addr.mk.injEq]at hv
    exact hv.1.1.symm
   ·have es:s1=i.size:=(hs1 i' e he).symm.trans (hl1 e (bN he))
    subst es
    have hj:j<i.size:=by have:=cC hy; have:=hl1 e (bN he); omega
    have h2:=o5 b 0 len1 cap1 rfl _ (DZ (cC he) hj)
    rw[Nat.zero_add,cI w b _ arr1 ty1 (0,0) hh1,hm1 i' e j y he hy]at h2
    refine⟨cs1 i' j,h2,((hr1 i' e j y he hy).rd (P:=fun _=>True) (fun _ _=>trivial) (fun _ _=>trivial)).not_agg,(hr1 i' e j y he hy).mono id (fun _ b hb=>⟨hb,rfl⟩) (fun k hk=>⟨hk,rfl⟩)⟩
 have hplace: ∀k,(g.own k=l1∧l1.place=true)∨(g.own k=l2∧l2.place=true)→k<w.heap.size∧(g.own k).place=true:=fun k hk=>by
  have:(g.own k).place=true:=by rcases hk with h | h<;>(rw[h.1]; exact h.2)
  exact⟨hok.own k (Loc.place_ne this).1,this⟩
 -- what a new block, or the old one written behind its end, comes to
 have fin: ∀(nb cap:Nat) (arr:Array Value) (bty:TypeId) (w':World),w'.os=w.os→w'.tape=w.tape→w'.output=w.output→w.heap.size≤w'.heap.size→
   (∀b,b<w.heap.size→b≠nb→w'.heap[b]? =w.heap[b]?)→nb<w'.heap.size→w'.heap[nb]? =some (.cells arr bty (0,0))→arr.size=cap*i.size→es1.length+es2.length≤cap→cap≤maxLen→
   (∀k,k<(es1.length+es2.length)*i.size→arr[k]? =(olds++news)[k]?)→(w.heap.size≤nb∨((g.own nb=l1∧l1.place=true)∧(es1≠[]→b1 nb)))→
   FT g w l1 l2 L f i.size (es1++es2) (.slice (some ⟨nb,0,none⟩) (es1.length+es2.length) cap) (g.app l1 l2 L nb) w':=by
  intro nb cap arr bty w' hos htape hout hsize hold hnb hnbh harr hcap hcm harrk hwhose
  have hnbp:nb<w.heap.size→(g.own nb).place=true∧g.own nb=l1:=fun h=>by
   rcases hwhose with h2 | h2
   ·omega
   ·exact⟨by rw[h2.1.1]; exact h2.1.2,h2.1.1⟩
  have hZ: ∀b,frz g w b→frz (g.app l1 l2 L nb) w' b∧w'.heap[b]? =w.heap[b]? :=by
   intro b hb
   have hne:b≠nb:=by
    intro e; subst e
    have:=(hnbp hb.1).1
    rw[hb.2]at this; cases this
   refine⟨⟨by have:=hb.1; omega, ?_⟩,hold b hb.1 hne⟩
   show(if b=nb then L else if _ then L else g.own b)= .none
   rw[if_neg hne,if_neg (fun h=>by rw[hb.2]at h; cases h.2)]; exact hb.2
  refine⟨hos,htape,hout,⟨fun b hb=> ?_⟩,fun _=>rfl,⟨hsize,fun b hb hX=> ?_⟩, ?_⟩
  ·by_cases e:b=nb
   ·subst e; exact hnb
   ·have hb':(if b=nb then L else if(g.own b=l1∨g.own b=l2)∧(g.own b).place=true then L else g.own b)≠ .none:=hb
    rw[if_neg e]at hb'
    by_cases h2:(g.own b=l1∨g.own b=l2)∧(g.own b).place=true
    ·have:=hok.own b (Loc.place_ne h2.2).1; omega
    ·rw[if_neg h2]at hb'
     have:=hok.own b hb'; omega
  ·have hne:b≠nb:=by
    intro e; subst e
    obtain⟨q1,q2⟩:=hnbp hb
    exact hX ⟨.inl q2,q1⟩
   refine⟨?_,hold b hb hne⟩
   show(if b=nb then L else if _ then L else g.own b)=g.own b
   rw[if_neg hne,if_neg hX]
  ·have hF: ∀k,(g.own k=l1∧l1.place=true)∨(g.own k=l2∧l2.place=true)→k≠nb→(g.app l1 l2 L nb).own k=L∧w'.heap[k]? =w.heap[k]? :=by
    intro k h2 h3
    obtain⟨q1,q2⟩:=hplace k h2
    refine⟨?_,hold k q1 h3⟩
    show(if k=nb then L else if _ then L else g.own k)=L
    rw[if_neg h3,if_pos ⟨h2.elim (fun h=> .inl h.1) (fun h=> .inr h.1),q2⟩]
   refine .sl _ _ nb _ cap i.size arr bty (es1++es2) (fun k=>if g.own k=l1 then own1 k else((own2 k).1+es1.length,(own2 k).2)) (fun i' j=>(arr[i'*i.size+j]?).getD undef) (by simp) (by simp [G.app]) hnbh hlenall hcap hcm
    (fun i' e he=>hall e (bN he)) harr (fun i' e j x he hx=> ?_) (fun i' e j x he hx=> ?_)
   all_goals
    have hj:j<i.size:=by have:=cC hx; have:=hall e (bN he); omega
    have hi':i'<es1.length+es2.length:=by have:=cC he; omega
    have hk':=DZ hi' hj
    obtain⟨c,hac,hOw⟩: ∃c,arr[i'*i.size+j]? =some c∧Ow (frz (g.app l1 l2 L nb) w') f w' none (fun k=>(g.app l1 l2 L nb).own k=L∧k≠nb∧(if g.own k=l1 then own1 k else((own2 k).1+es1.length,(own2 k).2))=(i',j)) c x:=by
     rw[harrk _ hk']
     by_cases hlt:i'<es1.length
     ·rw[List.getElem?_append_left hlt]at he
      obtain⟨c,c1,c2,c3⟩:=hu1.2 i' e j x he hx
      refine⟨c,by rw[List.getElem?_append_left (by rw[o1.len]; exact DZ hlt hj)]; exact c1,c3.mono id (fun _=>hZ) (fun k hk=> ?_)⟩
      have hknb:k≠nb:=by
       intro e2; subst e2
       rcases hwhose with h | h
       ·have:=(hplace k (.inl hk.1)).1; omega
       ·exact hk.2.1 (h.2 (fun e3=>by subst e3; simp at hlt))
      have:=hF k (.inl hk.1) hknb
      exact⟨⟨this.1,hknb,by rw[if_pos hk.1.1]; exact hk.2.2⟩,this.2⟩
     ·rw[List.getElem?_append_right (by omega)]at he
      obtain⟨c,c1,c2,c3⟩:=hc2 (i' - es1.length) e j x he hx
      have hle:es1.length*i.size≤i'*i.size:=Nat.mul_le_mul_right _ (by omega)
      have hsub:i'*i.size+j - olds.length=(i' - es1.length)*i.size+j:=by rw[o1.len,Nat.sub_mul]; omega
      refine⟨c,by rw[List.getElem?_append_right (by rw[o1.len]; omega),hsub]; exact c1,c3.mono id (fun _=>hZ) (fun k hk=> ?_)⟩
      obtain⟨⟨q1,q2,q3⟩,q4⟩:=hk
      have hknb:k≠nb:=by
       intro e2; subst e2
       rcases hwhose with h | h
       ·have:=(hplace k (.inr ⟨q1,q2⟩)).1; omega
       ·exact q3 (q1.symm.trans h.1.1)
      have:=hF k (.inr ⟨q1,q2⟩) hknb
      refine⟨⟨this.1,hknb, ?_⟩,this.2⟩
      rw[if_neg (by rw[q1]; exact q3),q4]
      simp only[Prod.mk.injEq,and_true]
      omega
   ·rw[hac]; rfl
   ·rw[hac]; exact hOw
 have hone: ∀v∈news,v.oneCell'=true:=by
  intro v hv
  obtain⟨k,hk⟩:=List.getElem?_of_mem hv
  have hlt:k<es2.flatten.length:=by rw[FM hs2, ←hN.len]; exact cC hk
  obtain⟨i',e,j,q1,q2,q3,rfl⟩:=Jt hs2 (List.getElem?_eq_getElem hlt)
  obtain⟨c,c1,c2,_⟩:=hc2 i' e j _ q1 q2
  rw[hk]at c1; cases c1
  exact nQ c2
 have grow: ∀(av:Option Addr) (c1:Nat),v1= .slice av es1.length c1→c1<es1.length+es2.length→
   ∃v' g' w',(Builtin.append_ #[t,u] ty #[v1,x]).run P w= .ok v' w'∧FT g w l1 l2 L f i.size (es1++es2) v' g' w':=by
  intro av c1 hv1 hlt
  have hrun:=DD (P:=P) w t u ty e du i z ht hu hdu hi hz av es1.length c1 es2.length x olds news (by rw[←hv1]; exact o1.first P w.drew rfl) (hN.first P w.drew rfl) (hN.lenOf P) hlt h63 hb
  have hge:=grownCap_ge w (es1.length+es2.length) c1 e
  have hcm:=grownCap_le_maxLen w (es1.length+es2.length) c1 e h63
  refine⟨_,_,w.drew.alloc (.cells ((olds++news).toArray++Builtin.zeroCells z.cells (grownCap w (es1.length+es2.length) c1 e - (es1.length+es2.length))) e),by rw[hv1]; exact hrun,fin w.heap.size (grownCap w (es1.length+es2.length) c1 e) _ e _ rfl rfl rfl (by simp) (fun b hb _=>heap_alloc_old w.drew _ b hb) (by simp) (heap_alloc_new w.drew _) ?_ hge hcm (fun k hk=> ?_) (.inl (Nat.le_refl _))⟩
  ·simp only[Array.size_append,List.size_toArray,List.length_append,size_zeroCells,hzs,o1.len,hN.len, ←Nat.add_mul]
   congr 1
   omega
  ·rw[Array.getElem?_append_left (by simp only[List.size_toArray,List.length_append,o1.len,hN.len, ←Nat.add_mul]; exact hk)]
   simp
 have h1':=h1
 cases h1 with
 | nil t' F av=>
  by_cases he2:es2=[]
  ·subst he2
   have hnews:news=[]:=List.eq_nil_of_length_eq_zero (by simpa using hN.len)
   have hrun:=DC (P:=P) w t u ty e du i ht hu hdu hi av 0 x (by have:=hN.first P w rfl; rw[hnews]at this; exact this) (hN.lenOf P)
   exact⟨_,g,w,hrun,rfl,rfl,rfl,hok,fun _=>rfl,Evo.refl _ _ _, .nil _ _ _⟩
  ·have h2:0<es2.length:=by cases es2 with | nil=>exact absurd rfl he2 | cons y r=>simp
   exact grow av 0 rfl (by simpa using h2)
 | sl t' F b len cap s' arr bty _ own cs hst hbo hbh hlen hlc hcm hs' harr hm hr=>
  subst hlen
  have e0:s'=i.size:=hst _ rfl
  subst e0
  by_cases hroom:es1.length+es2.length≤cap
  ·have hle:es1.length*i.size+news.length≤arr.size:=by rw[hN.len,harr, ←Nat.add_mul]; exact Nat.mul_le_mul_right _ hroom
   obtain⟨w',s1,s2,s3,s4,s5,s6,s7⟩:=mO (P:=P) hbh news hle hone
   have hrun:=DB (P:=P) w t u ty e du i ht hu hdu hi b es1.length cap es2.length x news (hN.first P w rfl) (hN.lenOf P) hroom w' s1
   refine⟨_,_,_,hrun,fin b cap _ bty w' s5 s6 s7 (by omega) (fun b' _ hb'=>s3 b' hb') (by rw[s4]; exact(Array.getElem?_eq_some_iff.1 hbh).1) s2 ?_ hroom hcm (fun k hk=> ?_) (.inr ⟨hbo,fun hne=>hu1.1 b cap rfl hne⟩)⟩
   ·simp only[List.size_toArray,List.length_append,List.length_take,List.length_drop,Array.length_toList]
    omega
   ·rw[List.getElem?_toArray,pN arr.toList news (es1.length*i.size) (by simpa using hle) k]
    rw[Nat.add_mul]at hk
    by_cases hk1:k<es1.length*i.size
    ·rw[if_neg (by omega),List.getElem?_append_left (by rw[o1.len]; exact hk1),Array.getElem?_toList]
     have:=o5 b 0 _ _ rfl k hk1
     rw[Nat.zero_add,cI w b k arr bty (0,0) hbh]at this
     exact this.symm
    ·rw[if_pos (by rw[hN.len]; omega),List.getElem?_append_right (by rw[o1.len]; omega),o1.len]
  ·exact grow _ cap rfl (by omega)
end Go.Own

/- The step of an append. -/
namespace Go.Own
open Go.RowKit

def St.lowO(st:St)(l:Loc):St:=if l.place then st.lower l .D else st

theorem IJ(st:St)(l m:Loc):(st.lowO l).at m=st.at m:=by unfold St.lowO; split<;>rfl
theorem QP(st:St)(l:Loc):(st.lowO l).n=st.n:=by unfold St.lowO; split<;>rfl
theorem MJ{st:St}{l m:Loc}{x:T}(hx:st.at m=some x):(st.lowO l).fl m=if m=l∧l.place=true then .D else st.fl m:=by
 unfold St.lowO
 by_cases hp:l.place=true
 ·rw[if_pos hp]
  have:=uU (st:=st) (R:=fun m=>decide (m=l)) (f:=fun m=>if m=l then .D else st.fl m) (by simp [Ne.symm (Loc.place_ne hp).1]) hx
  unfold St.lower
  rw[this]
  by_cases e:m=l
  ·rw[if_pos e,if_pos ⟨e,hp⟩]
  ·rw[if_neg e,if_neg (fun h=>e h.1)]
 ·rw[if_neg hp,if_neg (fun h=>hp h.2)]

theorem bQ.lowO{g0:G}{w0:World}{st:St}{a:Act}{g:G}{w:World}(h:bQ g0 w0 st a g w)(l:Loc):bQ g0 w0 (st.lowO l) a g w:=by
 unfold St.lowO
 split
 ·rename_i hp
  exact h.lower hp (by cases st.fl l<;>rfl)
 ·exact h

theorem pI{st:St}{R:Loc→Bool}{f:Loc→K}(hf: ∀m,f m≠ .V)(m:Loc):(st.setf R f).fl m≠ .V:=by
 cases m with
 | s i k j=>
  simp only[St.setf]
  split
  ·simp
  ·exact hf _
 | _=>exact hf _

theorem Jk{st:St}(h: ∀m,st.fl m≠ .V)(l m:Loc):(st.lowO l).fl m≠ .V:=by
 unfold St.lowO
 split
 ·unfold St.lower
  refine pI (fun m=> ?_) m
  split
  ·simp
  ·exact h m
 ·exact h m

/-- The kind of what may be put more behind, or that is empty. -/
def K.app(s:Nat):K→Bool
 | .A n=>n == s
 | .U n=>n == s&& !(n == 0)
 | .N=>true
 | _=>false
def K.deep:K→Bool
 | .A _=>false
 | _=>true

/-- The place whose blocks go along. -/
def iA(st:St):Operand→Loc
 | .tmp t=>if(st.fl (.s t 0 0)).hold then .s t 0 0 else .none
 | _=> .none

def KG(st:St):Operand→K
 | .tmp t=>st.fl (.s t 0 0)
 | .const v=>gR (bI v) 0 0
 | _=> .S

theorem bQ.app_fst{g0:G}{w0:World}{st:St}{a:Act}{g:G}{w:World}(hs:bQ g0 w0 st a g w){x:Operand}{es:List (List T)}{s:Nat}{f:Bool}(hx:ev st.sl x= .one (.c (.sl es)))(hk:(KG st x).app s=true)(hf:f=true→(KG st x).deep=true):
  Ow (frz g w) f w (some s) (fun b=>g.own b=iA st x∧(iA st x).place=true) (a.eval x) (.sl es):=by
 cases x with
 | tmp t=>
  have h1:=hs.slots t
  have hx':st.sl t= .one (.c (.sl es)):=hx
  rw[hx']at h1
  have h2:LF g w (st.fl (.s t 0 0)) (.s t 0 0) (a.tmps.getD t undef) (.sl es):=h1.2
  have hev:a.eval (.tmp t)=a.tmps.getD t undef:=rfl
  rw[hev]
  simp only[KG]at hk hf
  simp only[iA]
  generalize hκ:st.fl (.s t 0 0)=κ at h2 hk hf
  cases κ with
  | A n=>
   have hn:n=s:=by simpa [K.app]using hk
   subst hn
   have hff:f=false:=by cases f with | false=>rfl | true=>exact absurd (hf rfl) (by simp [K.deep])
   subst hff
   exact Ow.mono h2 id (fun _ b hb=>⟨hb,rfl⟩) (fun b hb=>⟨⟨hb,rfl⟩,rfl⟩)
  | U n=>
   have hn:n=s∧ ¬ n=0:=by simpa [K.app]using hk
   obtain⟨rfl,hn0⟩:=hn
   have h2:Ow (frz g w) true w (gJ n) (fun b=>g.own b= .s t 0 0) (a.tmps.getD t undef) (.sl es):=h2
   rw[oO (by omega)]at h2
   cases f with
   | true=>exact Ow.mono h2 id (by simp) (fun b hb=>⟨⟨hb,rfl⟩,rfl⟩)
   | false=>exact Ow.mono (deep':=false) h2 (by simp) (by simp) (fun b hb=>⟨⟨hb,rfl⟩,rfl⟩)
  | N=>
   obtain⟨h3,q,hq⟩:=h2
   cases h3
   rw[hq]; exact .nil _ _ _
  | _=>simp [K.app]at hk
 | const v=>
  simp only[KG,gR]at hk
  have hx':bI v= .one (.c (.sl es)):=hx
  have h1:=tC g w (fun _ _=> .none) v
  rw[hx']at h1 hk
  have h2:LF g w (gR (.one (.c (.sl es))) 0 0) .none v (.sl es):=h1.2
  simp only[gR,V.leaf,W.leaf,scal,Bool.false_eq_true,if_false]at h2
  obtain⟨h3,q,hq⟩:=h2
  cases h3
  have:a.eval (.const v)=v:=rfl
  rw[this,hq]; exact .nil _ _ _
 | func f=>simp [ev]at hx
 | global n=>simp [ev]at hx

/-- All cells of such elements are scalars. -/
def oE(zero:List T):Bool:=zero.all scal

/-- May the second's elements be put behind: what they owe. -/
def Ih(st:St)(zero:List T)(f:Bool)(y:Operand):Bool:=
 match ev st.sl y with
 | .one (.c (.str _))=>true
 | _=>match KG st y with
  | .D=>false
  | .V=>oE zero
  | .F=>oE zero|| !f
  | .A s=>(s == zero.length)&&(oE zero|| !f)
  | .U s=>s == zero.length&& !(s == 0)
  | .S=>false
  | .N=>true

def Fa:V→Option (List (List T))
 | .one (.c (.sl es))=>some es
 | .one (.c (.str s))=>some (qV s)
 | _=>none

theorem bQ.app_snd{g0:G}{w0:World}{st:St}{a:Act}{g:G}{w:World}(hs:bQ g0 w0 st a g w){y:Operand}{es:List (List T)}{zero:List T}{f:Bool}{l1:Loc}(hy:Fa (ev st.sl y)=some es)(hconf: ∀e∈es,eP e zero=true)(hk:Ih st zero f y=true)
  (hne:(iA st y).place=true→iA st y≠l1):
  ∃news,Qb w (a.eval y) es.length zero.length news∧ ∃own2:Nat→Nat×Nat, ∀(i:Nat) e (j:Nat) z,es[i]? =some e→e[j]? =some z→ ∃c,news[i*zero.length+j]? =some c∧mS c∧Ow (frz g w) f w none (fun k=>(g.own k=iA st y∧(iA st y).place=true∧iA st y≠l1)∧own2 k=(i,j)) c z:=by
 have hsz: ∀e∈es,e.length=zero.length:=fun e he=>(qM (hconf e he)).1
 have hsc:oE zero=true→ ∀(i:Nat) e (j:Nat) z,es[i]? =some e→e[j]? =some z→scal z=true:=by
  intro h i e j z he hz
  obtain⟨y,hy,hc⟩:=(qM (hconf e (bN he))).2 j z hz
  rw[xQ hc]
  exact List.all_eq_true.1 h y (bN hy)
 have h1:=hs.ev_rv y (fun _ _=> .none)
 unfold Fa at hy
 split at hy
 ·rename_i es' heq
  cases hy
  rw[heq]at h1
  have hnstr:Ih st zero f y=(match KG st y with | .D=>false | .V=>oE zero | .F=>oE zero|| !f | .A s=>(s == zero.length)&&(oE zero|| !f) | .U s=>s == zero.length&& !(s == 0) | .S=>false | .N=>true):=by
   unfold Ih; rw[heq]
  rw[hnstr]at hk
  -- what is only read
  have read: ∀ {Q:Nat→Prop},Rd Q w (a.eval y) (.sl es)→((∀b,Q b→frz g w b)∧f=false∨oE zero=true)→ ∃news,Qb w (a.eval y) es.length zero.length news∧ ∃own2:Nat→Nat×Nat, ∀(i:Nat) e (j:Nat) z,es[i]? =some e→e[j]? =some z→ ∃c,news[i*zero.length+j]? =some c∧mS c∧Ow (frz g w) f w none (fun k=>(g.own k=iA st y∧(iA st y).place=true∧iA st y≠l1)∧own2 k=(i,j)) c z:=by
   intro Q hrd hor
   obtain⟨news,n1,n2,_⟩:=BL hrd hsz
   refine⟨news,n1,fun _=>(0,0),fun i e j z he hz=> ?_⟩
   obtain⟨c,c1,c2,c3⟩:=n2 i e j z he hz
   refine⟨c,c1,c2, ?_⟩
   rcases hor with⟨hQ,hf⟩ | ha
   ·exact .frz _ _ _ hf (c3.weaken hQ)
   ·exact c3.ow (hsc ha i e j z he hz)
  cases y with
  | const v=>
   have h2:LF g w (gR (ev st.sl (.const v)) 0 0) .none v (.sl es):=h1.2
   have hev:ev st.sl (.const v)= .one (.c (.sl es)):=heq
   rw[hev]at h2
   simp only[gR,V.leaf,W.leaf,scal,Bool.false_eq_true,if_false]at h2
   obtain⟨h3,q,hq⟩:=h2
   cases h3
   have e1:a.eval (.const v)= .slice q 0 0:=hq
   obtain⟨news,n1,n2,_⟩:=BL (s:=zero.length) (show Rd (fun _=>False) w (a.eval (.const v)) (.sl [])by rw[e1]; exact .nil _ _) (by simp)
   exact⟨news,n1,fun _=>(0,0),fun i e j z he=>by simp at he⟩
  | func f=>simp [ev]at heq
  | global n=>simp [ev]at heq
  | tmp t=>
   have hsl:st.sl t= .one (.c (.sl es)):=heq
   have h3:=hs.slots t
   rw[hsl]at h3
   have h2:LF g w (st.fl (.s t 0 0)) (.s t 0 0) (a.tmps.getD t undef) (.sl es):=h3.2
   have hev:a.eval (.tmp t)=a.tmps.getD t undef:=rfl
   -- a holder's
   have own: ∀(deep:Bool) (n:Nat),(st.fl (.s t 0 0)).hold=true→n=zero.length→(f=true→deep=true)→Ow (frz g w) deep w (some n) (fun b=>g.own b= .s t 0 0) (a.tmps.getD t undef) (.sl es)→
     ∃news,Qb w (a.eval (.tmp t)) es.length zero.length news∧ ∃own2:Nat→Nat×Nat, ∀(i:Nat) e (j:Nat) z,es[i]? =some e→e[j]? =some z→ ∃c,news[i*zero.length+j]? =some c∧mS c∧Ow (frz g w) f w none (fun k=>(g.own k=iA st (.tmp t)∧(iA st (.tmp t)).place=true∧iA st (.tmp t)≠l1)∧own2 k=(i,j)) c z:=by
    intro deep n hh hn hfd hO
    subst hn
    have hloc:iA st (.tmp t)= .s t 0 0:=by simp only[iA]; rw[if_pos hh]
    have hne':=hne (by rw[hloc]; rfl)
    rw[hloc]at hne' ⊢
    rw[hev]
    have hrd:Rd (fun _=>True) w (a.tmps.getD t undef) (.sl es):=hO.rd (fun _ _=>trivial) (fun _ _=>trivial)
    obtain⟨news,n1,n2,n3⟩:=BL hrd hsz
    generalize a.tmps.getD t undef=v at hO n1 n3
    cases hO with
    | nil t' F q=>exact⟨news,n1,fun _=>(0,0),fun i e j z he=>by simp at he⟩
    | sl t' F b len cap s' arr ty _ own cs hst hb hh hl hc hcap hs' ha hm hr=>
     have e0:s'=zero.length:=hst _ rfl
     subst e0
     refine⟨news,n1,own,fun i e j z he hz=> ?_⟩
     obtain⟨c,c1,c2,c3⟩:=n2 i e j z he hz
     have hj:j<zero.length:=by have:=cC hz; have:=hsz e (bN he); omega
     have h5:=n3 b 0 len cap rfl _ (DZ (cC he) hj)
     rw[Nat.zero_add,cI w b _ arr ty (0,0) hh,hm i e j z he hz,c1]at h5
     cases h5
     refine⟨_,c1,c2, ?_⟩
     have h6:=hr i e j z he hz
     cases f with
     | true=>
      have:=hfd rfl
      subst this
      exact h6.mono id (by simp) (fun k hk=>⟨⟨⟨hk.1,rfl,hne'⟩,hk.2.2⟩,rfl⟩)
     | false=>exact h6.mono (fun _=>rfl) (fun _ b hb=>⟨hb,rfl⟩) (fun k hk=>⟨⟨⟨hk.1,rfl,hne'⟩,hk.2.2⟩,rfl⟩)
   simp only[KG]at hk
   generalize hκ:st.fl (.s t 0 0)=κ at h2 hk own
   cases κ with
   | D=>simp at hk
   | V=>exact read h2 (.inr hk)
   | F=>
    refine read h2 ?_
    simp only[Bool.or_eq_true,Bool.not_eq_true']at hk
    rcases hk with hk | hk
    ·exact .inr hk
    ·exact .inl ⟨fun _ h=>h,hk⟩
   | A n=>
    simp only[Bool.and_eq_true,beq_iff_eq,Bool.or_eq_true,Bool.not_eq_true']at hk
    rcases hk.2 with hk2 | hk2
    ·exact read (hs.ok |> fun hok=>LF.rd (κ:= .A n) hok (l:= .s t 0 0) rfl h2 (by simp)) (.inr hk2)
    ·exact own false n rfl hk.1 (by simp [hk2]) h2
   | U n=>
    have hk:n=zero.length∧ ¬ n=0:=by simpa using hk
    have h2:Ow (frz g w) true w (gJ n) (fun b=>g.own b= .s t 0 0) (a.eval (.tmp t)) (.sl es):=h2
    rw[oO (by omega)]at h2
    exact own true n rfl (by simpa using hk.1) (fun _=>rfl) h2
   | S=>simp at hk
   | N=>
    obtain⟨h4,q,hq⟩:=h2
    cases h4
    obtain⟨news,n1,_⟩:=BL (s:=zero.length) (show Rd (fun _=>False) w (a.eval (.tmp t)) (.sl [])by rw[hev,hq]; exact .nil _ _) (by simp)
    exact⟨news,n1,fun _=>(0,0),fun i e j z he=>by simp at he⟩
 ·rename_i s heq
  cases hy
  rw[heq]at h1
  have h2:Rd (fun _=>False) w (a.eval y) (.str s):=by
   have:=LF.scal (g':=g) (w':=w) (κ':= .S) (l':= .none) h1.2 rfl
   exact this.2
  generalize a.eval y=v at h2
  cases h2 with
  | str b=>
   obtain⟨news,n1,n2⟩:=On w b
   by_cases hemp:qV b.data.toList=[]
   ·rw[hemp]at n1 ⊢
    refine⟨[],⟨by simp,fun P w' hw=> ?_,n1.lenOf⟩,fun _=>(0,0),fun i e j z he=>by simp at he⟩
    have:=n1.first P w' hw
    have hnil:news=[]:=List.eq_nil_of_length_eq_zero (by simpa using n1.len)
    rw[hnil]at this
    have e:Builtin.firstCells zero.length 0 (Value.string b)=Builtin.firstCells 1 0 (Value.string b):=rfl
    simp only[List.length_nil]at this ⊢
    rw[e]; exact this
   ·have h1l:zero.length=1:=by
     obtain⟨e,r,he⟩:=List.exists_cons_of_ne_nil hemp
     have hm:e∈qV b.data.toList:=by rw[he]; exact List.mem_cons_self
     rw[←hsz e hm]
     simp only[qV,List.mem_map]at hm
     obtain⟨c,_,rfl⟩:=hm
     rfl
    rw[h1l]
    refine⟨news,n1,fun _=>(0,0),fun i e j z he hz=> ?_⟩
    obtain⟨n,hn,rfl⟩:=n2 i e j z he hz
    exact⟨_,hn,⟨by simp,by simp⟩, .int _ _ _ _⟩
 ·cases hy

section
variable {P:Program} {τ:TypeId→Option TI} {g0:G} {w0:World} {o:Oper} {st:St} {d:Nat}

/-- 'd = append(x, y)'. -/
theorem Ni(hT:bC P τ){t u e:TypeId}{ei:TI}{x y:Operand}{es1 es2:List (List T)}(f:Bool)(hd:o.dst=some d)(hn:d<st.n)(ho:o.op= .call { callee:= .builtin .append,args:= #[x,y],argTypes:= #[t,u] })
  (ht:tk τ t=some (.sl e))(hu:tk τ u=some (.sl e)∨tk τ u=some .str)(he:τ e=some ei)(hx:ev st.sl x= .one (.c (.sl es1)))(hxk:(KG st x).app ei.size=true)(hxf:f=true→(KG st x).deep=true)
  (hy:Fa (ev st.sl y)=some es2)(hyk:Ih st ei.zero f y=true)(hne:(iA st y).place=true→iA st y≠iA st x)
  (hl1: ∀e∈es1,e.length=ei.size)(hl2: ∀e∈es2,eP e ei.zero=true)(h63:es1.length+es2.length≤maxLen)(hb:(es1.length+es2.length)*ei.bytes≤140737488355328):
  nS P g0 w0 o st (((st.killV.lowO (iA st x)).lowO (iA st y)).put d (.one (.c (.sl (es1++es2)))) (fun _ _=>if f then .U ei.size else .A ei.size)):=by
 intro a w ⟨g,hs⟩
 obtain⟨info,de,z,q1,q2,q3,q4,q5,q6,q7,q8,q9⟩:=hT.get he
 obtain⟨dt,hdt,rfl⟩:=kE hT ht
 obtain⟨du,hdu,hdui⟩: ∃du,P.underlying u=some du∧ ∀k,du≠ .int k:=by
  rcases hu with hu | hu
  ·obtain⟨du,hdu,rfl⟩:=kE hT hu; exact⟨_,hdu,by simp⟩
  ·obtain⟨du,hdu,rfl⟩:=kE hT hu; exact⟨_,hdu,by simp⟩
 have hzs:z.cells.size=ei.size:=by
  have:=(jB q6).1
  simp only[Array.length_toList]at this
  omega
 obtain⟨news,n1,hc2⟩:=hs.app_snd (l1:=iA st x) hy hl2 hyk hne
 rw[q7]at n1 hc2
 obtain⟨v',g',w',hrun,hA⟩:=Kp (P:=P) hs.ok (l1:=iA st x) (l2:=iA st y) (L:= .s d 0 0) (hs.app_fst hx hxk hxf) rfl hl1 (fun e he=>by rw[(qM (hl2 e he)).1,q7]) q8 n1 hc2
  t u o.type e du info z hdt hdu hdui q1 q5 q3 hzs h63 (by rw[q4]; exact hb)
 have hv:(execOp a.eval o).run P w= .ok (.value v') w':=by
  obtain⟨dst,op,ty,pos,after,guard⟩:=o
  simp only at ho
  subst ho
  simp only[execOp,resolve,invoke,builtin,Sem.run_bind,Sem.run_pure,Result.andThen_ok,List.map_toArray,List.map_cons,List.map_nil]
  simp only at hrun
  rw[hrun]
  rfl
 refine⟨_,_,hv, .inl ⟨_,rfl,g', ?_⟩⟩
 rw[hd]
 have h1:=(hs.killV.lowO (iA st x)).lowO (iA st y)
 have hC:xC g w g' w' (fun l=>(l=iA st x∨l=iA st y)∧l.place=true) ((st.killV.lowO (iA st x)).lowO (iA st y)):=
  ⟨hA.evo,fun l hl=>⟨fun hf=>by rcases hf with h | h<;>(rw[h]at hl; cases hl.2),(Loc.place_ne hl.2).2.2⟩, .inr (Jk (Jk (qK st) _) _),hA.os,hA.tape,hA.output,hA.ok⟩
 refine h1.put hC hA.β (by rw[QP,QP]; exact hn) (fun l hk ⟨y',hx⟩ _ hX=> ?_) ⟨(hA.ow.rd (P:=fun _=>True) (fun _ _=>trivial) (fun _ _=>trivial)).not_agg, ?_⟩ (fun h=>absurd rfl h)
 ·rw[IJ,IJ]at hx
  have hx':st.killV.at l=some y':=hx
  rw[MJ (x:=y') (by rw[IJ]; exact hx'),MJ hx']at hk
  rcases hX.1 with e | e
  ·by_cases e2:l=iA st y∧(iA st y).place=true
   ·rw[if_pos e2]at hk; simp [K.hold]at hk
   ·rw[if_neg e2,if_pos ⟨e,by rw[←e]; exact hX.2⟩]at hk; simp [K.hold]at hk
  ·rw[if_pos ⟨e,by rw[←e]; exact hX.2⟩]at hk; simp [K.hold]at hk
 ·show LF g' w' (if f then .U ei.size else .A ei.size) (.s d 0 0) v' (.sl (es1++es2))
  cases f with
  | true=>
   show Ow _ true w' (gJ ei.size) _ _ _
   rw[oO q8]; exact hA.ow
  | false=>exact hA.ow
end
end Go.Own

/- Steps that make slices and structs out of parts. -/
namespace Go.Own
open Go.RowKit

theorem zC(off:Nat): ∀(l:List Value) (j0:Nat) (cs:Array Value),off+j0+l.length≤cs.size→
  ((l.zipIdx j0).foldl (fun cs (x:Value×Nat)=>cs.setIfInBounds (off+x.2) x.1) cs).size=cs.size∧
  ∀k,((l.zipIdx j0).foldl (fun cs (x:Value×Nat)=>cs.setIfInBounds (off+x.2) x.1) cs)[k]? =if off+j0≤k∧k<off+j0+l.length then l[k - (off+j0)]? else cs[k]?
 | [],j0,cs,_=>⟨rfl,fun k=>by simp only[List.zipIdx_nil,List.foldl_nil,List.length_nil]; rw[if_neg (by omega)]⟩
 | v::r,j0,cs,h=>by
  simp only[List.length_cons]at h
  simp only[List.zipIdx_cons,List.foldl_cons]
  obtain⟨h1,h2⟩:=zC off r (j0+1) (cs.setIfInBounds (off+j0) v) (by simp; omega)
  refine⟨by rw[h1]; simp,fun k=> ?_⟩
  rw[h2 k]
  by_cases e1:off+(j0+1)≤k∧k<off+(j0+1)+r.length
  ·rw[if_pos e1,if_pos (by simp; omega)]
   have:k - (off+j0)=k - (off+(j0+1))+1:=by omega
   rw[this,List.getElem?_cons_succ]
  ·rw[if_neg e1]
   by_cases e2:k=off+j0
   ·subst e2
    rw[if_pos (by simp),Nat.sub_self,List.getElem?_cons_zero,Array.getElem?_setIfInBounds_self_of_lt (by omega)]
   ·rw[if_neg (by simp; omega),Array.getElem?_setIfInBounds_ne (Ne.symm e2)]

theorem Jw(size:Nat): ∀(vs:List Value) (i0:Nat) (cs:Array Value),(∀v∈vs,v.cells.size=size)→(i0+vs.length)*size≤cs.size→
  ∃r,Instr.fill (fun i=>some (i*size,size)) cs ((vs.zipIdx i0).map fun p=>(p.2,p.1))=some r∧r.size=cs.size∧(∀k,k<i0*size→r[k]? =cs[k]?)∧
   ∀(i:Nat) (v:Value) (j:Nat),vs[i]? =some v→j<size→r[(i0+i)*size+j]? =v.cells[j]?
 | [],i0,cs,_,_=>⟨cs,rfl,rfl,fun _ _=>rfl,fun i v j h=>by simp at h⟩
 | v::r,i0,cs,hv,h=>by
  have hv0:=hv v List.mem_cons_self
  simp only[List.length_cons]at h
  have hle:(i0+1)*size≤cs.size:=Nat.le_trans (Nat.mul_le_mul_right _ (by omega)) h
  rw[Nat.add_mul,Nat.one_mul]at hle
  simp only[List.zipIdx_cons,List.map_cons,Instr.fill,hv0,ne_eq,not_true_eq_false,decide_false,Bool.false_or]
  have hl:v.cells.toList.length=size:=by simpa using hv0
  obtain⟨g1,g2⟩:=zC (i0*size) v.cells.toList 0 cs (by rw[hl]; omega)
  have hfold:v.cells.zipIdx.foldl (fun cs (x:Value×Nat)=>cs.setIfInBounds (i0*size+x.2) x.1) cs=(v.cells.toList.zipIdx 0).foldl (fun cs (x:Value×Nat)=>cs.setIfInBounds (i0*size+x.2) x.1) cs:=by
   rw[←Array.foldl_toList]
   simp
  have hnot: ¬ (decide (i0*size+size > cs.size)=true):=by simp; omega
  obtain⟨r',f1,f2,f3,f4⟩:=Jw size r (i0+1) (v.cells.zipIdx.foldl (fun cs (x:Value×Nat)=>cs.setIfInBounds (i0*size+x.2) x.1) cs) (fun x hx=>hv x (List.mem_cons_of_mem _ hx))
   (by rw[hfold,g1]; exact Nat.le_trans (Nat.mul_le_mul_right _ (by omega)) h)
  refine⟨r', ?_,by rw[f2,hfold,g1],fun k hk=> ?_,fun i x j hx hj=> ?_⟩
  ·rw[if_neg (by simpa using hnot)]
   exact f1
  ·rw[f3 k (by rw[Nat.add_mul]; omega),hfold,g2 k,if_neg (by omega)]
  ·cases i with
   | zero=>
    simp only[List.getElem?_cons_zero,Option.some.injEq]at hx
    subst hx
    rw[Nat.add_zero,f3 _ (by rw[Nat.add_mul]; omega),hfold,g2,if_pos (by rw[hl]; omega),Nat.add_zero,Nat.add_sub_cancel_left,Array.getElem?_toList]
   | succ i=>
    simp only[List.getElem?_cons_succ]at hx
    have:i0+(i+1)=i0+1+i:=by omega
    rw[this]
    exact f4 i x j hx hj

def vZ(t:Nat):Operand→Bool
 | .tmp t'=>t' == t
 | _=>false
def dH(ps:List Operand):Loc→Bool
 | .s t 0 _=>ps.any (vZ t)
 | _=>false
theorem Kg{ps:List Operand}{t j:Nat}(h: .tmp t∈ps):dH ps (.s t 0 j)=true:=by
 simp only[dH,List.any_eq_true]
 exact⟨.tmp t,h,by simp [vZ]⟩
theorem AM{ps:List Operand}{l:Loc}(h:dH ps l=true):l.place=true:=by
 cases l<;>first | rfl | simp [dH]at h

def tIdx(ps:List Operand)(t:Nat):Nat:=ps.findIdx (vZ t)

theorem RB{ps:List Operand}{t i:Nat}(h:ps[i]? =some (.tmp t))(hu: ∀i',ps[i']? =some (.tmp t)→i'=i):tIdx ps t=i:=by
 have hex: ∃x∈ps,vZ t x=true:=⟨.tmp t,bN h,by simp [vZ]⟩
 have hf:=List.findIdx_lt_length_of_exists hex
 have hg:=List.findIdx_getElem (w:=hf)
 have:ps[ps.findIdx (vZ t)]? =some (.tmp t):=by
  rw[List.getElem?_eq_getElem hf]
  congr 1
  generalize ps[ps.findIdx (vZ t)]=y at hg
  cases y<;>simp [vZ]at hg
  rw[hg]
 exact hu _ this

/-- The holders' cells of these operands, struck. -/
def St.lowT(st:St)(ps:List Operand):St:=st.setf (dH ps) (fun m=>if dH ps m=true∧(st.fl m).hold=true then .D else st.fl m)

theorem bQ.lowT{g0:G}{w0:World}{st:St}{a:Act}{g:G}{w:World}(h:bQ g0 w0 st a g w)(ps:List Operand):bQ g0 w0 (st.lowT ps) a g w:=by
 refine h.setf rfl (fun _=>rfl) h.ok (fun _ _=>rfl) (fun _ _ h=>h) (fun _ h=>h) (fun m x v hx hv hf=> ?_) (fun i k xs b off hcx hc=> ?_) (fun i hi hR hf=> ?_)
 ·by_cases e:dH ps m=true∧(st.fl m).hold=true
  ·rw[if_pos e]; exact hf.lo (κ':= .D) h.ok (at_isPlace hx) (by cases st.fl m<;>rfl)
  ·rw[if_neg e]; exact hf
 ·by_cases e:dH ps (.s i k 0)=true∧(st.fl (.s i k 0)).hold=true
  ·rw[if_pos e]; trivial
  ·rw[if_neg e]; exact hc
 ·refine⟨fun e=>hf (by rw[if_neg (by rw[e]; simp [K.hold])]; exact e),fun hh=> ?_⟩
  rw[if_neg (by rw[hR]; simp)]; exact hh

theorem II{st:St}{ps:List Operand}{m:Loc}{x:T}(hx:st.at m=some x):(st.lowT ps).fl m=if dH ps m=true∧(st.fl m).hold=true then .D else st.fl m:=uU (f:=fun m=>if dH ps m=true∧(st.fl m).hold=true then K.D else st.fl m) rfl hx

/-- May such a cell be put into a slice that is made. -/
def K.part(f:Bool):K→Bool
 | .S=>true
 | .N=>true
 | .F=> !f
 | .A _=> !f
 | .U _=>true
 | _=>false

def DM(st:St):Operand→Nat→K
 | .tmp t,j=>st.fl (.s t 0 j)
 | .const v,j=>gR (bI v) 0 j
 | _,_=> .D

theorem LF.part{g g':G}{w w':World}{κ:K}{l:Loc}{c:Value}{x:T}{f:Bool}(h:LF g w κ l c x)(hk:κ.part f=true)(hZ: ∀b,frz g w b→frz g' w' b∧w'.heap[b]? =w.heap[b]?){F:Nat→Prop}(hF:κ.hold=true→ ∀b,g.own b=l→F b∧w'.heap[b]? =w.heap[b]?):Ow (frz g' w') f w' none F c x:=by
 cases κ with
 | D=>simp [K.part]at hk
 | V=>simp [K.part]at hk
 | F=>
  have:f=false:=by simpa [K.part]using hk
  subst this
  exact .frz _ _ _ rfl (Rd.mono hZ h)
 | A n=>
  have:f=false:=by simpa [K.part]using hk
  subst this
  exact(Ow.sub h).mono id (fun _=>hZ) (hF rfl)
 | U n=>
  have h:Ow (frz g w) true w (gJ n) (fun b=>g.own b=l) c x:=h
  exact h.any.mono (deep':=f) (by simp) (by simp) (hF rfl)
 | S=>exact h.2.ow h.1
 | N=>obtain⟨rfl,a,rfl⟩:=h; exact .nil _ _ _

section
variable {P:Program} {τ:TypeId→Option TI} {g0:G} {w0:World} {o:Oper} {st:St} {d:Nat}

def G.lit(g:G)(ps:List Operand)(L:Loc)(nb:Nat):G:=
 { β:=g.β,own:=fun b=>if b=nb then L else if dH ps (g.own b)=true then L else g.own b }

theorem zJ{v:V}{xs:List T}(h:aO v=some xs)(j:Nat):v.leaf 0 j=xs[j]? :=by
 unfold aO at h
 split at h
 ·simp only[Option.some.injEq]at h; subst h; cases j<;>rfl
 ·simp only[Option.some.injEq]at h; subst h; rfl
 ·cases h

theorem VE(hT:bC P τ){n:Nat}{t e:TypeId}{ei:TI}{parts:Array (Nat×Operand)}{ps:List Operand}{es:List (List T)}(f:Bool)(hd:o.dst=some d)(hn:d<st.n)(ho:o.op= .buildSlice t n parts)(hparts:parts.toList=ps.zipIdx.map fun p=>(p.2,p.1))(hlen:n=ps.length)
  (ht:tk τ t=some (.sl e))(he:τ e=some ei)(hes:ps.map (fun x=>aO (ev st.sl x))=es.map some)(hl: ∀e∈es,e.length=ei.size)(hsz:n*ei.size≤16777216)
  (hu: ∀(i i' t:Nat),ps[i]? =some (Operand.tmp t)→ps[i']? =some (Operand.tmp t)→i=i')
  (hk: ∀x∈ps, ∀j,j<ei.size→(DM st x j).part f=true):
  nS P g0 w0 o st ((st.lowT ps).put d (.one (.c (.sl es))) (fun _ _=>if f then .U ei.size else .A ei.size)):=by
 intro a w ⟨g,hs⟩
 obtain⟨info,de,z0,q1,q2,q3,q4,q5,q6,q7,q8,q9⟩:=hT.get he
 obtain⟨dt,hdt,rfl⟩:=kE hT ht
 have hzs:z0.cells.size=ei.size:=by
  have:=(jB q6).1
  simp only[Array.length_toList]at this
  omega
 have hel:es.length=n:=by
  have:=congrArg List.length hes
  simp only[List.length_map]at this
  omega
 have hpart: ∀(i:Nat) x e,ps[i]? =some x→es[i]? =some e→aO (ev st.sl x)=some e:=by
  intro i x e hx he
  have:(ps.map (fun x=>aO (ev st.sl x)))[i]? =(es.map some)[i]? :=by rw[hes]
  rw[List.getElem?_map,List.getElem?_map,hx,he]at this
  exact Option.some.inj this
 have hpair: ∀(i:Nat) x,ps[i]? =some x→ ∃e,es[i]? =some e:=fun i x hx=>by
  have:=cC hx
  exact⟨es[i]'(by omega),List.getElem?_eq_getElem (by omega)⟩
 -- each part's cells, with what its place owes
 have hcs: ∀(i:Nat) x e,ps[i]? =some x→es[i]? =some e→(a.eval x).cells.size=ei.size∧ ∀(j:Nat) z,e[j]? =some z→ ∃c,(a.eval x).cells[j]? =some c∧mS c∧
   LF g w (DM st x j) (match x with | .tmp t=> .s t 0 j | _=> .none) c z:=by
  intro i x e hx he
  have hc:=hpart i x e hx he
  have hle:=hl e (bN he)
  cases x with
  | tmp t=>
   obtain⟨k1,k2,_⟩:=gA (hs.slots t) hc
   exact⟨by rw[show a.eval (.tmp t)=a.tmps.getD t undef from rfl,k1]; exact hle,fun j z hz=>k2 j z hz⟩
  | const v=>
   obtain⟨k1,k2,_⟩:=gA (tC g w (fun _ _=> .none) v) hc
   exact⟨by rw[show a.eval (.const v)=v from rfl,k1]; exact hle,fun j z hz=>k2 j z hz⟩
  | func f=>simp [ev,aO]at hc
  | global n=>simp [ev,aO]at hc
 let vs:List Value:=ps.map a.eval
 have hvs: ∀(i:Nat) x,ps[i]? =some x→vs[i]? =some (a.eval x):=fun i x hx=>by simp [vs,hx]
 obtain⟨r,f1,f2,_,f4⟩:=Jw ei.size vs 0 ((Array.range (n*info.size)).map ((if n*info.size=0 then(#[]:Array Value)else z0.cells)[· % (if n*info.size=0 then(#[]:Array Value)else z0.cells).size]!)) (fun v hv=>by
  obtain⟨x,hx,rfl⟩:=List.mem_map.1 hv
  obtain⟨i,hi⟩:=List.getElem?_of_mem hx
  obtain⟨e,he⟩:=hpair i x hi
  exact(hcs i x e hi he).1) (by simp [vs,q3,hlen])
 have hrsz:r.size=n*ei.size:=by rw[f2]; simp [q3]
 have hv:(execOp a.eval o).run P w= .ok (.value (.slice (some ⟨w.heap.size,0,none⟩) n n)) (w.alloc (.cells r e)):=by
  obtain⟨dst,op,ty,pos,after,guard⟩:=o
  simp only at ho
  subst ho
  have hp2:(parts.map fun x=>(x.fst,a.eval x.snd)).toList=(vs.zipIdx 0).map fun p=>(p.2,p.1):=by
   rw[Array.toList_map,hparts]
   simp [vs,List.zipIdx_map,Function.comp_def]
  have hnot: ¬ (n*info.size > 2 ^ 24):=by rw[q3]; omega
  simp only[execOp,Instr.buildSlice,Sem.run_bind,run_underlying hdt,Result.andThen_ok,sizeOf,typeInfo,run_program,q1,Sem.run_pure,if_neg hnot,Sem.run_ite,zeroValue,q5]
  rw[show(fun i=>some (i*ei.size,ei.size))=(fun i=>some (i*info.size,info.size))by rw[q3]]at f1
  by_cases h0:n*info.size=0
  ·rw[if_pos h0]at f1 ⊢
   rw[hp2,f1]
   rfl
  ·rw[if_neg h0]at f1 ⊢
   rw[hp2,f1]
   rfl
 refine⟨_,_,hv, .inl ⟨_,rfl,g.lit ps (.s d 0 0) w.heap.size, ?_⟩⟩
 rw[hd]
 have hold: ∀b,b<w.heap.size→(w.alloc (.cells r e)).heap[b]? =w.heap[b]? :=oQ w _
 have hnew:(w.alloc (.cells r e)).heap[w.heap.size]? =some (.cells r e (0,0)):=heap_alloc_new w _
 have hown: ∀b,b<w.heap.size→dH ps (g.own b)=false→(g.lit ps (.s d 0 0) w.heap.size).own b=g.own b:=by
  intro b hb hi
  show(if b=w.heap.size then _ else if dH ps (g.own b)=true then _ else g.own b)=_
  rw[if_neg (by omega),if_neg (by rw[hi]; simp)]
 have hE:Evo g w (g.lit ps (.s d 0 0) w.heap.size) (w.alloc (.cells r e)) (fun l=>dH ps l=true):=⟨by simp,fun b hb hX=>⟨hown b hb (by simpa using hX),hold b hb⟩⟩
 have hZ: ∀b,frz g w b→frz (g.lit ps (.s d 0 0) w.heap.size) (w.alloc (.cells r e)) b∧(w.alloc (.cells r e)).heap[b]? =w.heap[b]? :=fun b hb=>⟨⟨by simp; have:=hb.1; omega,by rw[hown b hb.1 (by rw[hb.2]; rfl)]; exact hb.2⟩,hold b hb.1⟩
 have hok:GOk (g.lit ps (.s d 0 0) w.heap.size) (w.alloc (.cells r e)):=by
  refine⟨fun b hb=> ?_⟩
  by_cases eb:b=w.heap.size
  ·subst eb; simp
  ·have hb':(if b=w.heap.size then Loc.s d 0 0 else if dH ps (g.own b)=true then Loc.s d 0 0 else g.own b)≠ .none:=hb
   rw[if_neg eb]at hb'
   have:g.own b≠ .none:=by
    intro e2
    rw[e2]at hb'
    exact hb' (by rw[if_neg (by simp [dH])])
   have:=hs.ok.own b this
   simp; omega
 have hA: ∀b,all g w b→all (g.lit ps (.s d 0 0) w.heap.size) (w.alloc (.cells r e)) b∧(w.alloc (.cells r e)).heap[b]? =w.heap[b]? :=fun b hb=>⟨⟨by simp; have:=hb.1; omega,fun o=>by
  show(if b=w.heap.size then Loc.s d 0 0 else if dH ps (g.own b)=true then Loc.s d 0 0 else g.own b)≠ .obj o
  rw[if_neg (by have:=hb.1; omega)]
  split
  ·simp
  ·exact hb.2 o⟩,hold b hb.1⟩
 have h1:=hs.lowT ps
 have hC:xC g w (g.lit ps (.s d 0 0) w.heap.size) (w.alloc (.cells r e)) (fun l=>dH ps l=true) (st.lowT ps):=
  ⟨hE,fun l hl=>⟨fun hf=>by rcases hf with h | h<;>(rw[h]at hl; simp [dH]at hl),(Loc.place_ne (AM hl)).2.2⟩, .inl hA,rfl,rfl,rfl,hok⟩
 have hnmax:n≤maxLen:=by
  have h1:n≤n*ei.size:=Nat.le_mul_of_pos_right n q8
  simp only[maxLen]; omega
 have hLnew:(g.lit ps (.s d 0 0) w.heap.size).own w.heap.size= .s d 0 0:=by
  show(if w.heap.size=w.heap.size then _ else _)=_
  rw[if_pos rfl]
 have hOw:Ow (frz (g.lit ps (.s d 0 0) w.heap.size) (w.alloc (.cells r e))) f (w.alloc (.cells r e)) (some ei.size) (fun b=>(g.lit ps (.s d 0 0) w.heap.size).own b= .s d 0 0) (.slice (some ⟨w.heap.size,0,none⟩) n n) (.sl es):=by
  refine .sl _ _ w.heap.size n n ei.size r e es (fun k=>match g.own k with | .s t 0 j=>(tIdx ps t,j) | _=>(0,0)) (fun i j=>(r[i*ei.size+j]?).getD undef) (by simp) hLnew hnew hel (Nat.le_refl _) hnmax (fun i e' he'=>hl e' (bN he')) hrsz
   (fun i e' j x he' hx=> ?_) (fun i e' j x he' hx=> ?_)
  all_goals
   have hj:j<ei.size:=by have:=cC hx; have:=hl e' (bN he'); omega
   have hlt:=cC he'
   have hp:ps[i]? =some (ps[i]'(by omega)):=List.getElem?_eq_getElem (by omega)
   obtain⟨c1,c2⟩:=hcs i _ e' hp he'
   obtain⟨c,c3,c4,c5⟩:=c2 j x hx
   have hrc:r[i*ei.size+j]? =some c:=by
    have:=f4 i _ j (hvs i _ hp) hj
    rw[Nat.zero_add]at this
    rw[this]; exact c3
   rw[hrc]
  ·rfl
  ·simp only[Option.getD_some]
   have hkp:=hk _ (bN hp) j hj
   refine c5.part hkp hZ (fun hh b hb=> ?_)
   generalize hpe:ps[i]'(by omega)=x at hp hb hh
   cases x with
   | tmp t'=>
    have hb':g.own b= .s t' 0 j:=hb
    have hbs:b<w.heap.size:=hs.ok.own b (by rw[hb']; simp)
    refine⟨⟨?_,by omega, ?_⟩,hold b hbs⟩
    ·show(if b=w.heap.size then _ else if dH ps (g.own b)=true then _ else g.own b)=_
     rw[if_neg (by omega),hb',if_pos (Kg (bN hp))]
    ·simp only[hb']
     rw[RB hp (fun i' hi'=>hu i' i t' hi' hp)]
   | const v=>
    exfalso
    simp only[DM,gR]at hh
    revert hh
    split
    ·split<;>simp [K.hold]
    ·simp [K.hold]
   | func f=>simp [DM,K.hold]at hh
   | global n=>simp [DM,K.hold]at hh
 refine h1.put hC (fun _=>rfl) hn (fun l hkl ⟨y,hy⟩ _ hX=> ?_) ⟨⟨by simp,by simp⟩, ?_⟩ (fun h=>absurd rfl h)
 ·have hy':st.at l=some y:=hy
  rw[II hy']at hkl
  by_cases hh:(st.fl l).hold=true
  ·rw[if_pos ⟨hX,hh⟩]at hkl; simp [K.hold]at hkl
  ·rw[if_neg (fun h=>hh h.2)]at hkl; exact hh hkl
 ·show LF _ _ (if f then .U ei.size else .A ei.size) (.s d 0 0) _ (.sl es)
  cases f with
  | true=>
   show Ow _ true _ (gJ ei.size) _ _ _
   rw[oO q8]; exact hOw
  | false=>exact hOw

/-- 'make([]T, n)'. -/
theorem Rc(hT:bC P τ){t e:TypeId}{ei:TI}{x y:Operand}{k k':IntKind}{n:Int}(hd:o.dst=some d)(hn:d<st.n)(ho:o.op= .makeSlice t x y)(ht:tk τ t=some (.sl e))(he:τ e=some ei)
  (hx:ev st.sl x= .one (.c (.int k n)))(hy:ev st.sl y= .one (.c (.int k' n)))(h0:0≤n)(h1:n≤maxLen)(hb:ei.bytes*n≤281474976710656):
  nS P g0 w0 o st (st.put d (.one (.c (.sl (List.replicate n.toNat ei.zero)))) (fun _ _=> .U ei.size)):=by
 intro a w ⟨g,hs⟩
 obtain⟨info,de,z0,q1,q2,q3,q4,q5,q6,q7,q8,q9⟩:=hT.get he
 obtain⟨dt,hdt,rfl⟩:=kE hT ht
 obtain⟨ze,hz⟩:=jB q6
 have hzs:z0.cells.size=ei.size:=by
  simp only[Array.length_toList]at ze
  omega
 have hmax:(maxLen:Int)≤9223372036854775807:=by simp only[maxLen]; omega
 have hv:(execOp a.eval o).run P w= .ok (.value (.slice (some ⟨w.heap.size,0,none⟩) n.toNat n.toNat)) (w.alloc (.cells (madeCells z0.cells (n.toNat*info.size)) e)):=by
  have ex:=hs.int hx
  have ey:=hs.int hy
  have hrun:=run_make (P:=P) w t e info z0 hdt q1 q5 k k' n n h0 (Int.le_refl _) (by rw[q4]; exact hb) (by omega)
  obtain⟨dst,op,ty,pos,after,guard⟩:=o
  simp only at ho
  subst ho
  simp only[execOp,ex,ey,Sem.run_bind,hrun,Result.andThen_ok,Sem.run_pure]
 refine⟨_,_,hv, .inl ⟨_,rfl,{ β:=g.β,own:=fun b=>if b=w.heap.size then .s d 0 0 else g.own b }, ?_⟩⟩
 rw[hd]
 generalize hw':w.alloc (.cells (madeCells z0.cells (n.toNat*info.size)) e)=w'
 have hold: ∀b,b<w.heap.size→w'.heap[b]? =w.heap[b]? :=by rw[←hw']; exact oQ w _
 have hnew:w'.heap[w.heap.size]? =some (.cells (madeCells z0.cells (n.toNat*info.size)) e (0,0)):=by rw[←hw']; exact heap_alloc_new w _
 have hsz':w'.heap.size=w.heap.size+1:=by rw[←hw']; simp
 have hown: ∀b,b<w.heap.size→(if b=w.heap.size then Loc.s d 0 0 else g.own b)=g.own b:=fun b hb=>if_neg (by omega)
 have hC:xC g w { β:=g.β,own:=fun b=>if b=w.heap.size then .s d 0 0 else g.own b } w' (fun _=>False) st:=by
  refine⟨⟨by omega,fun b hb _=>⟨hown b hb,hold b hb⟩⟩,fun _ h=>h.elim, .inl fun b hb=>⟨⟨by have:=hb.1; omega,fun o=>by show(if b=w.heap.size then Loc.s d 0 0 else g.own b)≠_; rw[hown b hb.1]; exact hb.2 o⟩,hold b hb.1⟩,by rw[←hw']; rfl,by rw[←hw']; rfl,by rw[←hw']; rfl,⟨fun b hb=> ?_⟩⟩
  have hb':(if b=w.heap.size then Loc.s d 0 0 else g.own b)≠ .none:=hb
  by_cases e:b=w.heap.size
  ·omega
  ·rw[if_neg e]at hb'
   have:=hs.ok.own b hb'; omega
 refine hs.put hC (fun _=>rfl) hn (fun _ _ _ _ h=>h) ⟨⟨by simp,by simp⟩, ?_⟩ (fun h=>absurd rfl h)
 show Ow _ true w' (gJ ei.size) _ _ _
 rw[oO q8]
 refine .sl _ _ w.heap.size n.toNat n.toNat ei.size (madeCells z0.cells (n.toNat*info.size)) e _ (fun _=>(0,0)) (fun _ j=>z0.cells[j]!) (by simp) (by simp) hnew (by simp) (Nat.le_refl _) (by omega) (fun i e' he'=> ?_) (by rw[size_madeCells,q3]) (fun i e' j x he' hx=> ?_) (fun i e' j x he' hx=> ?_)
 ·rw[List.getElem?_replicate]at he'
  split at he'<;>simp only[Option.some.injEq,reduceCtorEq]at he'
  subst he'; exact q7
 all_goals
  rw[List.getElem?_replicate]at he'
  split at he'<;>simp only[Option.some.injEq,reduceCtorEq]at he'
  rename_i hi
  subst he'
  have hj:j<ei.size:=by have:=cC hx; omega
  obtain⟨v,hv1,hv2⟩:=hz j x hx
  have hzj:z0.cells[j]! =v:=by
   rw[Array.getElem?_toList]at hv1
   rw[getElem!_def,hv1]
 ·have hlt:=DZ hi hj
  have hm:(i*ei.size+j) % z0.cells.size=j:=by rw[hzs,Nat.mul_comm,Nat.mul_add_mod]; exact Nat.mod_eq_of_lt hj
  simp only[madeCells,q3,Array.getElem?_map,Array.getElem?_range,hlt,if_true,Option.map_some,hm]
 ·rw[hzj]
  exact(oT hv2).2 _ _ _ _ _

/-! ### a struct out of parts -/
def qW(fs:List (Nat×Nat×Bool)):List T→List (Nat×V)→Option (List T)
 | cs,[]=>some cs
 | cs,(i,v)::r=>match fs[i]?,aO v with
  | some (off,size,_),some xs=>if xs.length=size∧off+size≤cs.length then qW fs (cs.take off++xs++cs.drop (off+xs.length)) r else none
  | _,_=>none

/-- The cells' kinds. -/
def AW(fs:List (Nat×Nat×Bool)):(Nat→K)→List (Nat×(Nat→K))→Nat→K
 | κ,[]=>κ
 | κ,(i,q)::r=>match fs[i]? with
  | some (off,size,_)=>AW fs (fun j=>if off≤j∧j<off+size then q (j - off)else κ j) r
  | none=>κ

/-- Cell k is none of these parts'. -/
def AU(fs:List (Nat×Nat×Bool))(k:Nat)(ps:List (Nat×Operand)):Prop:= ∀p∈ps, ∀off size b,fs[p.1]? =some (off,size,b)→k<off∨off+size≤k

theorem CT{g:G}{w:World}{fs:List (Nat×Nat×Bool)}{places:Array (Nat×Nat)}(hp: ∀(i off size:Nat) b,fs[i]? =some (off,size,b)→places[i]? =some (off,size)){ρ:Operand→Value}{ρV:Operand→V}{ρK:Operand→Nat→K}{lab:Nat→Loc}
  (hρ: ∀x xs (l:Nat→Nat→Loc),aO (ρV x)=some xs→RV g w (fun _=>ρK x) l (ρ x) (ρV x)):
  ∀(ps:List (Nat×Operand)) (cs:List T) (cv:Array Value) (κ:Nat→K) {rs:List T},qW fs cs (ps.map fun p=>(p.1,ρV p.2))=some rs→cv.size=cs.length→(∀(j:Nat) x,cs[j]? =some x→ ∃c,cv[j]? =some c∧mS c∧LF g w (κ j) (lab j) c x)→
  ∃rv,Instr.fill (places[·]?) cv (ps.map fun p=>(p.1,ρ p.2))=some rv∧rv.size=rs.length∧(∀(j:Nat) x,rs[j]? =some x→ ∃c,rv[j]? =some c∧mS c∧LF g w (AW fs κ (ps.map fun p=>(p.1,ρK p.2)) j) (lab j) c x)∧
   (∀k,AU fs k ps→rv[k]? =cv[k]? ∧rs[k]? =cs[k]?)∧
   ∀(p i off size j:Nat) b x,ps[p]? =some (i,x)→fs[i]? =some (off,size,b)→j<size→AU fs (off+j) (ps.drop (p+1))→rv[off+j]? =pR (ρ x) 0 j∧rs[off+j]? =(ρV x).leaf 0 j
 | [],cs,cv,κ,rs,h,hsz,hc=>by
  simp only[List.map_nil,qW,Option.some.injEq]at h
  subst h
  exact⟨cv,rfl,hsz,hc,fun _ _=>⟨rfl,rfl⟩,fun p i off size j b x hx=>by simp at hx⟩
 | (i,x)::r,cs,cv,κ,rs,h,hsz,hc=>by
  simp only[List.map_cons]at h
  unfold qW at h
  split at h
  ·rename_i off size b xs hf hxs
   split at h
   ·rename_i hle
    obtain⟨hl,hle⟩:=hle
    subst hl
    obtain⟨k1,k2,k3,k4,_⟩:=gA (hρ x xs (fun _ j=>lab (off+j)) hxs) hxs
    have hl2:(ρ x).cells.toList.length=xs.length:=by simpa using k1
    obtain⟨s1,s2⟩:=zC off (ρ x).cells.toList 0 cv (by rw[hl2,hsz]; omega)
    have hfold:(ρ x).cells.zipIdx.foldl (fun cs (x:Value×Nat)=>cs.setIfInBounds (off+x.2) x.1) cv=((ρ x).cells.toList.zipIdx 0).foldl (fun cs (x:Value×Nat)=>cs.setIfInBounds (off+x.2) x.1) cv:=by
     rw[←Array.foldl_toList]
     simp
    have hget: ∀k,((ρ x).cells.zipIdx.foldl (fun cs (x:Value×Nat)=>cs.setIfInBounds (off+x.2) x.1) cv)[k]? =if off≤k∧k<off+xs.length then(ρ x).cells[k - off]? else cv[k]? :=by
     intro k
     rw[hfold,s2 k,hl2]
     simp only[Nat.add_zero,Array.getElem?_toList]
    have hseg:=fun k=>pN cs xs off hle k
    obtain⟨rv,f1,f2,f3,f4,f5⟩:=CT hp hρ r (cs.take off++xs++cs.drop (off+xs.length)) ((ρ x).cells.zipIdx.foldl (fun cs (x:Value×Nat)=>cs.setIfInBounds (off+x.2) x.1) cv) (fun j=>if off≤j∧j<off+xs.length then ρK x (j - off)else κ j) h
     (by rw[hfold,s1,hsz]; simp only[List.length_append,List.length_take,List.length_drop]; omega) (fun j y hy=>by
      rw[hseg]at hy
      rw[hget]
      by_cases hin:off≤j∧j<off+xs.length
      ·rw[if_pos hin]at hy ⊢
       obtain⟨c,c1,c2,c3⟩:=k2 _ y hy
       refine⟨c,c1,c2, ?_⟩
       rw[show off+(j - off)=j by omega]at c3
       rw[if_pos hin]; exact c3
      ·rw[if_neg hin]at hy ⊢
       obtain⟨c,c1,c2,c3⟩:=hc _ y hy
       exact⟨c,c1,c2,by rw[if_neg hin]; exact c3⟩)
    refine⟨rv, ?_,f2,fun j y hy=> ?_,fun k hk=> ?_,fun p i' off' size' j b' x' hx' hf' hj hfr=> ?_⟩
    ·simp only[List.map_cons,Instr.fill,hp i off xs.length b hf,k1]
     have hnot: ¬ (decide (off+xs.length > cv.size)=true):=by simp; omega
     simp only[ne_eq,not_true_eq_false,decide_false,Bool.false_or,hnot]
     exact f1
    ·simp only[List.map_cons,AW,hf]
     exact f3 j y hy
    ·have h1:=f4 k (fun p hp=>hk p (List.mem_cons_of_mem _ hp))
     have h2:=hk (i,x) List.mem_cons_self off xs.length b hf
     rw[hget,hseg,if_neg (by omega),if_neg (by omega)]at h1
     exact h1
    ·cases p with
     | zero=>
      simp only[List.getElem?_cons_zero,Option.some.injEq,Prod.mk.injEq]at hx'
      obtain⟨rfl,rfl⟩:=hx'
      rw[hf]at hf'
      simp only[Option.some.injEq,Prod.mk.injEq]at hf'
      obtain⟨rfl,rfl,rfl⟩:=hf'
      have h1:=f4 (off+j) (by simpa using hfr)
      rw[hget,hseg,if_pos (by omega),if_pos (by omega),Nat.add_sub_cancel_left]at h1
      rw[h1.1,h1.2,k3 j hj,k4 j]
      exact⟨rfl,rfl⟩
     | succ p=>
      simp only[List.getElem?_cons_succ]at hx'
      exact f5 p i' off' size' j b' x' hx' hf' hj (by simpa using hfr)
   ·cases h
  ·cases h

theorem Pt(hT:bC P τ){t:TypeId}{ti:TI}{fs:List (Nat×Nat×Bool)}{parts:Array (Nat×Operand)}{rs:List T}(M:List (Loc×Loc))(hd:o.dst=some d)(hn:d<st.n)(ho:o.op= .build t parts)(ht:τ t=some ti)(hk:ti.kind= .struct fs)
  (hr:qW fs ti.zero (parts.toList.map fun p=>(p.1,ev st.sl p.2))=some rs)
  (hM: ∀m∈M, ∃(p i off size j t':Nat) (b:Bool),parts.toList[p]? =some (i,Operand.tmp t')∧fs[i]? =some (off,size,b)∧j<size∧AU fs (off+j) (parts.toList.drop (p+1))∧m=(.s t' 0 j, .s d 0 (off+j))∧t'≠d∧ ∃y,st.at (.s t' 0 j)=some y):
  nS P g0 w0 o st ((st.put d (.one (.ag rs)) (fun _=>AW fs (BU ti.zero) (parts.toList.map fun p=>(p.1,opK st p.2 0)))).mvs M):=by
 intro a w ⟨g,hs⟩
 obtain⟨info,dt,z,q1,q2,q3,q4,q5,q6,q7,q8,q9⟩:=hT.get ht
 obtain⟨gs,hgs,hlen,hfld⟩:=CN hT (s:=t) (fs:=fs) (by unfold tk; rw[ht]; simp [hk])
 obtain⟨e,hz⟩:=jB q6
 let places:Array (Nat×Nat):=gs.map fun f=>(f.offset,((P.info? f.type).map (·.size)).getD 0)
 have hp: ∀(i off size:Nat) b,fs[i]? =some (off,size,b)→places[i]? =some (off,size):=by
  intro i off size b hf
  obtain⟨gf,inf,h1,h2,h3,h4,_⟩:=hfld i _ hf
  simp [places,h1,h3,h2,h4]
 have hmapM:(gs.mapM fun f=>(do pure (f.offset, ←sizeOf f.type):Sem (Nat×Nat))).run P w= .ok places w:=by
  have gen: ∀(l:List Field),(∀f∈l, ∃inf,P.info? f.type=some inf)→(l.mapM fun f=>(do pure (f.offset, ←sizeOf f.type):Sem (Nat×Nat))).run P w= .ok (l.map fun f=>(f.offset,((P.info? f.type).map (·.size)).getD 0)) w:=by
   intro l
   induction l with
   | nil=>intro _; rfl
   | cons f r ih=>
    intro h
    obtain⟨inf,hi⟩:=h f List.mem_cons_self
    have hsz:(sizeOf f.type).run P w= .ok inf.size w:=by simp [sizeOf,typeInfo,hi]
    rw[List.mapM_cons]
    simp only[Sem.run_bind,hsz,Result.andThen_ok,Sem.run_pure]
    rw[ih (fun x hx=>h x (List.mem_cons_of_mem _ hx))]
    simp [hi]
  have h:=gen gs.toList (fun f hf=>by
   obtain⟨i,hi⟩:=List.getElem?_of_mem hf
   have hlt:i<fs.length:=by have:=cC hi; rw[←hlen]; simpa using this
   obtain⟨gf,inf,h1,_,h3,_⟩:=hfld i _ (List.getElem?_eq_getElem hlt)
   rw[←Array.getElem?_toList,hi]at h1
   cases h1
   exact⟨inf,h3⟩)
  rw[Array.mapM_eq_mapM_toList]
  simp only[Sem.run_map,h,Result.andThen_ok]
  congr 1
  apply Array.ext'
  simp [places]
 obtain⟨rv,f1,f2,f3,_,f5⟩:=CT (g:=g) (w:=w) (lab:=fun j=> .s d 0 j) hp (ρ:=a.eval) (ρV:=ev st.sl) (ρK:=fun x=>opK st x 0) (fun x xs l hc=>by
  have h1:=hs.ev_rv x l
  cases hv:ev st.sl x with
  | one y=>rw[hv]at h1; exact h1
  | tup ws=>rw[hv]at hc; simp [aO]at hc) parts.toList ti.zero z.cells (BU ti.zero) hr (by simpa using e) (fun j x hx=>by
  obtain⟨v,hv,hc⟩:=hz j x hx
  obtain⟨c1,c2⟩:=oT hc
  refine⟨v,by simpa using hv,(c1 (fun _=>False) w).not_agg, ?_⟩
  unfold BU iW
  rw[hx]
  simp only
  by_cases hsc:scal x=true
  ·rw[if_pos hsc]; exact⟨hsc,c1 _ _⟩
  ·rw[if_neg hsc]; exact zI hc (by simpa using hsc))
 have hv:(execOp a.eval o).run P w= .ok (.value (.agg rv)) w:=by
  obtain⟨dst,op,ty,pos,after,guard⟩:=o
  simp only at ho
  subst ho
  have hp2:(parts.map fun x=>(x.fst,a.eval x.snd)).toList=parts.toList.map fun p=>(p.1,a.eval p.2):=by simp
  simp only[execOp,Instr.build,Sem.run_bind,zeroValue,typeInfo,run_program,Result.andThen_ok,q1,Sem.run_pure,q5,run_underlying hgs]
  rw[hmapM]
  simp only[Result.andThen_ok]
  rw[hp2,f1]
  rfl
 refine⟨_,w,hv, .inl ⟨_,rfl, ?_⟩⟩
 rw[hd]
 have hd':d<a.tmps.size:=by rw[hs.size]; exact hn
 have h1:=hs.set hn (u:= .agg rv) (r:= .one (.ag rs)) (κ:=fun _=>AW fs (BU ti.zero) (parts.toList.map fun p=>(p.1,opK st p.2 0))) ⟨rv,rfl,f2,f3⟩ (fun h=>absurd rfl h)
 obtain⟨g',_,h2⟩:=h1.mvs M (fun m hm=>by
  obtain⟨p,i,off,size,j,t',b,e1,e2,e3,e4,rfl,e6,y,hy⟩:=hM m hm
  obtain⟨v1,v2⟩:=f5 p i off size j b _ e1 e2 e3 e4
  have e7:(st.put d (.one (.ag rs)) (fun _=>AW fs (BU ti.zero) (parts.toList.map fun p=>(p.1,opK st p.2 0)))).at (.s t' 0 j)=st.at (.s t' 0 j):=at_put (by simp [aS,e6])
  refine⟨rfl,rfl,by simp [e6], ?_,⟨y,by rw[e7]; exact hy⟩, ?_⟩
  ·rw[mY,e7]
   exact v2
  ·rw[yB (l:= .s t' 0 j) hd' (by simp [aS,e6])]
   simp only[vAt]
   rw[Act.put_getD a d _ _ hd',if_pos rfl]
   exact v1)
 exact⟨g',h2⟩
end
end Go.Own

/- A state that tells less. -/
namespace Go.Own
open Go.RowKit

/-- t tells no more than s. -/
structure St.le (t s:St):Prop where
 n:t.n=s.n
 sl: ∀i,t.sl i= .one .junk∨t.sl i=s.sl i
 ob: ∀o,t.ob o=none∨t.ob o=s.ob o
 fl: ∀l x,t.at l=some x→(s.fl l).lo (t.fl l)=true
 cp: ∀i k xs,(t.sl i).comp k=some (.cp xs)→(s.fl (.s i k 0)).lo (t.fl (.s i k 0))=true
 pl: ∀i,aI (t.sl i)≠ .none→t.fl (.s i 0 0)≠ .D→s.fl (.s i 0 0)≠ .D∧ ∀y,s.at (aI (t.sl i))=some y→t.at (aI (t.sl i))=s.at (aI (t.sl i))∧(t.fl (aI (t.sl i))).hold=true

theorem bQ.relax{g0:G}{w0:World}{s t:St}{a:Act}{g:G}{w:World}(h:bQ g0 w0 s a g w)(hle:t.le s):bQ g0 w0 t a g w:=by
 refine⟨h.framed,h.ok,by rw[hle.n]; exact h.size,h.defers,fun i=> ?_,fun o cells hc=> ?_,fun i hi hf=> ?_,h.bp,by rw[hle.n]; exact h.nle⟩
 ·rcases hle.sl i with e | e
  ·rw[e]; trivial
  ·have hs:=h.slots i
   have hat: ∀k j x,(t.sl i).leaf k j=some x→t.at (.s i k j)=some x:=fun k j x hx=>hx
   have hcp:=hle.cp i
   rw[e]at hat hcp ⊢
   exact hs.map (fun _=>rfl) (fun k j x u hx hu _ hf=>hf.lo h.ok rfl (hle.fl _ _ (hat k j x hx))) (fun k xs hx b off hc=>hc.lo (hcp k xs hx))
 ·rcases hle.ob o with e | e
  ·rw[e]at hc; cases hc
  ·have hc':s.ob o=some cells:=by rw[←e]; exact hc
   obtain⟨arr,ty,h1,h2,h3,h4⟩:=h.obs o cells hc'
   refine⟨arr,ty,h1,h2,h3,fun j x hx=> ?_⟩
   obtain⟨c,c1,c2,c3⟩:=h4 j x hx
   refine⟨c,c1,c2,c3.lo h.ok rfl (hle.fl _ x ?_)⟩
   rw[St.at_oc,hc]; exact hx
 ·obtain⟨p1,p23⟩:=hle.pl i hi hf
  rcases hle.sl i with e | e
  ·rw[e]at hi; exact absurd rfl hi
  ·rw[e]at hi p23 ⊢
   obtain⟨q1,q2⟩:=h.pls i hi p1
   obtain⟨y,hy⟩:=q2.root hi
   obtain⟨p2,p3⟩:=p23 y hy
   refine⟨p3, ?_⟩
   exact q2.congr rfl p2 (fun _ _ _ _ _ _ _ h=>h)

theorem Sim.relax{g0:G}{w0:World}{s t:St}{a:Act}{w:World}(h:Sim g0 w0 s a w)(hle:t.le s):Sim g0 w0 t a w:=by
 obtain⟨g,h⟩:=h
 exact⟨g,h.relax hle⟩

theorem nS.relax{P:Program}{g0:G}{w0:World}{o:Oper}{st s t:St}(h:nS P g0 w0 o st s)(hle:t.le s):nS P g0 w0 o st t:=by
 intro a w hs
 obtain⟨r,w',h1,h2⟩:=h a w hs
 refine⟨r,w',h1, ?_⟩
 rcases h2 with⟨v,e,h2⟩ | ⟨e,h2⟩
 ·exact .inl ⟨v,e,h2.relax hle⟩
 ·exact .inr ⟨e,h2.relax hle⟩

/-! ### kinds after moves -/
def mvK:List (Loc×Loc)→(Loc→K)→Loc→K
 | [],f=>f
 | (a,b)::r,f=>mvK r (fun m=>if m=b then f a else if m=a then(f a).cp else f m)

theorem Uy(M:List (Loc×Loc)): ∀(st:St),(st.mvs M).sl=st.sl:=by
 induction M with
 | nil=>intro st; rfl
 | cons m r ih=>intro st; exact(ih _).trans rfl

theorem Uz(M:List (Loc×Loc)): ∀(st:St),(st.mvs M).ob=st.ob:=by
 induction M with
 | nil=>intro st; rfl
 | cons m r ih=>intro st; exact(ih _).trans rfl

theorem VA(M:List (Loc×Loc)): ∀(st:St),(st.mvs M).n=st.n:=by
 induction M with
 | nil=>intro st; rfl
 | cons m r ih=>intro st; exact(ih _).trans rfl

theorem NB(M:List (Loc×Loc)): ∀ {f f':Loc→K} {l:Loc},f l=f' l→(∀m∈M,f m.1=f' m.1∧f m.2=f' m.2)→mvK M f l=mvK M f' l:=by
 induction M with
 | nil=>intro f f' l h _; exact h
 | cons m r ih=>
  intro f f' l h hM
  obtain⟨a,b⟩:=m
  have ha:f a=f' a:=(hM (a,b) List.mem_cons_self).1
  have key: ∀m,f m=f' m→(if m=b then f a else if m=a then(f a).cp else f m)=(if m=b then f' a else if m=a then(f' a).cp else f' m):=fun m hm=>by rw[ha,hm]
  exact ih (key l h) (fun m' hm'=>by
   obtain⟨h1,h2⟩:=hM m' (List.mem_cons_of_mem _ hm')
   exact⟨key _ h1,key _ h2⟩)

/-- A datum's kind after moves. -/
theorem VB(M:List (Loc×Loc)): ∀ {st:St} {l:Loc} {x:T},st.at l=some x→(∀m∈M,(∃y,st.at m.1=some y)∧(∃y,st.at m.2=some y))→(∀m∈M,m.1≠ .none∧m.2≠ .none)→(st.mvs M).fl l=mvK M st.fl l:=by
 induction M with
 | nil=>intro st l x _ _ _; rfl
 | cons m r ih=>
  intro st l x hx hM hn
  obtain⟨a,b⟩:=m
  have hn1:=hn (a,b) List.mem_cons_self
  have hR:(fun m=>decide (m=a)||decide (m=b)) Loc.none=false:=by simp [Ne.symm hn1.1,Ne.symm hn1.2]
  have hfl: ∀m y,st.at m=some y→(st.mv a b).fl m=(if m=b then st.fl a else if m=a then(st.fl a).cp else st.fl m):=fun m y hy=>uU hR hy
  rw[St.mvs,ih (st:=st.mv a b) (x:=x) hx (fun m' hm'=>hM m' (List.mem_cons_of_mem _ hm')) (fun m' hm'=>hn m' (List.mem_cons_of_mem _ hm'))]
  refine NB r (hfl l x hx) (fun m' hm'=> ?_)
  obtain⟨⟨y1,h1⟩,⟨y2,h2⟩⟩:=hM m' (List.mem_cons_of_mem _ hm')
  exact⟨hfl _ y1 h1,hfl _ y2 h2⟩

/-- A slot without datum: its kinds stay where its root is not moved. -/
theorem Ip(M:List (Loc×Loc)): ∀ {st:St} {i k j:Nat},(∀m∈M,aI (st.sl i)≠m.1∧aI (st.sl i)≠m.2)→(∀m∈M,Loc.s i k j≠m.1∧Loc.s i k j≠m.2)→(st.mvs M).fl (.s i k j)=st.fl (.s i k j):=by
 induction M with
 | nil=>intro st i k j _ _; rfl
 | cons m r ih=>
  intro st i k j h1 h2
  obtain⟨a,b⟩:=m
  rw[St.mvs,ih (st:=st.mv a b) (fun m' hm'=>h1 m' (List.mem_cons_of_mem _ hm')) (fun m' hm'=>h2 m' (List.mem_cons_of_mem _ hm'))]
  obtain⟨e1,e2⟩:=h1 (a,b) List.mem_cons_self
  obtain⟨e3,e4⟩:=h2 (a,b) List.mem_cons_self
  simp only at e1 e2 e3 e4
  simp [St.mv,St.setf,e1,e2,e3,e4]

theorem RZ(M:List (Loc×Loc)): ∀ {f:Loc→K} {l:Loc},(∀m∈M,l≠m.1∧l≠m.2)→mvK M f l=f l:=by
 induction M with
 | nil=>intro f l _; rfl
 | cons m r ih=>
  intro f l h
  obtain⟨a,b⟩:=m
  obtain⟨e1,e2⟩:=h (a,b) List.mem_cons_self
  simp only at e1 e2
  rw[mvK,ih (fun m' hm'=>h m' (List.mem_cons_of_mem _ hm')),if_neg e2,if_neg e1]

end Go.Own

/- What is told of a state without its data: which slots and objects are known, and their kinds. -/
namespace Go.Own
open Go.RowKit

/-- The data alone. -/
structure D where
  sl:Nat→V
  ob:Sc

def D.put(x:D)(d:Nat)(v:V):D:= { x with sl:=fun i=>if i=d then v else x.sl i }
def D.setO(x:D)(o:Nat)(cs:List T):D:= { x with ob:=fun o'=>if o'=o then some cs else x.ob o' }
def D.at(x:D)(l:Loc):Option T:=atL x.sl x.ob l

/-! ### shapes -/
def bP:W→W→Bool
  | .junk, .junk=>false
  | .c x, .c y=>rD x y
  | .ag xs, .ag ys=>eP xs ys
  | .ptr o p, .ptr o' p'=>Nat.beq o o'&&Nat.beq p p'
  | .cp xs, .cp ys=>eP xs ys
  | .pp l p _ j, .pp l' p' _ j'=>decide (l=l')&&Nat.beq p.length p'.length&&Nat.beq j j'
  | .al l p, .al l' p'=>decide (l=l')&&Nat.beq p.length p'.length
  | .nilp, .nilp=>true
  | .nilp, .ptr _ _=>true
  | .nilp, .cp _=>true
  | .ifc _, .ifc _=>true
  | .fn f cs, .fn f' cs'=>Nat.beq f f'&&decide (cs=cs')
  | _,_=>false
def lN:List W→List W→Bool
  | [],[]=>true
  | x::xs,y::ys=>bP x y&&lN xs ys
  | _,_=>false
def fits:V→V→Bool
  | .one x, .one y=>bP x y
  | .tup xs, .tup ys=>lN xs ys
  | _,_=>false

structure FA where
  n:Nat
  sh:List V
  obs:List (Nat×List T)
  al:List Nat:=[]
  tk:List Nat:=[]
  dp:List Nat:=[]
  keep:List (Nat×List Nat):=[]
  fz:List Nat:=[]
  nw:List Nat:=[]
  n0:Option Nat:=none
  io:Option Nat:=none
  ioa:List Nat:=[]
  mks:List (Nat×List (Nat×Nat)):=[]
  lb:Option (List (List (List K))×List (List K)×Bool):=none

def cU{α:Type}(i:Nat):List (Nat×α)→Option α
  | []=>none
  | (j,a)::r=>bif Nat.beq i j then some a else cU i r

def FA.shOf(F:FA)(i:Nat):V:=match F.sh[i]? with | some v=>v | none=> .one .junk
def FA.obOf(F:FA)(o:Nat):List T:=match cU o F.obs with | some v=>v | none=> []

structure B where
  sl:List (Nat×List (List K))
  ob:List (Nat×List K)

def AO(κ:List (List K))(k j:Nat):Option K:=match κ[k]? with | some r=>r[j]? | none=>none
def B.get(b:B):Loc→Option K
  | .s i k j=>match cU i b.sl with | some κ=>AO κ k j | none=>none
  | .oc o j=>match cU o b.ob with | some r=>r[j]? | none=>none
  | _=>none
def B.kd(b:B)(l:Loc):K:=match b.get l with | some q=>q | none=> .D
def B.has(b:B)(i:Nat):Bool:=(cU i b.sl).isSome
def B.hasO(b:B)(o:Nat):Bool:=(cU o b.ob).isSome
def B.hasL(b:B):Loc→Bool
  | .s i _ _=>b.has i
  | .oc o _=>b.hasO o
  | _=>false

def B.S(n:Nat)(b:B)(x:D):St:=
  { n:=n
    sl:=fun i=>if b.has i then x.sl i else .one .junk
    ob:=fun o=>if b.hasO o then x.ob o else none
    fl:=b.kd }

structure Ag (F:FA) (b:B) (x:D):Prop where
  sl: ∀i,b.has i=true→x.sl i= .tup []∨fits (x.sl i) (F.shOf i)=true
  ob: ∀o,b.hasO o=true→ ∃cs,x.ob o=some cs∧eP cs (F.obOf o)=true

/-! ### lists -/
theorem wW{α β:Type}(f:Nat→α→β)(i:Nat): ∀l:List (Nat×α),cU i (l.map fun p=>(p.1,f p.1 p.2))=(cU i l).map (f i)
  | []=>rfl
  | (j,a)::r=>by
    simp only[List.map_cons,cU]
    cases h:Nat.beq i j with
    | true=>have:=Nat.eq_of_beq_eq_true h; subst this; rfl
    | false=>exact wW f i r

theorem eF{α:Type}(p:Nat→Bool)(i:Nat): ∀l:List (Nat×α),cU i (l.filter fun q=>p q.1)=if p i=true then cU i l else none
  | []=>by simp [cU]
  | (j,a)::r=>by
    simp only[List.filter_cons]
    by_cases hj:p j=true
    · simp only[if_pos hj,cU]
      cases h:Nat.beq i j with
      | true=>have:=Nat.eq_of_beq_eq_true h; subst this; simp [hj]
      | false=>simpa using eF p i r
    · simp only[if_neg hj,cU]
      rw[eF p i r]
      cases h:Nat.beq i j with
      | true=>have:=Nat.eq_of_beq_eq_true h; subst this; simp [hj]
      | false=>rfl

def tM(f:Nat→K→K):Nat→List K→List K
  | _,[]=> []
  | j,q::r=>f j q::tM f (j+1) r
def qZ(f:Nat→Nat→K→K):Nat→List (List K)→List (List K)
  | _,[]=> []
  | k,q::r=>tM (f k) 0 q::qZ f (k+1) r

theorem zE(f:Nat→K→K): ∀(l:List K) (j0 j:Nat),(tM f j0 l)[j]? =(l[j]?).map (f (j0+j))
  | [],_,_=>by simp [tM]
  | q::r,j0,0=>by simp [tM]
  | q::r,j0,j+1=>by simp only[tM,List.getElem?_cons_succ]; rw[zE f r (j0+1) j]; congr 2; omega

theorem CK(f:Nat→Nat→K→K): ∀(l:List (List K)) (k0 k:Nat),(qZ f k0 l)[k]? =(l[k]?).map (fun r=>tM (f (k0+k)) 0 r)
  | [],_,_=>by simp [qZ]
  | q::r,k0,0=>by simp [qZ]
  | q::r,k0,k+1=>by simp only[qZ,List.getElem?_cons_succ]; rw[CK f r (k0+1) k]; congr 2; funext; congr 2; omega

theorem HV(f:Nat→Nat→K→K)(κ:List (List K))(k j:Nat):AO (qZ f 0 κ) k j=(AO κ k j).map (f k j):=by
  simp only[AO,CK,Nat.zero_add]
  cases κ[k]? with
  | none=>rfl
  | some r=>simp only[Option.map_some,zE,Nat.zero_add]

def B.mapK(f:Loc→K→K)(b:B):B:=
  { sl:=b.sl.map fun p=>(p.1,qZ (fun k j=>f (.s p.1 k j)) 0 p.2),ob:=b.ob.map fun p=>(p.1,tM (fun j=>f (.oc p.1 j)) 0 p.2) }

theorem FG(f:Loc→K→K)(b:B)(l:Loc):(b.mapK f).get l=(b.get l).map (f l):=by
  cases l with
  | s i k j=>
    simp only[B.get,B.mapK]
    rw[wW (fun i κ=>qZ (fun k j=>f (.s i k j)) 0 κ)]
    cases cU i b.sl with
    | none=>rfl
    | some κ=>simp only[Option.map_some,HV]
  | oc o j=>
    simp only[B.get,B.mapK]
    rw[wW (fun o r=>tM (fun j=>f (.oc o j)) 0 r)]
    cases cU o b.ob with
    | none=>rfl
    | some r=>simp only[Option.map_some,zE,Nat.zero_add]
  | _=>rfl

theorem Jj(f:Loc→K→K)(b:B)(i:Nat):(b.mapK f).has i=b.has i:=by
  simp only[B.has,B.mapK]
  rw[wW (fun i κ=>qZ (fun k j=>f (.s i k j)) 0 κ)]
  cases cU i b.sl<;>rfl

theorem Gp(f:Loc→K→K)(b:B)(o:Nat):(b.mapK f).hasO o=b.hasO o:=by
  simp only[B.hasO,B.mapK]
  rw[wW (fun o r=>tM (fun j=>f (.oc o j)) 0 r)]
  cases cU o b.ob<;>rfl

theorem MI(f:Loc→K→K)(b:B)(l:Loc):(b.mapK f).kd l=match b.get l with | some q=>f l q | none=> .D:=by
  simp only[B.kd,FG]
  cases b.get l<;>rfl

/-- The slots that p tells of, alone. -/
def B.filt(p:Nat→Bool)(b:B):B:= { b with sl:=b.sl.filter fun q=>p q.1 }
theorem eH(p:Nat→Bool)(b:B)(i:Nat):(b.filt p).has i=(p i&&b.has i):=by
  simp only[B.has,B.filt]
  rw[eF p i b.sl]
  cases p i<;>simp
theorem xN(p:Nat→Bool)(b:B)(o:Nat):(b.filt p).hasO o=b.hasO o:=rfl
theorem xB(p:Nat→Bool)(b:B)(l:Loc):(b.filt p).get l=match l with | .s i _ _=>if p i=true then b.get l else none | _=>b.get l:=by
  cases l with
  | s i k j=>
    simp only[B.get,B.filt]
    rw[eF p i b.sl]
    by_cases h:p i=true
    · rw[if_pos h,if_pos h]
    · rw[if_neg h,if_neg h]
  | _=>rfl

theorem fN{p:Nat→Bool}{b:B}{i k j:Nat}(h:p i=true):(b.filt p).kd (.s i k j)=b.kd (.s i k j):=by
  simp only[B.kd,xB,if_pos h]
theorem EX{p:Nat→Bool}{b:B}{o j:Nat}:(b.filt p).kd (.oc o j)=b.kd (.oc o j):=by
  simp only[B.kd,xB]

/-! ### a value's kinds -/
def OU(f:Nat→K):Nat→List T→List K
  | _,[]=> []
  | j,_::r=>f j::OU f (j+1) r
def yV(f:Nat→K):W→List K
  | .ag xs=>OU f 0 xs
  | _=> [f 0]
def yE(f:Nat→Nat→K):Nat→List W→List (List K)
  | _,[]=> []
  | k,x::r=>yV (f k) x::yE f (k+1) r
def oB(v:V)(f:Nat→Nat→K):List (List K):=match v with
  | .one w=> [yV (f 0) w]
  | .tup ws=>yE f 0 ws

theorem AY(f:Nat→K): ∀(l:List T) (j0 j:Nat),(OU f j0 l)[j]? =if j<l.length then some (f (j0+j))else none
  | [],_,_=>by simp [OU]
  | _::r,j0,0=>by simp [OU]
  | _::r,j0,j+1=>by
    simp only[OU,List.getElem?_cons_succ,List.length_cons]
    rw[AY f r (j0+1) j,show j0+1+j=j0+(j+1)by omega]
    by_cases h:j<r.length
    · rw[if_pos h,if_pos (by omega)]
    · rw[if_neg h,if_neg (by omega)]

theorem vY(f:Nat→Nat→K): ∀(l:List W) (k0 k:Nat),(yE f k0 l)[k]? =(l[k]?).map (yV (f (k0+k)))
  | [],_,_=>by simp [yE]
  | x::r,k0,0=>by simp [yE]
  | x::r,k0,k+1=>by simp only[yE,List.getElem?_cons_succ]; rw[vY f r (k0+1) k,show k0+1+k=k0+(k+1)by omega]

theorem xP{xs ys:List T}(h:eP xs ys=true):xs.length=ys.length:=(qM h).1

theorem EQ{x y:W}(h:bP x y=true)(f:Nat→K)(j:Nat):(∀t,x.leaf j=some t→(yV f y)[j]? =some (f j))∧(∀q,(yV f y)[j]? =some q→q=f j):=by
  have h1: ∀z:W,(∀ys,z≠ .ag ys)→yV f z=[f 0]:=by intro z hz; cases z<;>first | rfl | exact absurd rfl (hz _)
  have h2: ∀q,[f 0][j]? =some q→q=f j:=by
    intro q hq
    cases j with
    | zero=>simpa using hq.symm
    | succ j=>simp at hq
  refine⟨fun t ht=> ?_,fun q hq=> ?_⟩
  · cases x with
    | c a=>
      cases y<;>simp [bP]at h
      cases j with
      | zero=>rfl
      | succ j=>simp [W.leaf]at ht
    | ag xs=>
      cases y<;>simp [bP]at h
      simp only[yV,AY,Nat.zero_add]
      rw[if_pos]
      rw[←xP h]
      exact cC ht
    | _=>simp [W.leaf]at ht
  · by_cases ha: ∃ys,y= .ag ys
    · obtain⟨ys,rfl⟩:=ha
      simp only[yV,AY,Nat.zero_add]at hq
      split at hq<;>simp at hq
      exact hq.symm
    · rw[h1 y (fun ys e=>ha ⟨ys,e⟩)]at hq
      exact h2 q hq

theorem zF: ∀ {xs ys:List W},lN xs ys=true→ ∀ {k:Nat} {x:W},xs[k]? =some x→ ∃y,ys[k]? =some y∧bP x y=true
  | [],_,_,_,_,h=>by simp at h
  | x::xs,[],h,_,_,_=>by simp [lN]at h
  | x::xs,y::ys,h,0,_,hk=>by
    simp only[lN,Bool.and_eq_true]at h
    simp only[List.getElem?_cons_zero,Option.some.injEq]at hk
    subst hk
    exact⟨y,rfl,h.1⟩
  | x::xs,y::ys,h,k+1,_,hk=>by
    simp only[lN,Bool.and_eq_true]at h
    simp only[List.getElem?_cons_succ]at hk ⊢
    exact zF h.2 hk

/-- A datum's kind. -/
theorem AL{v s:V}(h:fits v s=true)(f:Nat→Nat→K){k j:Nat}{x:T}(hx:v.leaf k j=some x):AO (oB s f) k j=some (f k j):=by
  cases v with
  | one w=>
    cases s with
    | tup ws=>simp [fits]at h
    | one y=>
      cases k with
      | succ k=>simp [V.leaf]at hx
      | zero=>simp only[AO,oB,List.getElem?_cons_zero]; exact(EQ h (f 0) j).1 x hx
  | tup ws=>
    cases s with
    | one y=>simp [fits]at h
    | tup ys=>
      simp only[V.leaf,Option.bind_eq_some_iff]at hx
      obtain⟨w,hw,hx⟩:=hx
      obtain⟨y,hy,hf⟩:=zF h hw
      simp only[AO,oB,vY,Nat.zero_add,hy,Option.map_some]
      exact(EQ hf (f k) j).1 x hx

theorem Ju{xs:List T}{y:W}(h:bP (.cp xs) y=true): ∃ys,y= .cp ys:=by cases y<;>simp [bP]at h; exact⟨_,rfl⟩

theorem ER{v s:V}(h:fits v s=true)(f:Nat→Nat→K){k:Nat}{xs:List T}(hx:v.comp k=some (.cp xs)):AO (oB s f) k 0=some (f k 0):=by
  cases v with
  | one w=>
    cases s with
    | tup ws=>simp [fits]at h
    | one y=>
      cases k with
      | succ k=>simp [V.comp]at hx
      | zero=>
        simp only[V.comp,Option.some.injEq]at hx
        subst hx
        obtain⟨ys,rfl⟩:=Ju h
        rfl
  | tup ws=>
    cases s with
    | one y=>simp [fits]at h
    | tup ys=>
      simp only[V.comp]at hx
      obtain⟨y,hy,hf⟩:=zF h hx
      obtain⟨zs,rfl⟩:=Ju hf
      simp only[AO,oB,vY,Nat.zero_add,hy,Option.map_some]
      rfl

theorem dT{v s:V}(h:fits v s=true):aI v=aI s:=by
  cases v with
  | tup ws=>cases s with
    | one y=>simp [fits]at h
    | tup ys=>rfl
  | one w=>
    cases s with
    | tup ws=>simp [fits]at h
    | one y=>
      cases w<;>cases y<;>simp [fits,bP]at h<;>first | rfl | exact h.1 | exact h.1.1

theorem HY{v s:V}(h:fits v s=true)(f:Nat→Nat→K)(hr:aI v≠ .none):AO (oB s f) 0 0=some (f 0 0):=by
  rw[dT h]at hr
  cases s with
  | tup ws=>exact absurd rfl hr
  | one y=>cases y<;>first | rfl | exact absurd rfl hr
end Go.Own

/- What is told of a state without its data, as the state goes on. -/
namespace Go.Own
open Go.RowKit

theorem cZ(q:K):q.lo q=true:=by cases q<;>simp [K.lo]
theorem GQ(q:K):q.lo .D=true:=by cases q<;>rfl
theorem lo_cp{a b:K}(h:a.lo b=true):a.cp.lo b.cp=true:=by
 cases a<;>cases b<;>simp_all [K.lo,K.cp]

/-- s tells what b and the data x tell, but for what lies in places. -/
structure Low (n:Nat) (b:B) (x:D) (s:St):Prop where
 n:s.n=n
 sl: ∀i,b.has i=true→s.sl i=x.sl i
 ob: ∀o,b.hasO o=true→s.ob o=x.ob o
 fl: ∀l t,b.hasL l=true→x.at l=some t→(s.fl l).lo (b.kd l)=true
 cp: ∀i k xs,b.has i=true→(x.sl i).comp k=some (.cp xs)→(s.fl (.s i k 0)).lo (b.kd (.s i k 0))=true
 al: ∀i,b.has i=true→aI (x.sl i)≠ .none→b.kd (.s i 0 0)≠ .D→s.fl (.s i 0 0)≠ .D

theorem Low.self(n:Nat)(b:B)(x:D):Low n b x (b.S n x):=
 ⟨rfl,fun i h=>by simp only[B.S]; rw[if_pos h],fun o h=>by simp only[B.S]; rw[if_pos h],fun _ _ _ _=>cZ _,fun _ _ _ _ _=>cZ _,fun _ _ _ h=>h⟩

theorem QR{b:B}{l:Loc}(h:b.hasL l=false):b.kd l= .D:=by
 cases l with
 | s i k j=>
  simp only[B.hasL,B.has,Option.isSome_eq_false_iff,Option.isNone_iff_eq_none]at h
  simp only[B.kd,B.get,h]
 | oc o j=>
  simp only[B.hasL,B.hasO,Option.isSome_eq_false_iff,Option.isNone_iff_eq_none]at h
  simp only[B.kd,B.get,h]
 | _=>rfl

theorem S_at{n:Nat}{b:B}{x:D}{l:Loc}{t:T}(h:(b.S n x).at l=some t):b.hasL l=true∧x.at l=some t:=by
 cases l with
 | s i k j=>
  simp only[St.at,atL,B.S]at h
  by_cases e:b.has i=true
  ·rw[if_pos e]at h; exact⟨e,h⟩
  ·rw[if_neg e]at h
   cases k with
   | zero=>simp [V.leaf,W.leaf]at h
   | succ k=>simp [V.leaf]at h
 | oc o j=>
  simp only[St.at,atL,B.S]at h
  by_cases e:b.hasO o=true
  ·rw[if_pos e]at h; exact⟨e,h⟩
  ·rw[if_neg e]at h; simp at h
 | _=>simp [St.at,atL]at h

theorem Hv{n:Nat}{b:B}{x:D}{l:Loc}(h:b.hasL l=true):(b.S n x).at l=x.at l:=by
 cases l with
 | s i k j=>have h:b.has i=true:=h; simp only[St.at,D.at,atL,B.S]; rw[if_pos h]
 | oc o j=>have h:b.hasO o=true:=h; simp only[St.at,D.at,atL,B.S]; rw[if_pos h]
 | _=>cases h

/-- Places' parts are known where the places hold. -/
def B.nrm(F:FA)(b:B):B:=b.filt fun i=>match aI (F.shOf i)with | .none=>true | l=>b.hasL l&&(b.kd l).hold

theorem Ag.filt{F:FA}{b:B}{x:D}(h:Ag F b x)(p:Nat→Bool):Ag F (b.filt p) x:=
 ⟨fun i hi=>h.sl i (by rw[eH]at hi; simp only[Bool.and_eq_true]at hi; exact hi.2),h.ob⟩

theorem Ag.nrm{F:FA}{b:B}{x:D}(h:Ag F b x):Ag F (b.nrm F) x:=h.filt _

/-- A datum's slot is no place's part. -/
theorem Ag.leaf_root{F:FA}{b:B}{x:D}(hA:Ag F b x){i k j:Nat}{t:T}(hi:b.has i=true)(hx:(x.sl i).leaf k j=some t):aI (F.shOf i)= .none:=by
 rcases hA.sl i hi with e | e
 ·rw[e]at hx
  cases k with
  | zero=>simp [V.leaf,W.leaf]at hx
  | succ k=>simp [V.leaf]at hx
 ·rw[←dT e]
  cases hv:x.sl i with
  | tup ws=>rfl
  | one w=>
   cases k with
   | zero=>cases w<;>first | rfl | (rw[hv]at hx; simp [V.leaf,W.leaf]at hx)
   | succ k=>rw[hv]at hx; simp [V.leaf]at hx

/-- What nrm asks of slot i. -/
def JR(F:FA)(b:B)(i:Nat):Bool:=match aI (F.shOf i)with | .none=>true | l=>b.hasL l&&(b.kd l).hold

theorem vM(F:FA)(b:B):b.nrm F=b.filt (JR F b):=rfl

theorem Bj{F:FA}{b:B}{i:Nat}(h:aI (F.shOf i)= .none):JR F b i=true:=by simp only[JR,h]
theorem NA{F:FA}{b:B}{i:Nat}(h:aI (F.shOf i)≠ .none)(hp:JR F b i=true):b.hasL (aI (F.shOf i))=true∧(b.kd (aI (F.shOf i))).hold=true:=by
 unfold JR at hp
 split at hp
 ·rename_i e; exact absurd e h
 ·simpa using hp

theorem Low.le{F:FA}{n:Nat}{b:B}{x:D}{s:St}(hA:Ag F b x)(h:Low n b x s):((b.nrm F).S n x).le s:=by
 have hhas: ∀i,(b.nrm F).has i=true→b.has i=true∧JR F b i=true:=fun i hi=>by
  rw[vM,eH]at hi
  simpa [and_comm]using hi
 have hhasO: ∀o,(b.nrm F).hasO o=b.hasO o:=fun o=>rfl
 have hkd: ∀i k j,JR F b i=true→(b.nrm F).kd (.s i k j)=b.kd (.s i k j):=fun i k j hp=>by rw[vM]; exact fN hp
 refine⟨h.n.symm,fun i=> ?_,fun o=> ?_,fun l t ht=> ?_,fun i k xs hx=> ?_,fun i hi hf=> ?_⟩
 ·simp only[B.S]
  by_cases e:(b.nrm F).has i=true
  ·rw[if_pos e]; exact .inr (h.sl i (hhas i e).1).symm
  ·rw[if_neg e]; exact .inl rfl
 ·simp only[B.S]
  by_cases e:(b.nrm F).hasO o=true
  ·rw[if_pos e]; exact .inr (h.ob o (by rw[←hhasO]; exact e)).symm
  ·rw[if_neg e]; exact .inl rfl
 ·obtain⟨h1,h2⟩:=S_at ht
  show(s.fl l).lo ((b.nrm F).kd l)=true
  cases l with
  | s i k j=>
   obtain⟨q1,q2⟩:=hhas i h1
   rw[hkd i k j q2]
   exact h.fl _ t q1 h2
  | oc o j=>exact h.fl (.oc o j) t h1 h2
  | _=>exact GQ _
 ·simp only[B.S]at hx
  by_cases e:(b.nrm F).has i=true
  ·rw[if_pos e]at hx
   obtain⟨q1,q2⟩:=hhas i e
   show(s.fl (.s i k 0)).lo ((b.nrm F).kd (.s i k 0))=true
   rw[hkd i k 0 q2]
   exact h.cp i k xs q1 hx
  ·rw[if_neg e]at hx
   cases k<;>simp [V.comp]at hx
 ·simp only[B.S]at hi
  by_cases e:(b.nrm F).has i=true
  ·rw[if_pos e]at hi
   obtain⟨q1,q2⟩:=hhas i e
   have hf':b.kd (.s i 0 0)≠ .D:=by rw[←hkd i 0 0 q2]; exact hf
   have hsl:((b.nrm F).S n x).sl i=x.sl i:=by simp only[B.S]; rw[if_pos e]
   have hroot:aI (x.sl i)=aI (F.shOf i):=by
    rcases hA.sl i q1 with e2 | e2
    ·rw[e2]at hi; exact absurd rfl hi
    ·exact dT e2
   obtain⟨r1,r2⟩:=NA (by rw[←hroot]; exact hi) q2
   rw[←hroot]at r1 r2
   rw[hsl]
   refine⟨h.al i q1 hi hf',fun y hy=> ?_⟩
   generalize hl:aI (x.sl i)=l at r1 r2 hy
   cases l with
   | s i' k' j'=>
    have h1:b.has i'=true:=r1
    have hy':(x.sl i').leaf k' j'=some y:=by rw[←h.sl i' h1]; exact hy
    have h2:JR F b i'=true:=Bj (hA.leaf_root h1 hy')
    have h3:(b.nrm F).has i'=true:=by rw[vM,eH,h1,h2]; rfl
    refine⟨?_, ?_⟩
    ·rw[Hv (show(b.nrm F).hasL (.s i' k' j')=true from h3),St.at_s,h.sl i' h1]; rfl
    ·show((b.nrm F).kd (.s i' k' j')).hold=true
     rw[hkd i' k' j' h2]; exact r2
   | oc o' j'=>
    refine⟨?_,r2⟩
    rw[Hv (show(b.nrm F).hasL (.oc o' j')=true from r1),St.at_oc,h.ob o' r1]; rfl
   | _=>simp [B.hasL]at r1
  ·rw[if_neg e]at hi; exact absurd rfl hi
end Go.Own
