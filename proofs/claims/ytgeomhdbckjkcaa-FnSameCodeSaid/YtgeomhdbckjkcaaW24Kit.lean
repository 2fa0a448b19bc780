/- Loops over lists and small things, in plain Lean. No conditions. -/
import Derived.Test.YtgeomhdbckjkcaaW24W
set_option linter.unusedVariables false
set_option linter.unusedSimpArgs false
set_option linter.unnecessarySimpa false
namespace Go.Own.Q
open Go Go.Proofs

theorem Ab{σ ρ:Type}{body:σ→Option (σ⊕ρ)}(st:Nat→σ){len:Nat}{r:ρ}(hs: ∀i,i<len→body (st i)=some (.inl (st (i+1))))(he:body (st len)=some (.inr r)){n:Nat}(hn:len<n):loopN body n (st 0)=some r:=by
 have key: ∀k i,i+k=len→ ∀n,k<n→loopN body n (st i)=some r:=by
  intro k
  induction k with
  | zero=>
   intro i hi n hn
   obtain⟨m,rfl⟩: ∃m,n=m+1:=⟨n - 1,by omega⟩
   have:i=len:=by omega
   subst this
   simp only[loopN,he]
  | succ k ih=>
   intro i hi n hn
   obtain⟨m,rfl⟩: ∃m,n=m+1:=⟨n - 1,by omega⟩
   simp only[loopN,hs i (by omega)]
   exact ih (i+1) (by omega) m (by omega)
 exact key len 0 (by omega) n hn

/-- A list gone through with a state; it may stop early. -/
def vC{α σ ρ:Type}(f:σ→α→σ⊕ρ):List α→σ→σ⊕ρ
 | [],s=> .inl s
 | a::r,s=>match f s a with
  | .inl s'=>vC f r s'
  | .inr q=> .inr q
/-- A loop over a list. -/
theorem Bl{α σ τ ρ κ:Type}{body:σ→Option (σ⊕ρ)}(l:List α)(f:τ→α→τ⊕κ)(enc:τ→Nat→σ)(fin:τ→ρ)(out:κ→ρ)(I:τ→Prop)(hs: ∀(i:Nat) a t,l[i]? =some a→I t→(∃t',f t a= .inl t'∧I t'∧body (enc t i)=some (.inl (enc t' (i+1))))∨(∃q,f t a= .inr q∧body (enc t i)=some (.inr (out q))))
  (he: ∀t,I t→body (enc t l.length)=some (.inr (fin t))){n:Nat}(hn:l.length<n){t0:τ}(h0:I t0):loopN body n (enc t0 0)=some (match vC f l t0 with | .inl t=>fin t | .inr q=>out q):=by
 have key: ∀(r:List α) (i:Nat) (t:τ) (n:Nat),l.drop i=r→I t→r.length<n→i≤l.length→loopN body n (enc t i)=some (match vC f r t with | .inl t=>fin t | .inr q=>out q):=by
  intro r
  induction r with
  | nil=>
   intro i t n hr ht hn hi
   obtain⟨m,rfl⟩: ∃m,n=m+1:=⟨n - 1,by simp at hn; omega⟩
   have:i=l.length:=by
    have:=congrArg List.length hr
    simp at this; omega
   subst this
   simp only[loopN,he t ht,vC]
  | cons a r ih=>
   intro i t n hr ht hn hi
   obtain⟨m,rfl⟩: ∃m,n=m+1:=⟨n - 1,by simp at hn; omega⟩
   have hil:i<l.length:=by
    have:=congrArg List.length hr
    simp at this; omega
   have ha:l[i]? =some a:=by
    have:=congrArg (·[0]?) hr
    simpa using this
   have hr':l.drop (i+1)=r:=by
    have:=congrArg List.tail hr
    simpa using this
   rcases hs i a t ha ht with⟨t',h1,h2,h3⟩ | ⟨q,h1,h3⟩
   ·simp only[loopN,h3,vC,h1]
    exact ih (i+1) t' m hr' h2 (by simp at hn; omega) (by omega)
   ·simp only[loopN,h3,vC,h1]
 exact key l 0 t0 n rfl h0 hn (by omega)

theorem cQ{α:Type}(l:List α)(i:Nat):ix l (i:Int)=l[i]? :=by
 unfold ix
 rw[if_pos (by omega)]
 simp
theorem Er(s:List UInt8)(i:Nat):ixs s (i:Int)=(s[i]?).map fun b=>(b.toNat:Int):=by
 unfold ixs
 rw[if_pos (by omega)]
 simp
theorem aV{i:Nat}(h:i<4611686018427387904):IntKind.wrap .i64 ((i:Int)+1)=((i+1:Nat):Int):=by
 rw[wrap_i64 (by omega) (by omega)]; omega
theorem qS{α:Type}{l:List α}{i:Nat}{a:α}(h:l[i]? =some a):l.take i++[a]=l.take (i+1):=by
 rw[List.take_add_one,h]; rfl
theorem vA{α:Type}{b:Nat}{l1 l2:List α}(h:(l1.length+l2.length)*b≤140737488355328)(h2:l1.length+l2.length≤maxLen):fQ b l1 l2=some (l1++l2):=by
 unfold fQ
 rw[if_pos ⟨h2,h⟩]
theorem cH{α:Type}{l:List α}{i:Nat}{a:α}(h:l[i]? =some a):i<l.length:=(List.getElem?_eq_some_iff.1 h).1
theorem cW{α:Type}{l:List α}{i:Nat}{a:α}(h:l[i]? =some a):decide ((i:Int)<(l.length:Int))=true:=by
 have:=cH h
 exact decide_eq_true (by omega)
theorem aQ{k:Nat}:decide ((k:Int)<(k:Int))=false:=decide_eq_false (by omega)
theorem nV{α:Type}(c:Bool)(a b:α):(bif c then some a else some b)=some (bif c then a else b):=by cases c<;>rfl
theorem bif_and(c a:Bool):(bif c then a else false)=(c&&a):=by cases c<;>rfl
theorem bif_or(c a:Bool):(bif c then true else a)=(c||a):=by cases c<;>rfl
theorem bif_nand(c a:Bool):(bif c then false else a)=(!c&&a):=by cases c<;>rfl

/-- Each element's number, summed up. -/
def qO{α:Type}(z:α→Nat):List α→Nat
 | []=>0
 | a::r=>z a+qO z r
theorem Ol{α:Type}(z:α→Nat){a:α}: ∀ {l:List α},a∈l→z a≤qO z l
 | b::r,h=>by
  cases h with
  | head=>simp only[qO]; omega
  | tail _ h=>have:=Ol z h; simp only[qO]; omega
theorem Om{α:Type}(z:α→Nat)(hz: ∀a,1≤z a): ∀l:List α,l.length≤qO z l
 | []=>by simp [qO]
 | b::r=>by have:=Om z hz r; have:=hz b; simp only[qO,List.length_cons]; omega

/-- Length and the elements' numbers. -/
def zl{α:Type}(z:α→Nat)(l:List α):Nat:=l.length+qO z l
/-- Steps for a list. -/
def dl{α:Type}(d:α→Nat):List α→Nat
 | []=>1
 | a::r=>1+d a+dl d r
theorem eA{α:Type}(d:α→Nat){a:α}: ∀ {l:List α},a∈l→d a<dl d l
 | b::r,h=>by
  cases h with
  | head=>simp only[dl]; omega
  | tail _ h=>have:=eA d h; simp only[dl]; omega
theorem bM{α:Type}(d:α→Nat): ∀l:List α,l.length<dl d l
 | []=>by simp [dl]
 | b::r=>by have:=bM d r; simp only[dl,List.length_cons]; omega
theorem VM{α β:Type}(d:β→Nat)(f:α→β): ∀l:List α,dl d (l.map f)=dl (fun a=>d (f a)) l
 | []=>rfl
 | a::r=>by simp only[List.map_cons,dl,VM d f r]
theorem Pm{α:Type}{d e:α→Nat}: ∀ {l:List α},(∀a∈l,d a=e a)→dl d l=dl e l
 | [],_=>rfl
 | a::r,h=>by
  simp only[dl]
  rw[h a List.mem_cons_self,Pm (l:=r) fun b hb=>h b (List.mem_cons_of_mem _ hb)]
theorem dl_le{α:Type}{d z:α→Nat}{A B C:Nat}(h: ∀a,d a≤A*z a+B)(hA:A≤C)(hB:1+B≤C): ∀l:List α,dl d l≤C*zl z l+1
 | []=>by simp [dl]
 | a::r=>by
  have h1:=dl_le h hA hB r
  have h2:=h a
  have h3:A*z a≤C*z a:=Nat.mul_le_mul_right _ hA
  have e:zl z (a::r)=1+z a+zl z r:=by simp only[zl,qO,List.length_cons]; omega
  rw[e,Nat.mul_add,Nat.mul_add]
  simp only[dl]
  omega
theorem VN{α:Type}: ∀l:List α,dl (fun _=>0) l≤l.length+1
 | []=>by simp [dl]
 | a::r=>by have:=VN r; simp only[dl,List.length_cons]; omega
theorem sub_ok{k:Nat}{left:Int}(hk:k≤maxLen)(h0:0≤left)(h1:left≤1048576):IntKind.wrap .i64 (left - (k:Int))=left - k:=by
 simp only[maxLen]at hk
 exact wrap_i64 (by omega) (by omega)

/-- A loop that takes each element's number off. -/
theorem loop_sz{α:Type}{body:Int×Int→Option ((Int×Int)⊕(Int⊕(Int×Int×Bool)))}(l:List α)(z:α→Nat)(hs: ∀(i:Nat) a (left:Int),l[i]? =some a→0≤left→left≤1048576→body (left,(i:Int))=some (if(z a:Int)≤left then .inl (left - z a,((i+1:Nat):Int))else .inr (.inl (-1))))
  (he: ∀left:Int,body (left,(l.length:Int))=some (.inr (.inr (left,(l.length:Int),false)))){n:Nat}(hn:l.length<n){left:Int}(h0:0≤left)(h1:left≤1048576):loopN body n (left,(0:Int))=some (if(qO z l:Int)≤left then .inr (left - qO z l,(l.length:Int),false)else .inl (-1)):=by
 have h:=Bl (body:=body) l (fun(t:Int) a=>if(z a:Int)≤t then .inl (t - z a)else .inr ()) (fun t i=>(t,(i:Int))) (fun t=> .inr (t,(l.length:Int),false)) (fun _=> .inl (-1)) (fun t=>0≤t∧t≤1048576) (fun i a t ha ht=>by
  by_cases c:(z a:Int)≤t
  ·left
   refine⟨t - z a,if_pos c,⟨by omega,by omega⟩, ?_⟩
   rw[hs i a t ha ht.1 ht.2,if_pos c]
  ·right
   refine⟨(),if_neg c, ?_⟩
   rw[hs i a t ha ht.1 ht.2,if_neg c]) (fun t _=>he t) hn (t0:=left) ⟨h0,h1⟩
 have key: ∀(l:List α) (t:Int),0≤t→vC (fun(t:Int) a=>if(z a:Int)≤t then Sum.inl (t - z a)else Sum.inr ()) l t=if(qO z l:Int)≤t then .inl (t - qO z l)else .inr ():=by
  intro l
  induction l with
  | nil=>intro t ht; simp [vC,qO,ht]
  | cons a r ih=>
   intro t ht
   have e:qO z (a::r)=z a+qO z r:=rfl
   generalize qO z (a::r)=q at e
   simp only[vC]
   by_cases c:(z a:Int)≤t
   ·rw[if_pos c]
    simp only
    rw[ih _ (by omega)]
    by_cases c2:(q:Int)≤t
    ·rw[if_pos c2,if_pos (by omega)]; congr 1; omega
    ·rw[if_neg c2,if_neg (by omega)]
   ·rw[if_neg c,if_neg (by omega)]
 refine h.trans ?_
 rw[key l left h0]
 by_cases c:(qO z l:Int)≤left
 ·rw[if_pos c,if_pos c]
 ·rw[if_neg c,if_neg c]

/-- A loop that puts what each element becomes into a list of its length. -/
theorem loop_to{α β:Type}{body:List β×Int→Option ((List β×Int)⊕(List β×Int×Bool))}(l:List α)(c:α→β)(z:β)(hs: ∀(i:Nat) a (o:List β) (b:β),l[i]? =some a→o[i]? =some b→body (o,(i:Int))=some (.inl (o.set i (c a),((i+1:Nat):Int))))
  (he: ∀o:List β,body (o,(l.length:Int))=some (.inr (o,(l.length:Int),false))){n:Nat}(hn:l.length<n):loopN body n (List.replicate l.length z,(0:Int))=some (l.map c,(l.length:Int),false):=by
 have h:=Ab (body:=body) (fun i=>((l.take i).map c++List.replicate (l.length - i) z,(i:Int))) (len:=l.length) (r:=(l.map c,(l.length:Int),false)) (fun i hi=>by
  have ha:l[i]? =some l[i]:=List.getElem?_eq_getElem hi
  have hlt:((l.take i).map c).length=i:=by simp; omega
  have ho:((l.take i).map c++List.replicate (l.length - i) z)[i]? =some z:=by
   rw[List.getElem?_append_right (by omega),hlt,Nat.sub_self,List.getElem?_replicate,if_pos (by omega)]
  rw[hs i _ _ z ha ho]
  congr 2
  rw[List.set_append_right _ _ (by omega),hlt,Nat.sub_self]
  obtain⟨k,hk⟩: ∃k,l.length - i=k+1:=⟨l.length - i - 1,by omega⟩
  rw[hk,List.replicate_succ,List.set_cons_zero,show l.length - (i+1)=k by omega,List.map_take,List.map_take, ←qS (l:=l.map c) (i:=i) (a:=c l[i]) (by rw[List.getElem?_map,ha]; rfl),List.append_assoc]
  rfl) (by simp [he]) hn
 simpa using h

/-- A loop that holds each element against itself. -/
theorem loop_eq{α:Type}{body:Int→Option (Int⊕(Bool⊕(Int×Bool)))}(l:List α)(hs: ∀(i:Nat) a,l[i]? =some a→body (i:Int)=some (.inl ((i+1:Nat):Int)))(he:body (l.length:Int)=some (.inr (.inr ((l.length:Int),false)))){n:Nat}(hn:l.length<n):loopN body n (0:Int)=some (.inr ((l.length:Int),false)):=
 Ab (body:=body) (fun i=>(i:Int)) (len:=l.length) (fun i hi=>hs i _ (List.getElem?_eq_getElem hi)) he hn
/-- A loop that stops at the first that is not so. -/
theorem ML{α:Type}{body:Int→Option (Int⊕(Bool⊕(Int×Bool)))}(l:List α)(ok:α→Bool)(hs: ∀(i:Nat) a,l[i]? =some a→body (i:Int)=some (if ok a then .inl ((i+1:Nat):Int)else .inr (.inl false)))(he:body (l.length:Int)=some (.inr (.inr ((l.length:Int),false)))){n:Nat}(hn:l.length<n):loopN body n (0:Int)=some (if l.all ok then .inr ((l.length:Int),false)else .inl false):=by
 have h:=Bl (body:=body) l (fun(_:Unit) a=>if ok a then .inl ()else .inr ()) (fun _ i=>(i:Int)) (fun _=> .inr ((l.length:Int),false)) (fun _=> .inl false) (fun _=>True) (fun i a t ha _=>by
  by_cases c:ok a=true
  ·left; exact⟨(),if_pos c,trivial,by rw[hs i a ha,if_pos c]⟩
  ·right; exact⟨(),if_neg c,by rw[hs i a ha,if_neg c]⟩) (fun _ _=>he) hn (t0:=()) trivial
 have key: ∀l:List α,vC (fun(_:Unit) a=>if ok a then Sum.inl ()else Sum.inr ()) l ()=if l.all ok then .inl ()else .inr ():=by
  intro l
  induction l with
  | nil=>rfl
  | cons a r ih=>
   simp only[vC,List.all_cons]
   by_cases c:ok a=true
   ·rw[if_pos c]; simp only[ih,c,Bool.true_and]
   ·rw[if_neg c]; simp [c]
 refine h.trans ?_
 rw[key l]
 by_cases c:l.all ok=true
 ·rw[if_pos c,if_pos c]
 ·rw[if_neg c,if_neg c]
/-- The same, where a way out is told by a relation. -/
theorem KW{α σ τ ρ κ:Type}{body:σ→Option (σ⊕ρ)}(l:List α)(f:τ→α→τ⊕κ)(enc:τ→Nat→σ)(fin:τ→ρ)(Out:κ→ρ→Prop)(I:τ→Prop)(hs: ∀(i:Nat) a t,l[i]? =some a→I t→(∃t',f t a= .inl t'∧I t'∧body (enc t i)=some (.inl (enc t' (i+1))))∨(∃q r,f t a= .inr q∧body (enc t i)=some (.inr r)∧Out q r))
  (he: ∀t,I t→body (enc t l.length)=some (.inr (fin t))){n:Nat}(hn:l.length<n){t0:τ}(h0:I t0): ∃r,loopN body n (enc t0 0)=some r∧(match vC f l t0 with | .inl t=>r=fin t | .inr q=>Out q r):=by
 have key: ∀(r:List α) (i:Nat) (t:τ) (n:Nat),l.drop i=r→I t→r.length<n→i≤l.length→ ∃x,loopN body n (enc t i)=some x∧(match vC f r t with | .inl t=>x=fin t | .inr q=>Out q x):=by
  intro r
  induction r with
  | nil=>
   intro i t n hr ht hn hi
   obtain⟨m,rfl⟩: ∃m,n=m+1:=⟨n - 1,by simp at hn; omega⟩
   have:i=l.length:=by
    have:=congrArg List.length hr
    simp at this; omega
   subst this
   simp only[loopN,he t ht,vC]
   exact⟨_,rfl,rfl⟩
  | cons a r ih=>
   intro i t n hr ht hn hi
   obtain⟨m,rfl⟩: ∃m,n=m+1:=⟨n - 1,by simp at hn; omega⟩
   have hil:i<l.length:=by
    have:=congrArg List.length hr
    simp at this; omega
   have ha:l[i]? =some a:=by
    have:=congrArg (·[0]?) hr
    simpa using this
   have hr':l.drop (i+1)=r:=by
    have:=congrArg List.tail hr
    simpa using this
   rcases hs i a t ha ht with⟨t',h1,h2,h3⟩ | ⟨q,x,h1,h3,h4⟩
   ·simp only[loopN,h3,vC,h1]
    exact ih (i+1) t' m hr' h2 (by simp at hn; omega) (by omega)
   ·simp only[loopN,h3,vC,h1]
    exact⟨x,rfl,h4⟩
 exact key l 0 t0 n rfl h0 hn (by omega)
/-- All are so, each at its place. -/
def sU{α:Type}(ok:Nat→α→Bool):Nat→List α→Bool
 | _,[]=>true
 | i,a::r=>ok i a&&sU ok (i+1) r
theorem Aa{α:Type}{body:Int→Option (Int⊕(Bool⊕(Int×Bool)))}(l:List α)(ok:Nat→α→Bool)(hs: ∀(i:Nat) a,l[i]? =some a→body (i:Int)=some (if ok i a then .inl ((i+1:Nat):Int)else .inr (.inl false)))(he:body (l.length:Int)=some (.inr (.inr ((l.length:Int),false)))){n:Nat}(hn:l.length<n):loopN body n (0:Int)=some (if sU ok 0 l then .inr ((l.length:Int),false)else .inl false):=by
 have key: ∀(r:List α) (i n:Nat),l.drop i=r→r.length<n→i≤l.length→loopN body n (i:Int)=some (if sU ok i r then .inr ((l.length:Int),false)else .inl false):=by
  intro r
  induction r with
  | nil=>
   intro i n hr hn hi
   obtain⟨m,rfl⟩: ∃m,n=m+1:=⟨n - 1,by simp at hn; omega⟩
   have:i=l.length:=by
    have:=congrArg List.length hr
    simp at this; omega
   subst this
   simp only[loopN,he,sU,if_true]
  | cons a r ih=>
   intro i n hr hn hi
   obtain⟨m,rfl⟩: ∃m,n=m+1:=⟨n - 1,by simp at hn; omega⟩
   have hil:i<l.length:=by
    have:=congrArg List.length hr
    simp at this; omega
   have ha:l[i]? =some a:=by
    have:=congrArg (·[0]?) hr
    simpa using this
   have hr':l.drop (i+1)=r:=by
    have:=congrArg List.tail hr
    simpa using this
   by_cases c:ok i a=true
   ·simp only[loopN,hs i a ha,if_pos c,sU,c,Bool.true_and]
    exact ih (i+1) m hr' (by simp at hn; omega) (by omega)
   ·simp only[loopN,hs i a ha,if_neg c,sU]
    simp [c]
 exact key l 0 n rfl hn (by omega)
/-- The first that is so: its place, or -1. -/
def Ht{α:Type}(p:α→Bool):Nat→List α→Int
 | _,[]=> -1
 | i,a::r=>bif p a then(i:Int)else Ht p (i+1) r
theorem tG{α:Type}(p:α→Bool): ∀(l:List α) (i:Nat),(Ht p i l= -1∧ ∀a∈l,p a=false)∨ ∃k a,Ht p i l=((i+k:Nat):Int)∧l[k]? =some a∧p a=true∧ ∀(j:Nat) b,j<k→l[j]? =some b→p b=false
 | [],i=> .inl ⟨rfl,by simp⟩
 | a::r,i=>by
  unfold Ht
  cases h:p a with
  | true=>exact .inr ⟨0,a,rfl,rfl,h,fun j b hj=>by omega⟩
  | false=>
   rw[cond_false]
   rcases tG p r (i+1)with⟨h1,h2⟩ | ⟨k,b,h1,h2,h3,h4⟩
   ·exact .inl ⟨h1,fun b hb=>by
     rcases List.mem_cons.1 hb with rfl | hb
     ·exact h
     ·exact h2 b hb⟩
   ·refine .inr ⟨k+1,b,by rw[h1]; omega,h2,h3,fun j c hj hc=> ?_⟩
    cases j with
    | zero=>simp only[List.getElem?_cons_zero,Option.some.injEq]at hc; subst hc; exact h
    | succ j=>exact h4 j c (by omega) hc
/-- A loop that looks for the first that is so. -/
theorem Bn{α σ ρ:Type}{body:σ→Option (σ⊕ρ)}(l:List α)(p:α→Bool)(enc:Nat→σ)(out:Nat→ρ)(fin:ρ)(hs: ∀(i:Nat) a,l[i]? =some a→body (enc i)=some (bif p a then .inr (out i)else .inl (enc (i+1))))(he:body (enc l.length)=some (.inr fin)){n:Nat}(hn:l.length<n):
  loopN body n (enc 0)=some (bif decide (Ht p 0 l<0)then fin else out (Ht p 0 l).toNat):=by
 have key: ∀(r:List α) (i n:Nat),l.drop i=r→r.length<n→i≤l.length→loopN body n (enc i)=some (bif decide (Ht p i r<0)then fin else out (Ht p i r).toNat):=by
  intro r
  induction r with
  | nil=>
   intro i n hr hn hi
   obtain⟨m,rfl⟩: ∃m,n=m+1:=⟨n - 1,by simp at hn; omega⟩
   have:i=l.length:=by
    have:=congrArg List.length hr
    simp at this; omega
   subst this
   simp only[loopN,he]; rfl
  | cons a r ih=>
   intro i n hr hn hi
   obtain⟨m,rfl⟩: ∃m,n=m+1:=⟨n - 1,by simp at hn; omega⟩
   have hil:i<l.length:=by
    have:=congrArg List.length hr
    simp at this; omega
   have ha:l[i]? =some a:=by
    have:=congrArg (·[0]?) hr
    simpa using this
   have hr':l.drop (i+1)=r:=by
    have:=congrArg List.tail hr
    simpa using this
   have hf:Ht p i (a::r)=bif p a then(i:Int)else Ht p (i+1) r:=rfl
   rw[hf]
   cases h:p a with
   | true=>
    simp only[loopN,hs i a ha,h,cond_true]
    rw[decide_eq_false (by omega),cond_false,Int.toNat_natCast]
   | false=>
    simp only[loopN,hs i a ha,h,cond_false]
    exact ih (i+1) m hr' (by simp at hn; omega) (by omega)
 exact key l 0 n rfl hn (by omega)
/-- Some place among s, .., s + k - 1 is bad. -/
def FY(bad:Nat→Bool):Nat→Nat→Bool
 | _,0=>false
 | s,k+1=>bad s||FY bad (s+1) k
/-- Some place among 1, .., k is bad. -/
def HS(bad:Nat→Bool):Nat→Bool
 | 0=>false
 | k+1=>bad (k+1)||HS bad k
theorem CA(bad:Nat→Bool): ∀(k s:Nat),FY bad s k=true↔ ∃i,s≤i∧i<s+k∧bad i=true
 | 0,s=>by simp only[FY]; exact⟨nofun,fun⟨i,h1,h2,_⟩=>by omega⟩
 | k+1,s=>by
  simp only[FY,Bool.or_eq_true,CA bad k (s+1)]
  constructor
  ·rintro (h | ⟨i,h1,h2,h3⟩)
   ·exact⟨s,by omega,by omega,h⟩
   ·exact⟨i,by omega,by omega,h3⟩
  ·rintro ⟨i,h1,h2,h3⟩
   by_cases e:i=s
   ·subst e; exact .inl h3
   ·exact .inr ⟨i,by omega,by omega,h3⟩
theorem HI(bad:Nat→Bool): ∀(k:Nat),HS bad k=true↔ ∃i,1≤i∧i<1+k∧bad i=true
 | 0=>by simp only[HS]; exact⟨nofun,fun⟨i,h1,h2,_⟩=>by omega⟩
 | k+1=>by
  simp only[HS,Bool.or_eq_true,HI bad k]
  constructor
  ·rintro (h | ⟨i,h1,h2,h3⟩)
   ·exact⟨k+1,by omega,by omega,h⟩
   ·exact⟨i,by omega,by omega,h3⟩
  ·rintro ⟨i,h1,h2,h3⟩
   by_cases e:i=k+1
   ·subst e; exact .inl h3
   ·exact .inr ⟨i,by omega,by omega,h3⟩
theorem anyUp_dn(bad:Nat→Bool)(k:Nat):FY bad 1 k=HS bad k:=by
 rw[Bool.eq_iff_iff,CA,HI]
theorem MK{σ ρ:Type}{body:σ→Option (σ⊕ρ)}(enc:Nat→σ)(bad:Nat→Bool)(out fin:ρ){len:Nat}: ∀(k s:Nat),s+k=len→(∀i,s≤i→i<len→body (enc i)=some (bif bad i then .inr out else .inl (enc (i+1))))→body (enc len)=some (.inr fin)→ ∀ {n:Nat},k<n→loopN body n (enc s)=some (bif FY bad s k then out else fin)
 | 0,s,hk,hs,he,n,hn=>by
  obtain⟨m,rfl⟩: ∃m,n=m+1:=⟨n - 1,by omega⟩
  obtain rfl:s=len:=by omega
  simp only[loopN,he]; rfl
 | k+1,s,hk,hs,he,n,hn=>by
  obtain⟨m,rfl⟩: ∃m,n=m+1:=⟨n - 1,by omega⟩
  simp only[FY]
  cases h:bad s with
  | true=>simp only[loopN,hs s (by omega) (by omega),h,cond_true]; rfl
  | false=>
   simp only[loopN,hs s (by omega) (by omega),h,cond_false,Bool.false_or]
   exact MK enc bad out fin k (s+1) (by omega) (fun i h1 h2=>hs i (by omega) h2) he (by omega)
theorem Rg{σ ρ:Type}{body:σ→Option (σ⊕ρ)}(enc:Nat→σ)(bad:Nat→Bool)(out fin:ρ): ∀(k:Nat),(∀i,i<k→body (enc (i+1))=some (bif bad (i+1)then .inr out else .inl (enc i)))→body (enc 0)=some (.inr fin)→ ∀ {n:Nat},k<n→loopN body n (enc k)=some (bif HS bad k then out else fin)
 | 0,hs,he,n,hn=>by
  obtain⟨m,rfl⟩: ∃m,n=m+1:=⟨n - 1,by omega⟩
  simp only[loopN,he]; rfl
 | k+1,hs,he,n,hn=>by
  obtain⟨m,rfl⟩: ∃m,n=m+1:=⟨n - 1,by omega⟩
  simp only[HS]
  cases h:bad (k+1)with
  | true=>simp only[loopN,hs k (by omega),h,cond_true]; rfl
  | false=>
   simp only[loopN,hs k (by omega),h,cond_false,Bool.false_or]
   exact Rg enc bad out fin k (fun i h1=>hs i (by omega)) he (by omega)
theorem GX{i:Nat}(h:i<4611686018427387904):IntKind.wrap .i64 (((i+1:Nat):Int) - 1)=(i:Int):=by
 rw[wrap_i64 (by omega) (by omega)]; omega
theorem lL{α:Type}(ok:Nat→α→Bool): ∀(l:List α) (i:Nat),sU ok i l=true↔ ∀(j:Nat) a,l[j]? =some a→ok (i+j) a=true
 | [],i=>by simp [sU]
 | a::r,i=>by
  simp only[sU,Bool.and_eq_true,lL ok r (i+1)]
  constructor
  ·rintro ⟨h1,h2⟩ j b hb
   cases j with
   | zero=>simp only[List.getElem?_cons_zero,Option.some.injEq]at hb; subst hb; exact h1
   | succ j=>have:=h2 j b hb; rwa[show i+1+j=i+(j+1)by omega]at this
  ·intro h
   refine⟨h 0 a rfl,fun j b hb=> ?_⟩
   have:=h (j+1) b hb
   rwa[show i+(j+1)=i+1+j by omega]at this
end Go.Own.Q
