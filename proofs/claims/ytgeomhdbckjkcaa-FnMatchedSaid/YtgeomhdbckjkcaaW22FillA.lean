/- Lemmas. No conditions. -/
import Derived.Test.YtgeomhdbckjkcaaW22Draw7
set_option linter.unusedVariables false
set_option linter.unusedSimpArgs false
set_option linter.unnecessarySimpa false
namespace Go.Own.Q
open Go Go.Proofs
theorem Mh{d:Nat}{p:aA}{t:aB}{M:List aG}(hx:xok (d+1) true p=true)(h:mt (d+1) p t=some M):
  (p.f0=1∧t.f0=1∧t.f1=p.f1∧M=[]∧p.f3=[])∨(p.f0=2∧t.f0=2∧t.f2=p.f2∧M=[]∧p.f3=[])∨(p.f0=3∧p.f2=[95]∧M=[])∨(p.f0=3∧p.f2≠[95]∧M=[.mk p.f2 t.f0 t.f1 t.f2 t.f3])∨
  ((p.f0=4∨p.f0=5)∧t.f0=p.f0∧t.f3.length=p.f3.length∧mtL (mt d) p.f3 t.f3=some M)∨
  (p.f0=6∧t.f0=5∧2≤p.f3.length∧p.f3.length - 1≤t.f3.length∧ ∃x A B,p.f3[p.f3.length - 1]? =some x∧mtL (mt d) (p.f3.take (p.f3.length - 1)) (t.f3.take (p.f3.length - 1))=some A∧mt d x (sG (t.f3.drop (p.f3.length - 1)))=some B∧M=A++B):=by
 obtain⟨hk,hs⟩:=rR hx
 have h0:AH p.f0 p.f1 p.f2 p.f3.length=true:=by
  have:=hs
  rw[←Ig]at this
  simp only[Bool.and_eq_true]at this
  exact this.2.2
 unfold mt at h
 by_cases h1:p.f0=1
 ·rw[decide_eq_true h1,cond_true]at h
  rw[h1]at h0
  simp only[AH,decide_true,cond_true,Bool.and_eq_true,decide_eq_true_eq]at h0
  cases hq:decide (t.f0=1)&&decide (t.f1=p.f1)with
  | false=>rw[hq]at h; cases h
  | true=>
   rw[hq]at h; cases h
   simp only[Bool.and_eq_true,decide_eq_true_eq]at hq
   exact .inl ⟨h1,hq.1,hq.2,rfl,List.length_eq_zero_iff.1 (by omega)⟩
 rw[decide_eq_false h1,cond_false]at h
 by_cases h2:p.f0=2
 ·rw[decide_eq_true h2,cond_true]at h
  rw[h2]at h0
  simp only[AH,decide_eq_false (show ¬ (2:Int)=1 by omega),decide_true,cond_true,cond_false,Bool.and_eq_true,decide_eq_true_eq]at h0
  cases hq:decide (t.f0=2)&&decide (t.f2=p.f2)with
  | false=>rw[hq]at h; cases h
  | true=>
   rw[hq]at h; cases h
   simp only[Bool.and_eq_true,decide_eq_true_eq]at hq
   exact .inr (.inl ⟨h2,hq.1,hq.2,rfl,List.length_eq_zero_iff.1 (by omega)⟩)
 rw[decide_eq_false h2,cond_false]at h
 by_cases h3:p.f0=3
 ·rw[decide_eq_true h3,cond_true]at h
  by_cases hq:p.f2=[95]
  ·rw[decide_eq_true hq]at h
   exact .inr (.inr (.inl ⟨h3,hq,by simpa using h.symm⟩))
  ·rw[decide_eq_false hq]at h
   exact .inr (.inr (.inr (.inl ⟨h3,hq,by simpa using h.symm⟩)))
 rw[decide_eq_false h3,cond_false]at h
 refine .inr (.inr (.inr (.inr ?_)))
 by_cases h4:p.f0=4
 ·rw[decide_eq_true h4,cond_true]at h
  cases hq:decide (t.f0=4)&&decide ((t.f3.length:Int)=(p.f3.length:Int))with
  | false=>rw[hq]at h; cases h
  | true=>
   rw[hq]at h
   simp only[Bool.and_eq_true,decide_eq_true_eq]at hq
   exact .inl ⟨.inl h4,by omega,by omega,h⟩
 rw[decide_eq_false h4,cond_false]at h
 by_cases h5:p.f0=5
 ·rw[decide_eq_true h5,cond_true]at h
  cases hq:decide (t.f0=5)&&decide ((t.f3.length:Int)=(p.f3.length:Int))with
  | false=>rw[hq]at h; cases h
  | true=>
   rw[hq]at h
   simp only[Bool.and_eq_true,decide_eq_true_eq]at hq
   exact .inl ⟨.inr h5,by omega,by omega,h⟩
 rw[decide_eq_false h5,cond_false]at h
 obtain⟨h6,hne⟩:=Av hs h1 h2 h3 h4 h5
 cases hq:decide (t.f0=5)&& !decide ((t.f3.length:Int)<(p.f3.length:Int) - 1)with
 | false=>rw[hq]at h; cases h
 | true=>
  rw[hq,cond_true]at h
  simp only[Bool.and_eq_true,decide_eq_true_eq,Bool.not_eq_true',decide_eq_false_iff_not]at hq
  obtain⟨A,hA,h⟩:=Option.bind_eq_some_iff.1 h
  cases hxl:p.f3[p.f3.length - 1]? with
  | none=>rw[hxl]at h; cases h
  | some x=>
   rw[hxl]at h
   obtain⟨B,hB,e⟩:=Option.map_eq_some_iff.1 h
   exact .inr ⟨h6,hq.1,by omega,by omega,x,A,B,rfl,hA,hB,e.symm⟩
theorem El{α:Type}{l:List α}{x:α}(h:l[l.length - 1]? =some x):l=l.take (l.length - 1)++[x]:=by
 have hi:=gY h
 have:=lC h
 rw[show l.length - 1+1=l.length by omega,List.take_length]at this
 exact this.symm
theorem CF{f:Mt}: ∀ {l:List aA} {ts:List aB} {M:List aG},(∀x∈l, ∀t M,f x t=some M→M.map (·.f0)=jJ x)→mtL f l ts=some M→M.map (·.f0)=eS l
 | [],ts,M,_,h=>by cases h; rfl
 | x::r,[],M,_,h=>by cases h
 | x::r,t::ts,M,hf,h=>by
  obtain⟨A,h1,h⟩:=Option.bind_eq_some_iff.1 h
  obtain⟨B,h2,e⟩:=Option.map_eq_some_iff.1 h
  subst e
  rw[List.map_append,hf x (List.mem_cons_self ..) t A h1,CF (fun y hy=>hf y (List.mem_cons_of_mem _ hy)) h2]
  rfl
theorem Kk: ∀(d:Nat) (p:aA) (t:aB) (M:List aG),xok d true p=true→mt d p t=some M→M.map (·.f0)=jJ p
 | 0,p,t,M,hx,_=>by cases hx
 | d+1,p,t,M,hx,h=>by
  have hk:=(rR hx).1
  have ih: ∀x∈p.f3, ∀t M,mt d x t=some M→M.map (·.f0)=jJ x:=fun x hm t M h=>Kk d x t M (List.all_eq_true.1 hk x hm) h
  rw[Iy]
  rcases Mh hx h with⟨e,_,_,rfl,e3⟩ | ⟨e,_,_,rfl,e3⟩ | ⟨e,e2,rfl⟩ | ⟨e,e2,rfl⟩ | ⟨e,_,_,hL⟩ | ⟨e,_,_,_,x,A,B,hxl,hA,hB,rfl⟩
  ·rw[decide_eq_false (by omega),e3]; rfl
  ·rw[decide_eq_false (by omega),e3]; rfl
  ·rw[decide_eq_true e,decide_eq_true e2]; rfl
  ·rw[decide_eq_true e,decide_eq_false e2]; rfl
  ·rw[decide_eq_false (by omega),cond_false]
   exact CF ih hL
  ·rw[decide_eq_false (by omega),cond_false,El hxl,xO,By,List.map_append,CF (fun y hy=>ih y (List.mem_of_mem_take hy)) hA,ih x (List.mem_of_getElem? hxl) _ B hB]
def sP(b:aG):aB:= .mk b.f1 b.f2 b.f3 b.f4
theorem Ki: ∀ {d e:Nat} {x:aB},d≤e→okD d x=true→okD e x=true
 | 0,e,x,_,h=>by cases h
 | d+1,0,x,hd,h=>by omega
 | d+1,e+1,x,hd,h=>by
  simp only[okD,Bool.and_eq_true]at h ⊢
  exact⟨h.1,List.all_eq_true.2 fun y hy=>Ki (by omega) (List.all_eq_true.1 h.2 y hy)⟩
theorem rW{e:Nat}{t:aB}(h:okD e t=true):pH t.f0 t.f1 t.f2 t.f3.length=true∧ ∀x∈t.f3,okD (e - 1) x=true:=by
 cases e with
 | zero=>cases h
 | succ e=>
  simp only[okD,Bool.and_eq_true]at h
  exact⟨h.1,fun x hx=>List.all_eq_true.1 h.2 x hx⟩
theorem sh1{e:Nat}{t:aB}(h:okD e t=true)(hk:t.f0=1):t= .mk 1 t.f1 [] []:=by
 have h1:=(rW h).1
 obtain⟨k,m,s,l⟩:=t
 have hk:k=1:=hk
 subst hk
 have h1:pH 1 m s l.length=true:=h1
 simp only[pH,decide_true,cond_true,Bool.and_eq_true,decide_eq_true_eq]at h1
 have hs:s=[]:=h1.1.2
 have hl:l=[]:=List.length_eq_zero_iff.1 (by omega)
 subst hs; subst hl; rfl
theorem sh2{e:Nat}{t:aB}(h:okD e t=true)(hk:t.f0=2):t= .mk 2 0 t.f2 []:=by
 have h1:=(rW h).1
 obtain⟨k,m,s,l⟩:=t
 have hk:k=2:=hk
 subst hk
 have h1:pH 2 m s l.length=true:=h1
 simp only[pH,decide_eq_false (show ¬ (2:Int)=1 by omega),decide_true,cond_true,cond_false,Bool.and_eq_true,decide_eq_true_eq]at h1
 have hs:m=0:=h1.1.2
 have hl:l=[]:=List.length_eq_zero_iff.1 (by omega)
 subst hs; subst hl; rfl
theorem sh4{e:Nat}{t:aB}(h:okD e t=true)(hk:t.f0=4):t= .mk 4 0 [] t.f3:=by
 have h1:=(rW h).1
 obtain⟨k,m,s,l⟩:=t
 have hk:k=4:=hk
 subst hk
 have h1:pH 4 m s l.length=true:=h1
 simp only[pH,decide_eq_false (show ¬ (4:Int)=1 by omega),decide_eq_false (show ¬ (4:Int)=2 by omega),decide_eq_false (show ¬ (4:Int)=3 by omega),decide_true,cond_true,cond_false,Bool.and_eq_true,decide_eq_true_eq]at h1
 obtain⟨⟨hm,hs⟩,_⟩:=h1
 subst hs; subst hm; rfl
theorem sh5{e:Nat}{t:aB}(h:okD e t=true)(hk:t.f0=5):t= .mk 5 0 [] t.f3∧t.f3.length≤60:=by
 have h1:=(rW h).1
 obtain⟨k,m,s,l⟩:=t
 have hk:k=5:=hk
 subst hk
 have h1:pH 5 m s l.length=true:=h1
 simp only[pH,decide_eq_false (show ¬ (5:Int)=1 by omega),decide_eq_false (show ¬ (5:Int)=2 by omega),decide_eq_false (show ¬ (5:Int)=3 by omega),decide_eq_false (show ¬ (5:Int)=4 by omega),decide_true,cond_true,cond_false,Bool.and_eq_true,decide_eq_true_eq]at h1
 obtain⟨⟨hm,hs⟩,hl⟩:=h1
 subst hs; subst hm
 exact⟨rfl,by show l.length≤60; omega⟩
theorem ND{e k:Nat}{t:aB}(h:okD e t=true)(hk:t.f0=5):okD e (sG (t.f3.drop k))=true:=by
 have h1:=(sh5 h hk).2
 have h2:=(rW h).2
 cases e with
 | zero=>cases h
 | succ e=>
  simp only[okD,Bool.and_eq_true]
  refine⟨?_,List.all_eq_true.2 fun x hx=>h2 x (List.mem_of_mem_drop hx)⟩
  show pH 5 0 [] (t.f3.drop k).length=true
  simp only[pH,List.length_drop]
  have:decide (((t.f3.length - k:Nat):Int)≤60)=true:=decide_eq_true (by omega)
  rw[this]; rfl
theorem Zh(t:aB):cnt t=1+rG t.f3:=by cases t; simp only[cnt]; rfl
theorem Qg{x:aB}: ∀ {l:List aB},x∈l→cnt x≤rG l
 | y::r,h=>by
  rw[nC]
  rcases List.mem_cons.1 h with rfl | h
  ·omega
  ·have:=Qg h; omega
theorem Ha: ∀(l:List aB) (k:Nat),rG (l.drop k)≤rG l
 | [],k=>by simp
 | x::r,0=>Nat.le_refl _
 | x::r,k+1=>by have:=Ha r k; rw[List.drop_succ_cons,nC]; omega
def BOk(e c:Nat)(M:List aG):Prop:= ∀b∈M,okD e (sP b)=true∧cnt (sP b)≤c
theorem Iq{f:Mt}{e:Nat}: ∀ {l:List aA} {ts:List aB} {M:List aG} {c:Nat},(∀x∈l, ∀t M,okD e t=true→f x t=some M→BOk e (cnt t) M)→(∀t∈ts,okD e t=true)→rG ts≤c→mtL f l ts=some M→BOk e c M
 | [],ts,M,c,_,_,_,h=>by cases h; exact fun b hb=>by cases hb
 | x::r,[],M,c,_,_,_,h=>by cases h
 | x::r,t::ts,M,c,hf,ht,hc,h=>by
  obtain⟨A,h1,h⟩:=Option.bind_eq_some_iff.1 h
  obtain⟨B,h2,e⟩:=Option.map_eq_some_iff.1 h
  subst e
  rw[nC]at hc
  intro b hb
  rcases List.mem_append.1 hb with hb | hb
  ·have:=hf x (List.mem_cons_self ..) t A (ht t (List.mem_cons_self ..)) h1 b hb
   exact⟨this.1,by omega⟩
  ·exact Iq (fun y hy=>hf y (List.mem_cons_of_mem _ hy)) (fun y hy=>ht y (List.mem_cons_of_mem _ hy)) (by omega) h2 b hb
theorem Qz: ∀(d e:Nat) (p:aA) (t:aB) (M:List aG),xok d true p=true→okD e t=true→mt d p t=some M→BOk e (cnt t) M
 | 0,e,p,t,M,hx,_,_=>by cases hx
 | d+1,e,p,t,M,hx,ht,h=>by
  have hk:=(rR hx).1
  have ih: ∀x∈p.f3, ∀t M,okD e t=true→mt d x t=some M→BOk e (cnt t) M:=fun x hm t M ht h=>Qz d e x t M (List.all_eq_true.1 hk x hm) ht h
  have hkd: ∀x∈t.f3,okD e x=true:=fun x hx=>Ki (Nat.sub_le _ _) ((rW ht).2 x hx)
  have hc:=Zh t
  rcases Mh hx h with⟨e,_,_,rfl,e3⟩ | ⟨e,_,_,rfl,e3⟩ | ⟨e,e2,rfl⟩ | ⟨e,e2,rfl⟩ | ⟨e,_,_,hL⟩ | ⟨_,e5,_,_,x,A,B,hxl,hA,hB,rfl⟩
  ·exact fun b hb=>by cases hb
  ·exact fun b hb=>by cases hb
  ·exact fun b hb=>by cases hb
  ·intro b hb
   rw[List.mem_singleton.1 hb]
   have et:sP (.mk p.f2 t.f0 t.f1 t.f2 t.f3)=t:=aU t
   rw[et]
   exact⟨ht,Nat.le_refl _⟩
  ·exact Iq ih hkd (by omega) hL
  ·intro b hb
   rcases List.mem_append.1 hb with hb | hb
   ·refine Iq (c:=cnt t) (fun y hy=>ih y (List.mem_of_mem_take hy)) (fun y hy=>hkd y (List.mem_of_mem_take hy)) ?_ hA b hb
    have h1: ∀(l:List aB) (k:Nat),rG (l.take k)≤rG l:=fun l=>by
     induction l with
     | nil=>intro k; simp
     | cons x r ihl=>
      intro k
      cases k with
      | zero=>simp [rG]
      | succ k=>have:=ihl k; rw[List.take_succ_cons,nC,nC]; omega
    have:=h1 t.f3 (p.f3.length - 1)
    omega
   ·have:=ih x (List.mem_of_getElem? hxl) _ B (ND ht e5) hB b hb
    refine⟨this.1,Nat.le_trans this.2 ?_⟩
    have h2:cnt (sG (t.f3.drop (p.f3.length - 1)))=1+rG (t.f3.drop (p.f3.length - 1)):=Zh _
    have:=Ha t.f3 (p.f3.length - 1)
    omega
/-! filling -/
abbrev Ft:=aA→Option aB
def flL(f:Ft):List aA→Option (List aB)
 | []=>some []
 | x::r=>(f x).bind fun t=>(flL f r).map (t:: ·)
def ML(L:List aB):Option aB:=match L[L.length - 1]? with
 | some x=>bif decide (x.f0=5)then some (.mk 5 0 [] (L.take (L.length - 1)++x.f3))else none
 | none=>none
def fl(f:List UInt8→Option aB):Nat→Ft
 | 0,_=>none
 | d+1,p=>bif decide (p.f0=1)then some (.mk 1 p.f1 [] [])else bif decide (p.f0=2)then some (.mk 2 0 p.f2 [])else bif decide (p.f0=3)then f p.f2
  else(flL (fl f d) p.f3).bind fun L=>bif decide (p.f0=4)then some (.mk 4 0 [] L)else bif decide (p.f0=5)then some (.mk 5 0 [] L)else ML L
theorem Mi{f:Mt}{g:Ft}{P:aG→Prop}: ∀ {l:List aA} {ts:List aB} {M:List aG},(∀x∈l, ∀t∈ts, ∀M,f x t=some M→(∀b∈M,P b)→g x=none∨g x=some t)→mtL f l ts=some M→(∀b∈M,P b)→flL g l=none∨flL g l=some (ts.take l.length)
 | [],ts,M,_,_,_=> .inr (by simp [flL])
 | x::r,[],M,_,h,_=>by cases h
 | x::r,t::ts,M,hf,h,hP=>by
  obtain⟨A,h1,h⟩:=Option.bind_eq_some_iff.1 h
  obtain⟨B,h2,e⟩:=Option.map_eq_some_iff.1 h
  subst e
  have q1:=hf x (List.mem_cons_self ..) t (List.mem_cons_self ..) A h1 fun b hb=>hP b (List.mem_append_left _ hb)
  have q2:=Mi (fun y hy t ht=>hf y (List.mem_cons_of_mem _ hy) t (List.mem_cons_of_mem _ ht)) h2 fun b hb=>hP b (List.mem_append_right _ hb)
  unfold flL
  rcases q1 with q1 | q1
  ·rw[q1]; exact .inl rfl
  ·rw[q1]
   rcases q2 with q2 | q2
   ·rw[q2]; exact .inl rfl
   ·rw[q2]; exact .inr rfl
theorem TG(f:List UInt8→Option aB)(h95:f [95]=none): ∀(d e:Nat) (p:aA) (t:aB) (M:List aG),xok d true p=true→okD e t=true→mt d p t=some M→(∀b∈M,f b.f0=some (sP b))→fl f d p=none∨fl f d p=some t
 | 0,e,p,t,M,hx,_,_,_=>by cases hx
 | d+1,e,p,t,M,hx,ht,h,hP=>by
  have hk:=(rR hx).1
  have hkd:=(rW ht).2
  have ih: ∀x∈p.f3, ∀y∈t.f3, ∀M,mt d x y=some M→(∀b∈M,f b.f0=some (sP b))→fl f d x=none∨fl f d x=some y:=fun x hm y htm M h hP=>TG f h95 d (e - 1) x y M (List.all_eq_true.1 hk x hm) (hkd y htm) h hP
  unfold fl
  rcases Mh hx h with⟨e1,e2,e3,rfl,_⟩ | ⟨e1,e2,e3,rfl,_⟩ | ⟨e1,e2,rfl⟩ | ⟨e1,e2,rfl⟩ | ⟨e1,e2,e3,hL⟩ | ⟨e1,e5,e6,e7,x,A,B,hxl,hA,hB,rfl⟩
  ·rw[decide_eq_true e1]
   right
   rw[sh1 ht e2, ←e3]; rfl
  ·rw[decide_eq_false (by omega),decide_eq_true e1]
   right
   rw[sh2 ht e2, ←e3]; rfl
  ·rw[decide_eq_false (by omega),decide_eq_false (by omega),decide_eq_true e1,e2]
   left; exact h95
  ·rw[decide_eq_false (by omega),decide_eq_false (by omega),decide_eq_true e1]
   right
   have:=hP _ (List.mem_singleton.2 rfl)
   have et:sP (.mk p.f2 t.f0 t.f1 t.f2 t.f3)=t:=aU t
   rw[et]at this
   exact this
  ·rw[decide_eq_false (by omega),decide_eq_false (by omega),decide_eq_false (by omega)]
   simp only[cond_false]
   rcases Mi ih hL hP with q | q
   ·rw[q]; left; rfl
   ·rw[q, ←e3,List.take_length]
    right
    rcases e1 with e1 | e1
    ·rw[decide_eq_true e1]
     exact congrArg some (sh4 ht (e2.trans e1)).symm
    ·rw[decide_eq_false (by omega),decide_eq_true e1]
     exact congrArg some (sh5 ht (e2.trans e1)).1.symm
  ·rw[decide_eq_false (by omega),decide_eq_false (by omega),decide_eq_false (by omega)]
   simp only[cond_false]
   have hapL: ∀(a b:List aA),flL (fl f d) (a++b)=(flL (fl f d) a).bind fun A=>(flL (fl f d) b).map (A++ ·):=fun a=>by
    induction a with
    | nil=>intro b; cases h:flL (fl f d) b<;>simp [flL,h]
    | cons x r ihl=>
     intro b
     simp only[List.cons_append,flL,ihl]
     cases fl f d x with
     | none=>rfl
     | some t=>
      cases flL (fl f d) r with
      | none=>rfl
      | some A=>cases flL (fl f d) b<;>rfl
   have hq:flL (fl f d) p.f3=_:=(congrArg _ (El hxl)).trans (hapL _ _)
   have q1:=Mi (fun y hy z hz=>ih y (List.mem_of_mem_take hy) z (List.mem_of_mem_take hz)) hA fun b hb=>hP b (List.mem_append_left _ hb)
   have q2:=TG f h95 d e x _ B (List.all_eq_true.1 hk x (List.mem_of_getElem? hxl)) (ND ht e5) hB fun b hb=>hP b (List.mem_append_right _ hb)
   rw[hq]
   rcases q1 with q1 | q1
   ·rw[q1]; left; rfl
   ·rw[q1]
    rcases q2 with q2 | q2
    ·left; simp only[flL,q2,Option.bind_some,Option.bind_none,Option.map_none]
    ·right
     have hlen:(p.f3.take (p.f3.length - 1)).length=p.f3.length - 1:=by rw[List.length_take]; omega
     rw[hlen,List.take_take,Nat.min_self]
     simp only[flL,q2,Option.bind_some,Option.map_some]
     rw[decide_eq_false (show ¬ p.f0=4 by omega),decide_eq_false (show ¬ p.f0=5 by omega)]
     simp only[cond_false]
     unfold ML
     have hl2:(t.f3.take (p.f3.length - 1)++[sG (t.f3.drop (p.f3.length - 1))]).length - 1=p.f3.length - 1:=by
      simp only[List.length_append,List.length_take,List.length_singleton]; omega
     have hl3:(t.f3.take (p.f3.length - 1)).length=p.f3.length - 1:=by rw[List.length_take]; omega
     rw[hl2]
     rw[List.getElem?_append_right (by omega),hl3,Nat.sub_self]
     simp only[List.getElem?_cons_zero]
     have h5:(sG (t.f3.drop (p.f3.length - 1))).f0=5:=rfl
     rw[decide_eq_true h5,cond_true,List.take_append_of_le_length (by omega),List.take_take,Nat.min_self]
     have h6:(sG (t.f3.drop (p.f3.length - 1))).f3=t.f3.drop (p.f3.length - 1):=rfl
     rw[h6,List.take_append_drop]
     exact congrArg some (sh5 ht e5).1.symm
end Go.Own.Q
