/- Two codes: are they the same? Both say so alike. No conditions. -/
import Derived.Test.YtgeomhdbckjkcaaW24EncInj
set_option linter.unusedVariables false
set_option linter.unusedSimpArgs false
set_option linter.unnecessarySimpa false
namespace Go.Own.Q
open Go Go.Proofs
theorem ND{α:Type}(L M:List α)(hl:L.length=M.length){body:Int→Option (Int⊕(Bool⊕(Int×Bool)))}{n:Nat}
  (hs: ∀(i:Nat) x y,L[i]? =some x→M[i]? =some y→ ∃s:Bool,body (i:Int)=some (bif !s then .inr (.inl false)else .inl ((i+1:Nat):Int))∧(s=true↔x=y))
  (he:body (L.length:Int)=some (.inr (.inr ((L.length:Int),false))))(hn:L.length<n):
  ∃s:Bool,loopN body n (0:Int)=some (bif s then .inr ((L.length:Int),false)else .inl false)∧(s=true↔L=M):=by
 have key: ∀(m i n:Nat),i+m=L.length→m<n→ ∃s:Bool,loopN body n (i:Int)=some (bif s then .inr ((L.length:Int),false)else .inl false)∧(s=true↔L.drop i=M.drop i):=by
  intro m
  induction m with
  | zero=>
   intro i n hi hn
   obtain⟨n,rfl⟩: ∃k,n=k+1:=⟨n - 1,by omega⟩
   have:i=L.length:=by omega
   subst this
   refine⟨true, ?_, ?_⟩
   ·unfold loopN; rw[he]; rfl
   ·rw[List.drop_length,hl,List.drop_length]; simp
  | succ m ih=>
   intro i n hi hn
   obtain⟨n,rfl⟩: ∃k,n=k+1:=⟨n - 1,by omega⟩
   have hi1:i<L.length:=by omega
   have hi2:i<M.length:=by omega
   obtain⟨s,h1,h2⟩:=hs i L[i] M[i] (List.getElem?_eq_getElem hi1) (List.getElem?_eq_getElem hi2)
   rw[List.drop_eq_getElem_cons hi1,List.drop_eq_getElem_cons hi2]
   unfold loopN
   rw[h1]
   cases s with
   | false=>
    refine⟨false,rfl, ?_⟩
    simp only[List.cons.injEq]
    exact⟨(fun h=>nomatch h),fun h=>by have:=h2.2 h.1; cases this⟩
   | true=>
    obtain⟨t,t1,t2⟩:=ih (i+1) n (by omega) (by omega)
    refine⟨t,t1, ?_⟩
    rw[t2]
    simp only[List.cons.injEq,h2.1 rfl,true_and]
 obtain⟨s,h1,h2⟩:=key L.length 0 n (by omega) hn
 exact⟨s,h1,by simpa using h2⟩
/-- It says whether so. -/
def gQ(o:Option Bool)(p:Prop):Prop:= ∃s:Bool,o=some s∧(s=true↔p)
theorem gQ.of{o:Option Bool}{s:Bool}{p:Prop}(h:o=some s)(h2:s=true↔p):gQ o p:=⟨s,h,h2⟩
theorem gQ.iff{o:Option Bool}{p q:Prop}(h:gQ o p)(e:p↔q):gQ o q:=by
 obtain⟨s,h1,h2⟩:=h
 exact⟨s,h1,h2.trans e⟩
theorem gQ.eq{o o':Option Bool}{p:Prop}(h:gQ o p)(h':gQ o' p): ∃s,o=some s∧o'=some s∧(s=true↔p):=by
 obtain⟨s,h1,h2⟩:=h
 obtain⟨t,t1,t2⟩:=h'
 have:s=t:=Bool.eq_iff_iff.2 (h2.trans t2.symm)
 subst this
 exact⟨s,h1,t1,h2⟩
/-- The loop, and what comes of it. -/
theorem lD{α:Type}(L M:List α){body:Int→Option (Int⊕(Bool⊕(Int×Bool)))}{n:Nat}(hl:L.length=M.length)
  (hs: ∀(i:Nat) x y,L[i]? =some x→M[i]? =some y→ ∃s:Bool,body (i:Int)=some (bif !s then .inr (.inl false)else .inl ((i+1:Nat):Int))∧(s=true↔x=y))
  (he:body (L.length:Int)=some (.inr (.inr ((L.length:Int),false))))(hn:L.length<n){f:Bool⊕(Int×Bool)→Option Bool}{o:Option Bool}{p:Prop}(hf:f (.inl false)=some false)(hr:f (.inr ((L.length:Int),false))=o)(ho:gQ o p):
  gQ ((loopN body n (0:Int)).bind f) (L=M∧p):=by
 obtain⟨s,h1,h2⟩:=ND L M hl hs he hn
 rw[h1,Option.bind_some]
 cases s with
 | false=>exact⟨false,hf,⟨(fun h=>nomatch h),fun h=>h2.2 h.1⟩⟩
 | true=>
  rw[cond_true,hr]
  exact ho.iff ⟨fun h=>⟨h2.1 rfl,h⟩,fun h=>h.2⟩
theorem mV:gQ (some true) True:=⟨true,rfl,by simp⟩
theorem Se{c:Bool}{o:Option Bool}{p q:Prop}(h:gQ o q)(e:c=true↔ ¬ p):gQ (bif c then some false else o) (p∧q):=by
 cases c with
 | true=>exact⟨false,rfl,⟨(fun h=>nomatch h),fun h=>absurd h.1 (e.1 rfl)⟩⟩
 | false=>
  have hp:p:=Classical.byContradiction fun hp=>by have:=e.2 hp; cases this
  exact h.iff ⟨fun h=>⟨hp,h⟩,fun h=>h.2⟩
theorem rF{c:Bool}{o:Option Bool}{p q:Prop}(h:p→gQ o q)(e:c=true↔p):gQ (bif c then o else some false) (p∧q):=by
 cases c with
 | false=>exact⟨false,rfl,⟨(fun h=>nomatch h),fun h=>e.2 h.1⟩⟩
 | true=>exact(h (e.1 rfl)).iff ⟨fun h=>⟨e.1 rfl,h⟩,fun h=>h.2⟩
theorem oN{o:Option Bool}{p:Prop}{f:Bool→Option Bool}(h:gQ o p)(hf: ∀c,f c=some c):gQ (o.bind f) p:=by
 obtain⟨s,rfl,h2⟩:=h
 exact⟨s,hf s,h2⟩
theorem BN{α:Type}{a b:List α}:(decide ((a.length:Int)=(b.length:Int)))=true↔a.length=b.length:=by
 rw[decide_eq_true_eq]; omega
/-- A test ahead of the loop: the lengths. -/
theorem xE{α:Type}{a b:List α}{o:Option Bool}{q:Prop}(h:a.length=b.length→gQ o (a=b∧q)):gQ (bif !decide ((a.length:Int)=(b.length:Int))then some false else o) (a=b∧q):=by
 by_cases e:a.length=b.length
 ·rw[BN.2 e]; exact h e
 ·rw[decide_eq_false (by omega)]
  exact⟨false,rfl,⟨(fun h=>nomatch h),fun h=>absurd (congrArg List.length h.1) e⟩⟩
theorem MU(x y:aF):(decide (x.f0=y.f0)&&(decide (x.f1=y.f1)&&(decide (x.f2=y.f2)&&(decide (x.f3=y.f3)&&true))))=true↔x=y:=by
 simp only[Bool.and_eq_true,decide_eq_true_eq,and_true]
 cases x; cases y
 simp only[aF.mk.injEq]
theorem Iz{n:Nat}(a b:List aF)(hn:a.length<n)(hn2:n≤1099511627776):gQ (fH n a b) (a=b):=by
 unfold fH
 refine(xE fun hl=>lD a b hl (fun i x y hx hy=>⟨_, ?_,MU x y⟩) ?_ hn rfl rfl mV).iff (by simp)
 ·have:=cH hx
  simp only[fK,cW hx,cond_true,cQ,hx,hy,Option.bind_some,aV (show i<4611686018427387904 by omega)]
  exact(nV _ _ _)
 ·simp only[fK,aQ,cond_false]
theorem Mu{n:Nat}(x y:aG)(hn:x.f3.length<n)(hn2:n≤1099511627776):gQ (gO n x.f0 x.f1 x.f2 x.f3 y.f0 y.f1 y.f2 y.f3) (x=y):=by
 unfold gO
 refine(oN (rF (fun _=>rF (fun _=>rF (fun _=>oN (Iz _ _ hn hn2) fun _=>rfl) decide_eq_true_iff) decide_eq_true_iff) decide_eq_true_iff) fun _=>rfl).iff ?_
 cases x; cases y
 simp only[aG.mk.injEq]
theorem De{n:Nat}(x y:aG)(hn:x.f3.length<n)(hn2:n≤1099511627776):gQ (iJ n x.f0 x.f1 x.f2 x.f3 y.f0 y.f1 y.f2 y.f3) (x=y):=by
 unfold iJ
 have e: ∀ {a b:List UInt8} {c d e f:Int} {g h:List aF} {o:Option Bool},(g.length=h.length→gQ o (g=h))→gQ ((bif !decide (a=b)then some true else bif !decide (c=d)then some true else bif !decide (e=f)then some true else some (!decide ((g.length:Int)=(h.length:Int)))).bind fun v=>bif v then some false else o) (a=b∧c=d∧e=f∧g=h):=fun {a b c d e f g h o} ho=>by
  by_cases h1:a=b
  ·rw[decide_eq_true h1]
   by_cases h2:c=d
   ·rw[decide_eq_true h2]
    by_cases h3:e=f
    ·rw[decide_eq_true h3]
     by_cases h4:g.length=h.length
     ·rw[BN.2 h4]
      exact(ho h4).iff (by simp [h1,h2,h3])
     ·rw[decide_eq_false (by omega)]
      exact⟨false,rfl,by simp; intro _ _ _ h; exact h4 (congrArg List.length h)⟩
    ·rw[decide_eq_false h3]; exact⟨false,rfl,by simp [h3]⟩
   ·rw[decide_eq_false h2]; exact⟨false,rfl,by simp [h2]⟩
  ·rw[decide_eq_false h1]; exact⟨false,rfl,by simp [h1]⟩
 refine(e fun hl=>(lD x.f3 y.f3 hl (fun i a b hx hy=>⟨_, ?_,MU a b⟩) ?_ hn rfl rfl mV).iff (by simp)).iff ?_
 ·have:=cH hx
  simp only[gZ,cW hx,cond_true,cQ,hx,hy,Option.bind_some,aV (show i<4611686018427387904 by omega)]
  exact(nV _ _ _)
 ·simp only[gZ,aQ,cond_false]
 ·cases x; cases y
  simp only[aG.mk.injEq]
end Go.Own.Q
