/- What a reader answers, and readers one behind the other. No conditions. -/
import Derived.Test.YtjfgchodolnmcaaW32GetEnc
set_option linter.unusedVariables false
set_option linter.unusedSimpArgs false
set_option linter.unnecessarySimpa false
namespace Go.Own.Q
open Go Go.Proofs

/-- A reader's answer v, a, b from the place p on, where X is what it should read: as X says, or bad. -/
def Ans{α:Type}(X:Option (α×Nat))(p L:Nat)(bad:Bool)(ill:Prop)(m:Nat)(v:α)(a:Nat)(b:Bool):Prop:=
  p≤a∧a≤L∧(bad=true→b=true)∧(b=false→p+m≤a)∧(∀q,bad=false→X=some q→v=q.1∧a=q.2∧b=false)∧(bad=false→X=none→b=true∨ill)
theorem Ans.bind{α β:Type}{X:Option (α×Nat)}{Y:α→Nat→Option (β×Nat)}{p L:Nat}{bad:Bool}{ill:Prop}{m k:Nat}{v:α}{a:Nat}{b:Bool}{v':β}{a':Nat}{b':Bool}(h1:Ans X p L bad False m v a b)(h2:Ans (Y v a) a L b ill k v' a' b'):Ans (X.bind fun q=>Y q.1 q.2) p L bad ill (m+k) v' a' b':=by
  obtain⟨p1,p2,p3,p4,p5,p6⟩:=h1
  obtain⟨q1,q2,q3,q4,q5,q6⟩:=h2
  refine⟨by omega,q2,fun h=>q3 (p3 h),fun h=> ?_,fun q hb hq=> ?_,fun hb hq=> ?_⟩
  · have hb:b=false:=by
      cases hb:b with
      | false=>rfl
      | true=>rw[q3 hb]at h; cases h
    have:=p4 hb
    have:=q4 h
    omega
  · obtain⟨x,hx,hy⟩:=Option.bind_eq_some_iff.1 hq
    obtain⟨rfl,rfl,rfl⟩:=p5 x hb hx
    exact q5 q rfl hy
  · cases hX:X with
    | none => rcases p6 hb hX with h | h
              · exact .inl (q3 h)
              · exact h.elim
    | some x=>
      rw[hX]at hq
      obtain⟨rfl,rfl,rfl⟩:=p5 x hb hX
      exact q6 rfl hq
theorem Ans.map{α β:Type}{X:Option (α×Nat)}{p L:Nat}{bad:Bool}{ill:Prop}{m:Nat}{v:α}{a:Nat}{b:Bool}(f:α→β)(h:Ans X p L bad ill m v a b):Ans (X.map fun q=>(f q.1,q.2)) p L bad ill m (f v) a b:=by
  obtain⟨p1,p2,p3,p4,p5,p6⟩:=h
  refine⟨p1,p2,p3,p4,fun q hb hq=> ?_,fun hb hq=> ?_⟩
  · obtain⟨x,hx,rfl⟩:=Option.map_eq_some_iff.1 hq
    obtain⟨rfl,rfl,rfl⟩:=p5 x hb hx
    exact⟨rfl,rfl,rfl⟩
  · exact p6 hb (Option.map_eq_none_iff.1 hq)
theorem Ans.ill{α:Type}{X:Option (α×Nat)}{p L:Nat}{bad:Bool}{i j:Prop}{m:Nat}{v:α}{a:Nat}{b:Bool}(h:Ans X p L bad i m v a b)(hij:i→j):Ans X p L bad j m v a b:=by
  obtain⟨p1,p2,p3,p4,p5,p6⟩:=h
  refine⟨p1,p2,p3,p4,p5,fun h1 h2=> ?_⟩
  rcases p6 h1 h2 with h | h
  · exact .inl h
  · exact .inr (hij h)
/-- So many, one behind the other. -/
def many{α:Type}(rd:Nat→Option (α×Nat)):Nat→Nat→Option (List α×Nat)
  | 0,p=>some ([],p)
  | k+1,p=>(rd p).bind fun q=>(many rd k q.2).map fun r=>(q.1::r.1,r.2)
theorem Le{α:Type}(w:α→Nat)(x:α): ∀l:List α,dl w (l++[x])=dl w l+(w x+1)
  | []=>by simp only[List.nil_append,dl]; omega
  | a::r=>by
    have:=Le w x r
    simp only[List.cons_append,dl]; omega
/-- A loop that reads elements, one behind the other. -/
theorem Ay{σ ρ α:Type}{body:σ→Option (σ⊕ρ)}(enc:Nat→List α→Nat→Bool→σ)(Out:List α→Nat→Bool→ρ→Prop)(rd:Nat→Option (α×Nat))(w:α→Nat)(ill:α→Prop){c L:Nat}
    (hs: ∀i acc p,i<c→acc.length=i→p≤L→ ∃x a b m,body (enc i acc p false)=some (.inl (enc (i+1) (acc++[x]) a b))∧Ans (rd p) p L false (ill x) m x a b∧(b=false→w x+1≤2*m))
    (hb: ∀i acc p,i≤c→acc.length=i→p≤L→(∃r,body (enc i acc p true)=some (.inr r)∧Out acc p true r)∨(i<c∧ ∃x a,p≤a∧a≤L∧body (enc i acc p true)=some (.inl (enc (i+1) (acc++[x]) a true))))
    (he: ∀acc p,acc.length=c→p≤L→ ∃r,body (enc c acc p false)=some (.inr r)∧Out acc p false r):
    ∀(k i:Nat) (acc:List α) (p:Nat) (bad:Bool) (m:Nat),i+k=c→acc.length=i→p≤L→k<m→ ∃r xs a b,loopN body m (enc i acc p bad)=some r∧Out (acc++xs) a b r∧p≤a∧a≤L∧(bad=true→b=true)∧(b=false→(acc++xs).length=c∧dl w (acc++xs)+2*p≤dl w acc+2*a)∧(∀q,bad=false→many rd k p=some q→xs=q.1∧a=q.2∧b=false)∧(bad=false→many rd k p=none→b=true∨ ∃x∈acc++xs,ill x)
  | 0,i,acc,p,false,m,hk,hl,hp,hm=>by
    obtain⟨m,rfl⟩: ∃q,m=q+1:=⟨m - 1,by omega⟩
    obtain rfl:i=c:=by omega
    obtain⟨r,r1,r2⟩:=he acc p hl hp
    refine⟨r,[],p,false,by simp only[loopN,r1],by rw[List.append_nil]; exact r2,Nat.le_refl _,hp,id,fun _=>⟨by rw[List.append_nil]; exact hl,by rw[List.append_nil]; exact Nat.le_refl _⟩,fun q _ h=> ?_,fun _ h=>by cases h⟩
    cases h
    exact⟨rfl,rfl,rfl⟩
  | k+1,i,acc,p,false,m,hk,hl,hp,hm=>by
    obtain⟨m,rfl⟩: ∃q,m=q+1:=⟨m - 1,by omega⟩
    obtain⟨x,a,b,j,h1,⟨h2,h3,_,h4,h5,h6⟩,h7⟩:=hs i acc p (by omega) hl hp
    obtain⟨r,xs,a',b',g1,g2,g3,g4,g5,g6,g7,g8⟩:=Ay enc Out rd w ill hs hb he k (i+1) (acc++[x]) a b m (by omega) (by rw[List.length_append,List.length_singleton]; omega) h3 (by omega)
    rw[List.append_assoc]at g2 g6 g8
    refine⟨r,x::xs,a',b',by simp only[loopN,h1]; exact g1,g2,by omega,g4,(fun h=>by cases h),fun h=> ?_,fun q _ hq=> ?_,fun _ hq=> ?_⟩
    · obtain⟨q1,q2⟩:=g6 h
      have hb0:b=false:=by
        cases hb0:b with
        | false=>rfl
        | true=>rw[g5 hb0]at h; cases h
      have:=h7 hb0
      have:=h4 hb0
      rw[Le]at q2
      have e:(acc++([x]++xs))=acc++x::xs:=rfl
      rw[e]at q1 q2
      exact⟨q1,by omega⟩
    · simp only[many]at hq
      obtain⟨y,hy,hz⟩:=Option.bind_eq_some_iff.1 hq
      obtain⟨z,hz2,rfl⟩:=Option.map_eq_some_iff.1 hz
      obtain⟨rfl,rfl,rfl⟩:=h5 y rfl hy
      obtain⟨rfl,rfl,rfl⟩:=g7 z rfl hz2
      exact⟨rfl,rfl,rfl⟩
    · simp only[many]at hq
      have hin: ∀ {Q:Prop},ill x→(Q∨ ∃y∈acc++x::xs,ill y):=fun h=> .inr ⟨x,List.mem_append_right _ List.mem_cons_self,h⟩
      cases hy:rd p with
      | none=>
        rcases h6 rfl hy with h | h
        · exact .inl (g5 h)
        · exact hin h
      | some y=>
        rw[hy]at hq
        obtain⟨rfl,rfl,rfl⟩:=h5 y rfl hy
        exact g8 rfl (Option.map_eq_none_iff.1 hq)
  | k,i,acc,p,true,m,hk,hl,hp,hm=>by
    obtain⟨m,rfl⟩: ∃q,m=q+1:=⟨m - 1,by omega⟩
    rcases hb i acc p (by omega) hl hp with⟨r,r1,r2⟩ | ⟨hi,x,a,h1,h2,h3⟩
    · exact⟨r,[],p,true,by simp only[loopN,r1],by rw[List.append_nil]; exact r2,Nat.le_refl _,hp,id,(fun h=>by cases h),(fun q h=>by cases h),(fun h=>by cases h)⟩
    · obtain⟨k,rfl⟩: ∃q,k=q+1:=⟨k - 1,by omega⟩
      obtain⟨r,xs,a',b',g1,g2,g3,g4,g5,_,_,_⟩:=Ay enc Out rd w ill hs hb he k (i+1) (acc++[x]) a true m (by omega) (by rw[List.length_append,List.length_singleton]; omega) h2 (by omega)
      rw[List.append_assoc]at g2
      refine⟨r,x::xs,a',b',by simp only[loopN,h3]; exact g1,g2,by omega,g4,fun _=>g5 rfl,(fun h=> ?_),(fun q h=>by cases h),(fun h=>by cases h)⟩
      rw[g5 rfl]at h
      cases h
/-- The bytes from p to a are e. -/
def Seg(l:List Int)(p a:Nat)(e:List Int):Prop:=p≤a∧a≤l.length∧(l.drop p).take (a - p)=e
theorem Seg.app{l:List Int}{p a b:Nat}{e f:List Int}(h1:Seg l p a e)(h2:Seg l a b f):Seg l p b (e++f):=by
  obtain⟨p1,p2,p3⟩:=h1
  obtain⟨q1,q2,q3⟩:=h2
  refine⟨by omega,q2, ?_⟩
  rw[←p3, ←q3,show b - p=(a - p)+(b - a)by omega,List.take_add,List.drop_drop,show p+(a - p)=a by omega]
theorem Seg.many{α:Type}{l:List Int}{rd:Nat→Option (α×Nat)}{e:α→List Int}(h: ∀p x a,p≤l.length→rd p=some (x,a)→Seg l p a (e x)): ∀(k p:Nat) (xs:List α) (a:Nat),p≤l.length→many rd k p=some (xs,a)→Seg l p a (xs.flatMap e)∧xs.length=k
  | 0,p,xs,a,hp,hq=>by
    cases hq
    exact⟨⟨Nat.le_refl _,hp,by rw[Nat.sub_self]; rfl⟩,rfl⟩
  | k+1,p,xs,a,hp,hq=>by
    simp only[Q.many]at hq
    obtain⟨⟨x,a1⟩,hy,hz⟩:=Option.bind_eq_some_iff.1 hq
    obtain⟨⟨ys,a2⟩,hz1,hz2⟩:=Option.map_eq_some_iff.1 hz
    cases hz2
    have h1:=h p x a1 hp hy
    obtain⟨h2,h3⟩:=Seg.many h k a1 ys a2 h1.2.1 hz1
    exact⟨h1.app h2,by rw[List.length_cons,h3]⟩
end Go.Own.Q
