/- The heights of the instructions, as the program has them, and that both are the same; in plain Lean. No conditions. -/
import Derived.Test.YtgeomhdbckjkcaaW24CodeHigh
set_option linter.unusedVariables false
set_option linter.unusedSimpArgs false
set_option linter.unnecessarySimpa false
namespace Go.Own.Q
open Go Go.Proofs

def cA(hs:List Int)(p:Nat)(v:Int)(b:Bool):List Int×Bool:=bif decide (hs.length≤p)||decide (300<v)then(hs,true)else match hs[p]? with
 | none=>(hs,true)
 | some x=>bif decide (x<0)then(hs.set p v,b)else bif decide (x=v)then(hs,b)else(hs,true)
theorem Ah(n:Nat)(hs:List Int)(p:Nat)(v:Int)(b:Bool):bD n (p:Int) v hs b=some (cA hs p v b):=by
 unfold bD cA
 by_cases h:hs.length≤p
 ·rw[decide_eq_true h,decide_eq_true (show(hs.length:Int)≤p by omega)]; rfl
 rw[decide_eq_false h,decide_eq_false (show ¬ (hs.length:Int)≤p by omega)]
 have e:hs[p]? =some hs[p]:=List.getElem?_eq_getElem (by omega)
 generalize hs[p]=x at e
 simp only[cond_false,Bool.false_or,Option.bind_some,cQ,e,Int.toNat_natCast]
 cases decide (300<v)<;>cases decide (x<0)<;>cases decide (x=v)<;>rfl
def lvA(at':Nat)(i:aF)(h:Int)(hs:List Int)(b:Bool):List Int×Bool:=
 bif decide (h<wF i)||((decide (i.f0=9)||decide (i.f0=10))&&decide (i.f3≤(at':Int)))then(hs,true)
 else bif decide (i.f0=9)then cA (cA hs (at'+1) (IntKind.wrap .i64 (h - 1)) b).1 i.f3.toNat h (cA hs (at'+1) (IntKind.wrap .i64 (h - 1)) b).2
 else bif decide (i.f0=10)then cA hs i.f3.toNat h b
 else bif decide (i.f0=11)then(hs,b)
 else bif decide (i.f0=12)then(hs,b|| !decide (h=1))
 else cA hs (at'+1) (up h (wF i)) b
theorem NF(n:Nat)(at':Nat)(i:aF)(h:Int)(hs:List Int)(b:Bool)(hg:hs[at']? =some h)(hl:at'<4611686018427387904):eD n (at':Int) i.f0 i.f1 i.f2 i.f3 hs b=some (lvA at' i h hs b):=by
 unfold eD lvA
 have hup:IntKind.wrap .i64 (IntKind.wrap .i64 (h - wF i)+1)=up h (wF i):=rfl
 simp only[cQ,hg,Option.bind_some,KK,aV hl,Ah,hup]
 cases h0:decide (h<wF i)with
 | true=>rfl
 | false=>
 by_cases e9:i.f0=9
 ·rw[decide_eq_true e9]
  by_cases h2:i.f3≤(at':Int)
  ·rw[decide_eq_true h2]; rfl
  ·rw[decide_eq_false h2]
   obtain⟨k,hk⟩: ∃k:Nat,i.f3=k:=⟨i.f3.toNat,by omega⟩
   rw[hk]
   simp only[cond_false,cond_true,Bool.false_or,Bool.and_false,Option.bind_some,Ah,Int.toNat_natCast]
 rw[decide_eq_false e9]
 by_cases e10:i.f0=10
 ·rw[decide_eq_true e10]
  by_cases h2:i.f3≤(at':Int)
  ·rw[decide_eq_true h2]; rfl
  ·rw[decide_eq_false h2]
   obtain⟨k,hk⟩: ∃k:Nat,i.f3=k:=⟨i.f3.toNat,by omega⟩
   rw[hk]
   simp only[cond_false,cond_true,Bool.false_or,Bool.and_false,Option.bind_some,Ah,Int.toNat_natCast]
 rw[decide_eq_false e10]
 simp only[cond_false,Bool.false_or,Bool.false_and,Option.bind_some]
 generalize decide (h=1)=z
 cases decide (i.f0=11)<;>cases decide (i.f0=12)<;>cases b<;>rfl
theorem Wm(hs:List Int)(p:Nat)(v:Int)(b:Bool):(cA hs p v b).1.length=hs.length:=by
 unfold cA
 cases decide (hs.length≤p)||decide (300<v)with
 | true=>rfl
 | false=>
  cases hs[p]? with
  | none=>rfl
  | some x=>
   simp only[cond_false]
   cases decide (x<0)<;>cases decide (x=v)<;>first | rfl | exact List.length_set
theorem Rf(at':Nat)(i:aF)(h:Int)(hs:List Int)(b:Bool):(lvA at' i h hs b).1.length=hs.length:=by
 unfold lvA
 cases decide (h<wF i)||((decide (i.f0=9)||decide (i.f0=10))&&decide (i.f3≤(at':Int)))with
 | true=>rfl
 | false=>
  cases decide (i.f0=9)<;>cases decide (i.f0=10)<;>cases decide (i.f0=11)<;>cases decide (i.f0=12)<;>simp only[cond_false,cond_true,Wm]
def FZ:Nat→List aF→List Int→Bool→Bool
 | _,[],_,b=> !b
 | at',i::r,hs,b=>bif b then false else match hs[at']? with
  | none=>false
  | some h=>bif decide (h<0)then false else FZ (at'+1) r (lvA at' i h hs b).1 (lvA at' i h hs b).2
def finA:(List Int×Bool)⊕(Int×Bool×List Int×Bool)→Option (List Int×Bool)
 | .inl t=>some (t.1,t.2)
 | .inr t=>some (t.2.2.1, !t.2.2.2)
theorem Ru(n:Nat)(is:List aF)(hl:is.length<4611686018427387904): ∀(r:List aF) (at':Nat) (hs:List Int) (b:Bool) (m:Nat),is.drop at'=r→at'≤is.length→hs.length=is.length→r.length<m→ ∃q,loopN (dV n is) m ((at':Int),hs,b)=some q∧ ∃l,finA q=some (l,FZ at' r hs b):=by
 intro r
 induction r with
 | nil=>
  intro at' hs b m hr ha hh hm
  obtain⟨m,rfl⟩: ∃k,m=k+1:=⟨m - 1,by simp at hm; omega⟩
  have:at'=is.length:=by
   have:=congrArg List.length hr
   simp at this; omega
  subst this
  refine⟨.inr ((is.length:Int),false,hs,b), ?_,hs,rfl⟩
  simp only[loopN,dV,aQ,cond_false]
 | cons i r ih=>
  intro at' hs b m hr ha hh hm
  obtain⟨m,rfl⟩: ∃k,m=k+1:=⟨m - 1,by simp at hm; omega⟩
  have hi:is[at']? =some i:=by
   have:=congrArg (fun l=>l[0]?) hr
   simpa [List.getElem?_drop]using this
  have hr2:is.drop (at'+1)=r:=by
   have:=congrArg (List.drop 1) hr
   simpa [List.drop_drop]using this
  have hlt:=cH hi
  have hg:hs[at']? =some hs[at']:=List.getElem?_eq_getElem (by omega)
  generalize hs[at']=h at hg
  have hlv:=NF n at' i h hs b hg (by omega)
  unfold FZ
  rw[hg]
  simp only[loopN,dV,cW hi,cond_true,cQ,hi,hg,Option.bind_some,hlv,aV (show at'<4611686018427387904 by omega)]
  cases b with
  | true=>exact⟨_,rfl,[],rfl⟩
  | false=>
   simp only[cond_false,Option.bind_some]
   cases decide (h<0)with
   | true=>exact⟨_,rfl,[],rfl⟩
   | false=>exact ih (at'+1) _ _ m hr2 (by omega) (by rw[Rf]; exact hh) (by simp at hm; omega)
theorem Hb(n:Nat)(hn:n≤1099511627776)(nm:List UInt8)(ar sl:Int)(is:List aF)(h0:0<is.length)(h:is.length<n): ∃l,iM n nm ar sl is=some (l,FZ 0 is (start is.length) false):=by
 unfold iM
 have hc:decide (0≤(is.length:Int)∧(is.length:Int)≤maxLen∧8*(is.length:Int)≤281474976710656)=true:=decide_eq_true ⟨by omega,by simp only[maxLen]; omega,by omega⟩
 have e1:=Ab (body:=dW n is) (fun i=>((i:Int),(List.replicate i (-1)++List.replicate (is.length - i) 0),false)) (len:=is.length) (r:=((is.length:Int),false,List.replicate is.length (-1),false)) (fun i hi=>by
  have hx:(List.replicate i (-1)++List.replicate (is.length - i) 0:List Int).length=is.length:=by simp; omega
  obtain⟨y,hy⟩: ∃y,(List.replicate i (-1)++List.replicate (is.length - i) 0:List Int)[i]? =some y:=⟨_,List.getElem?_eq_getElem (by rw[hx]; omega)⟩
  simp only[dW,List.length_replicate,decide_eq_true (show(i:Int)<(is.length:Int)by omega),cond_true,cQ,hy,Option.bind_some,Int.toNat_natCast,aV (show i<4611686018427387904 by omega),Us 0 (-1) is.length i hi]) (by
  simp only[dW,List.length_replicate,Int.toNat_natCast,aQ,cond_false]
  simp) (n:=n) (by omega)
 have e1:loopN (dW n is) n ((0:Int),List.replicate (Int.toNat (is.length:Int)) (0:Int),false)=some ((is.length:Int),false,List.replicate is.length (-1),false):=by
  rw[←e1,Int.toNat_natCast]
  simp
 have e2:bD n (0:Int) (0:Int) (List.replicate is.length (-1)) false=some (start is.length,false):=by
  have:=Ah n (List.replicate is.length (-1)) 0 0 false
  have:bD n (0:Int) (0:Int) (List.replicate is.length (-1)) false=_:=this
  rw[this]
  obtain⟨k,hk⟩: ∃k,is.length=k+1:=⟨is.length - 1,by omega⟩
  rw[hk]
  unfold cA start
  simp [List.replicate_succ]
 rw[hc,e1]
 simp only[ck,cond_true,Option.bind_some,e2]
 obtain⟨q,q1,l,q2⟩:=Ru n is (by omega) is 0 (start is.length) false n rfl (by omega) (by simp [start]; omega) h
 have q1:loopN (dV n is) n ((0:Int),start is.length,false)=some q:=q1
 rw[q1]
 refine⟨l, ?_⟩
 cases q<;>exact q2

/-! both are the same -/
theorem qJ(at':Nat)(r:List aF)(hs:List Int):FZ at' r hs true=false:=by
 cases r<;>rfl
/-- All that is told is no more than 300. -/
def okH(hs:List Int):Prop:= ∀(j:Nat) x,hs[j]? =some x→ -1≤x∧x≤300
theorem RX{hs:List Int}(h:okH hs){p:Nat}{v:Int}(h0: -1≤v)(h1:v≤300):okH (hs.set p v):=by
 intro j x hx
 by_cases e:p=j
 ·subst e
  by_cases hp:p<hs.length
  ·rw[List.getElem?_set_self hp]at hx; cases hx; exact⟨h0,h1⟩
  ·rw[List.getElem?_eq_none (by rw[List.length_set]; omega)]at hx; cases hx
 ·rw[List.getElem?_set_ne e]at hx; exact h j x hx
/-- A come in the program: as the reference's, or no more. -/
theorem cA_P{hs:List Int}(h:okH hs)(p:Nat)(v:Int)(h0:0≤v)(h1:v≤300):(nF hs p v=none∧ ∀b,(cA hs p v b).2=true)∨(∃l,nF hs p v=some l∧okH l∧ ∀b,cA hs p v b=(l,b)):=by
 unfold nF cA
 cases e:hs[p]? with
 | none=>exact .inl ⟨rfl,fun b=>by cases decide (hs.length≤p)||decide (300<v)<;>rfl⟩
 | some x=>
  have hx:=h p x e
  have hp:=cH e
  simp only[decide_eq_false (show ¬ hs.length≤p by omega),decide_eq_false (show ¬ 300<v by omega),Bool.or_false,cond_false]
  by_cases c:x= -1
  ·rw[decide_eq_true c,decide_eq_true (show x<0 by omega)]
   exact .inr ⟨_,rfl,RX h (by omega) h1,fun b=>rfl⟩
  ·rw[decide_eq_false c,decide_eq_false (show ¬ x<0 by omega)]
   cases decide (x=v)with
   | true=>exact .inr ⟨_,rfl,h,fun b=>rfl⟩
   | false=>exact .inl ⟨rfl,fun b=>rfl⟩
theorem Wn(hs:List Int)(p:Nat)(v:Int):(cA hs p v true).2=true:=by
 unfold cA
 cases decide (hs.length≤p)||decide (300<v)with
 | true=>rfl
 | false=>
  cases hs[p]? with
  | none=>rfl
  | some x=>simp only[cond_false]; cases decide (x<0)<;>cases decide (x=v)<;>rfl
/-- What is told above 300 is found by the reference when it comes there. -/
theorem Gf: ∀(r:List aF) (at':Nat) (hs:List Int) (p:Nat) (v:Int),hs[p]? =some v→300<v→at'≤p→p<at'+r.length→JP at' r hs=false
 | [],at',hs,p,v,h,hv,h1,h2=>by simp at h2; omega
 | i::r,at',hs,p,v,h,hv,h1,h2=>by
  unfold JP
  cases e:hs[at']? with
  | none=>rfl
  | some x=>
   simp only
   by_cases hp:at'=p
   ·subst hp
    rw[h]at e; cases e
    have:Ns i v=true:=by
     unfold Ns
     rw[decide_eq_true hv,Bool.true_or,Bool.or_true]
    rw[this]; rfl
   ·cases Ns i x with
    | true=>rfl
    | false=>
     simp only[cond_false]
     cases hn:Nn at' i x hs with
     | none=>rfl
     | some l=>
      simp only
      refine Gf r (at'+1) l p v ?_ hv (by omega) (by simp at h2; omega)
      unfold Nn at hn
      cases h1:decide (i.f0=11)<;>rw[h1]at hn
      ·cases h2:decide (i.f0=12)<;>rw[h2]at hn
       ·cases h3:decide (i.f0=10)<;>rw[h3]at hn
        ·cases h4:decide (i.f0=9)<;>rw[h4]at hn
         ·exact uH hn h (by omega)
         ·obtain⟨m,m1,m2⟩:=Option.bind_eq_some_iff.1 hn
          exact uH m2 (uH m1 h (by omega)) (by omega)
        ·exact uH hn h (by omega)
       ·cases hn; exact h
      ·cases hn; exact h
theorem up_ok{h t:Int}(h0:t≤h)(h1:h≤300)(h2:0≤t)(h3:t≤20):up h t=h - t+1:=by
 unfold up
 rw[wrap_i64 (n:=h - t) (by omega) (by omega),wrap_i64 (by omega) (by omega)]
theorem UG(L:Nat): ∀(r:List aF) (at':Nat) (hs:List Int),hs.length=L→at'+r.length=L→okH hs→(∀(k:Nat) i,r[k]? =some i→wfI L (at'+k) i∧0≤wF i∧wF i≤20)→FZ at' r hs false=JP at' r hs
 | [],at',hs,_,_,_,_=>rfl
 | i::r,at',hs,hl,hr,ho,hw=>by
  have hr:at'+(r.length+1)=L:=hr
  obtain⟨⟨w1,w2,w3⟩,t0,t1⟩:=hw 0 i rfl
  have ih: ∀l:List Int,l.length=L→okH l→FZ (at'+1) r l false=JP (at'+1) r l:=fun l h1 h2=>UG L r (at'+1) l h1 (by omega) h2 (fun k j hj=>by
   have:=hw (k+1) j (by simpa using hj)
   rwa[show at'+(k+1)=at'+1+k by omega]at this)
  have hg:hs[at']? =some hs[at']:=List.getElem?_eq_getElem (by omega)
  generalize hs[at']=h at hg
  obtain⟨b0,b1⟩:=ho at' h hg
  unfold FZ JP
  rw[hg]
  simp only[cond_false]
  cases hb:Ns i h with
  | true=>
   simp only[cond_true]
   cases hn:decide (h<0)with
   | true=>rfl
   | false=>
    simp only[cond_false]
    have:(lvA at' i h hs false).2=true:=by
     unfold lvA
     unfold Ns at hb
     rw[decide_eq_false (show ¬ 300<h by omega),Bool.false_or,Bool.or_eq_true]at hb
     rcases hb with hb | hb
     ·rw[hb]; rfl
     ·rw[Bool.and_eq_true]at hb
      have e12:=of_decide_eq_true hb.1
      cases decide (h<wF i)with
      | true=>rfl
      | false=>
       rw[e12]
       exact hb.2
    rw[this,qJ]
  | false=>
   simp only[cond_false]
   unfold Ns at hb
   rw[Bool.or_eq_false_iff,Bool.or_eq_false_iff]at hb
   obtain⟨hb1,_,hb3⟩:=hb
   have hb1:=of_decide_eq_false hb1
   rw[decide_eq_false (show ¬ h<0 by omega)]
   simp only[cond_false]
   unfold lvA
   rw[decide_eq_false hb1,Bool.false_or]
   unfold Nn
   have one: ∀(p:Nat) (v:Int),0≤v→v≤300→FZ (at'+1) r (cA hs p v false).1 (cA hs p v false).2=(match nF hs p v with | none=>false | some l=>JP (at'+1) r l):=fun p v v0 v1=>by
    rcases cA_P ho p v v0 v1 with⟨c1,c2⟩ | ⟨l,c1,c2,c3⟩
    ·rw[c1,c2 false,qJ]
    ·rw[c1,c3 false]
     exact ih l (by rw[nC c1,hl]) c2
   by_cases e9:i.f0=9
   ·have hw3:=w3 (.inl e9)
    have hh1:1≤h:=by
     have:wF i=1:=by unfold wF; rw[e9]; rfl
     omega
    rw[decide_eq_false (show ¬ i.f3≤(at':Int)by omega),decide_eq_true e9,decide_eq_false (show ¬ i.f0=11 by omega),decide_eq_false (show ¬ i.f0=12 by omega),decide_eq_false (show ¬ i.f0=10 by omega)]
    simp only[cond_false,cond_true,Bool.and_false]
    rw[wrap_i64 (n:=h - 1) (by omega) (by omega),Kn hs (at'+1) i.f3.toNat h (h - 1) (by omega) (by omega)]
    rcases cA_P ho (at'+1) (h - 1) (by omega) (by omega)with⟨c1,c2⟩ | ⟨l,c1,c2,c3⟩
    ·rw[c1,c2 false,Wn,qJ]; rfl
    ·rw[c1,c3 false]
     simp only[Option.bind_some]
     rcases cA_P c2 i.f3.toNat h (by omega) (by omega)with⟨d1,d2⟩ | ⟨l',d1,d2,d3⟩
     ·rw[d1,d2 false,qJ]
     ·rw[d1,d3 false]
      exact ih l' (by rw[nC d1,nC c1,hl]) d2
   rw[decide_eq_false e9]
   by_cases e10:i.f0=10
   ·have hw3:=w3 (.inr e10)
    rw[decide_eq_false (show ¬ i.f3≤(at':Int)by omega),e10]
    exact one _ _ (by omega) b1
   rw[decide_eq_false e10]
   by_cases e11:i.f0=11
   ·rw[e11]; exact ih hs hl ho
   rw[decide_eq_false e11]
   by_cases e12:i.f0=12
   ·rw[e12]at hb3 ⊢
    have:h=1:=by simpa using hb3
    subst this
    exact ih hs hl ho
   rw[decide_eq_false e12]
   simp only[cond_false,Bool.or_false,Bool.false_and]
   have hu:=up_ok (h:=h) (t:=wF i) (by omega) b1 t0 t1
   by_cases hv:up h (wF i)≤300
   ·exact one _ _ (by omega) hv
   ·have hc:cA hs (at'+1) (up h (wF i)) false=(hs,true):=by
     unfold cA
     rw[decide_eq_true (show 300<up h (wF i)by omega),Bool.or_true]; rfl
    rw[hc,qJ]
    cases hp:nF hs (at'+1) (up h (wF i))with
    | none=>rfl
    | some l=>
     have hgl:=(HD hp).1
     have:=cH hgl
     have:=nC hp
     exact(Gf r (at'+1) l (at'+1) _ hgl (by omega) (by omega) (by omega)).symm
/-- Where the program's heights are as told, each goes forward. -/
theorem Lv: ∀(r:List aF) (at':Nat) (hs:List Int) (b:Bool),FZ at' r hs b=true→ ∀(k:Nat) i,r[k]? =some i→(i.f0=9∨i.f0=10)→((at'+k:Nat):Int)<i.f3
 | [],_,_,_,_,k,i,hi,_=>by simp at hi
 | j::r,at',hs,b,h,k,i,hi,h9=>by
  unfold FZ at h
  cases b with
  | true=>cases h
  | false=>
   simp only[cond_false]at h
   cases e:hs[at']? with
   | none=>rw[e]at h; cases h
   | some x=>
    rw[e]at h
    simp only at h
    cases hx:decide (x<0)<;>rw[hx]at h
    ·simp only[cond_false]at h
     cases k with
     | zero=>
      simp only[List.getElem?_cons_zero,Option.some.injEq]at hi
      subst hi
      by_cases c:j.f3≤(at':Int)
      ·exfalso
       have hz:(decide (j.f0=9)||decide (j.f0=10))=true:=by
        rcases h9 with e | e<;>rw[e]<;>rfl
       have:lvA at' j x hs false=(hs,true):=by
        unfold lvA
        rw[hz,decide_eq_true c,Bool.true_and,Bool.or_true]; rfl
       rw[this,qJ]at h
       cases h
      ·simpa using c
     | succ k=>
      have:=Lv r (at'+1) _ _ h k i (by simpa using hi) h9
      rwa[show at'+1+k=at'+(k+1)by omega]at this
    ·cases h
/-- The last is no more than left. -/
theorem Ge(L:Nat): ∀(r:List aF) (at':Nat) (hs:List Int),hs.length=L→at'+r.length=L→(∀(k:Nat) i,r[k]? =some i→wfI L (at'+k) i)→JP at' r hs=true→ ∀i,r[r.length - 1]? =some i→i.f0=11∨i.f0=12
 | [],_,_,_,_,_,_,i,hi=>by simp at hi
 | j::r,at',hs,hl,hr,hw,h,i,hi=>by
  have hr:at'+(r.length+1)=L:=hr
  unfold JP at h
  cases e:hs[at']? with
  | none=>rw[e]at h; cases h
  | some x=>
   rw[e]at h
   simp only at h
   cases hx:Ns j x<;>rw[hx]at h
   ·simp only[cond_false]at h
    cases hn:Nn at' j x hs with
    | none=>rw[hn]at h; cases h
    | some l=>
     rw[hn]at h
     simp only at h
     have hl2:l.length=L:=by rw[PE hn,hl]
     cases r with
     | nil=>
      simp only[List.length_cons,List.length_nil,Nat.zero_add,Nat.sub_self,List.getElem?_cons_zero,Option.some.injEq]at hi
      subst hi
      simp only[List.length_nil,Nat.zero_add]at hr
      obtain⟨w1,w2,w3⟩:=hw 0 j rfl
      have hno: ∀(m:List Int) (v:Int),m.length=L→nF m (at'+1) v=none:=fun m v hm=>by
       unfold nF; rw[List.getElem?_eq_none (by omega)]
      by_cases e11:j.f0=11
      ·exact .inl e11
      by_cases e12:j.f0=12
      ·exact .inr e12
      exfalso
      unfold Nn at hn
      rw[decide_eq_false e11,decide_eq_false e12]at hn
      by_cases e10:j.f0=10
      ·have:=w3 (.inr e10); omega
      by_cases e9:j.f0=9
      ·have:=w3 (.inl e9); omega
      rw[decide_eq_false e10,decide_eq_false e9]at hn
      simp only[cond_false]at hn
      rw[hno hs _ hl]at hn
      cases hn
     | cons j2 r2=>
      refine Ge L (j2::r2) (at'+1) l hl2 (by simp at hr ⊢; omega) (fun k a ha=> ?_) h i ?_
      ·have:=hw (k+1) a (by simpa using ha)
       rwa[show at'+(k+1)=at'+1+k by omega]at this
      ·simpa using hi
   ·cases h
theorem Mz(L:Nat):okH (start L):=by
 intro j x hx
 have:=List.mem_of_getElem? hx
 unfold start at this
 rw[List.mem_cons]at this
 rcases this with rfl | h
 ·omega
 ·have:=List.eq_of_mem_replicate h
  omega
end Go.Own.Q
