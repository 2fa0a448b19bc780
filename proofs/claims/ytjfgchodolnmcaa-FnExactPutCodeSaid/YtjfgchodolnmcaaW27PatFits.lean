/- When a pattern by slots fits: the program's answer and the reference's, in plain Lean. No conditions. -/
import Derived.Test.YtjfgchodolnmcaaW27Left
set_option linter.unusedVariables false
set_option linter.unusedSimpArgs false
set_option linter.unnecessarySimpa false
namespace Go.Own.Q
open Go Go.Proofs

def pshp(sl k m:Int)(s:List UInt8)(ne:Int):Bool:=bif decide (k=3)then decide (s=[])&&(decide (ne=0)&&(decide (-1≤m)&&decide (m≤sl - 1)))else !decide (6<k)&&shp0 k m s ne
theorem l9Shape_ok(n:Nat)(k m:Int)(s:List UInt8)(l:List S_impl_Pat)(sl:Int)(h0:0≤sl)(h1:sl≤400)(h:s.length<n)(hn:s.length<4611686018427387904):p_spec_l9Shape n k m s l sl=some (pshp sl k m s l.length):=by
 unfold p_spec_l9Shape pshp shp0
 rw[l4Atom_ok n s h hn,wrap_i64 (n:=sl - 1) (by omega) (by omega)]
 simp only[l1In_ok,Option.bind_some]
 generalize (l.length:Int)=ne
 by_cases h1:k=1
 ·subst h1
  cases decide (0≤m)<;>cases decide (m≤1000000000000)<;>cases decide (s=[])<;>cases decide (ne=0)<;>rfl
 by_cases h2:k=2
 ·subst h2
  cases decide (m=0)<;>cases xatomOk s<;>cases decide (ne=0)<;>rfl
 by_cases h3:k=3
 ·subst h3
  cases decide (s=[])<;>cases decide (ne=0)<;>rfl
 by_cases h4:k=4
 ·subst h4
  cases decide (m=0)<;>cases decide (s=[])<;>cases decide (ne≤20)<;>rfl
 by_cases h5:k=5
 ·subst h5
  cases decide (m=0)<;>cases decide (s=[])<;>cases decide (ne≤20)<;>rfl
 by_cases h6:k=6
 ·subst h6
  cases decide (m=0)<;>cases decide (s=[])<;>cases decide (2≤ne)<;>cases decide (ne≤6)<;>rfl
 rw[decide_eq_false h1,decide_eq_false h2,decide_eq_false h3,decide_eq_false h4,decide_eq_false h5,decide_eq_false h6]
 simp only[cond_false]
 by_cases h7:6<k
 ·rw[decide_eq_true h7]; rfl
 ·rw[decide_eq_false (show ¬ k=7 by omega),decide_eq_false (show ¬ k=8 by omega),decide_eq_false (show ¬ k=9 by omega)]
  cases decide (6<k)<;>rfl
mutual
def pcnt:S_impl_Pat→Nat
 | .mk _ _ _ l=>1+pcnts l
def pcnts:List S_impl_Pat→Nat
 | []=>0
 | x::r=>pcnt x+pcnts r
end
theorem pcnt_e(a:S_impl_Pat):pcnt a=1+pcnts a.f3:=by cases a; simp only[pcnt]; rfl
theorem pcnts_sum: ∀l,pcnts l=sumz pcnt l
 | []=>rfl
 | x::r=>by simp only[pcnts,sumz,pcnts_sum r]
theorem wPat_e(a:S_impl_Pat):wPat a=3+a.f2.length+dl wPat a.f3:=by cases a; simp only[wPat,wPats_dl]; rfl
mutual
def pv:S_impl_Pat→List Int
 | .mk k m _ l=>bif decide (k=3)then [m]else pvs l
def pvs:List S_impl_Pat→List Int
 | []=> []
 | x::r=>pv x++pvs r
end
theorem pv_e(a:S_impl_Pat):pv a=bif decide (a.f0=3)then [a.f1]else pvs a.f3:=by cases a; simp only[pv]; rfl
mutual
def s9:S_impl_Pat→List Int
 | .mk k m _ l=>(bif decide (k=3)&& !decide (m= -1)then [m]else [])++s9s l
def s9s:List S_impl_Pat→List Int
 | []=> []
 | x::r=>s9 x++s9s r
end
theorem s9_e(a:S_impl_Pat):s9 a=(bif decide (a.f0=3)&& !decide (a.f1= -1)then [a.f1]else [])++s9s a.f3:=by cases a; simp only[s9]; rfl
theorem s9s_app: ∀(a b:List S_impl_Pat),s9s (a++b)=s9s a++s9s b
 | [],b=>rfl
 | x::r,b=>by simp only[List.cons_append,s9s,s9s_app r b,List.append_assoc]
theorem s9s_one(a:S_impl_Pat):s9s [a]=s9 a:=by simp only[s9s,List.append_nil]
mutual
theorem s9_len: ∀e,(s9 e).length≤wPat e
 | .mk k m s l=>by
  have:=s9s_len l
  simp only[s9,wPat,List.length_append]
  cases (decide (k=3)&& !decide (m= -1))<;>simp<;>omega
theorem s9s_len: ∀l,(s9s l).length≤wPats l
 | []=>by simp [s9s]
 | x::r=>by have:=s9_len x; have:=s9s_len r; simp only[s9s,wPats,List.length_append]; omega
end
mutual
theorem pv_cnt: ∀e,(pv e).length≤pcnt e
 | .mk k m s l=>by
  have:=pvs_cnt l
  simp only[pv,pcnt]
  cases decide (k=3)<;>simp<;>omega
theorem pvs_cnt: ∀l,(pvs l).length≤pcnts l
 | []=>by simp [pvs]
 | x::r=>by have:=pv_cnt x; have:=pvs_cnt r; simp only[pvs,pcnts,List.length_append]; omega
end
def pok:Nat→Int→S_impl_Pat→Bool
 | 0,_,_=>false
 | d+1,sl,p=>pshp sl p.f0 p.f1 p.f2 p.f3.length&&p.f3.all (pok d sl)
theorem dl_takeP{α:Type}(w:α→Nat): ∀(l:List α) (i:Nat),dl w (l.take i)≤dl w l
 | [],i=>by simp
 | a::r,0=>by simp only[List.take_zero,dl]; omega
 | a::r,i+1=>by have:=dl_takeP w r i; simp only[List.take_succ_cons,dl]; omega
theorem l9Slots_ok: ∀(n:Nat),n≤1099511627776→ ∀(a:S_impl_Pat),wPat a<n→p_spec_l9Slots n a.f0 a.f1 a.f2 a.f3=some (s9 a)
 | 0,_,a,h=>by omega
 | n+1,hn,a,h=>by
  have ih:=l9Slots_ok n (by omega)
  rw[p_spec_l9Slots_succ,s9_e]
  unfold s_spec_l9Slots
  rw[wPat_e]at h
  have h2:=dl_len wPat a.f3
  have loop: ∀(l:List S_impl_Pat) (P:List Int),P.length≤1→dl wPat l+3<n+1→ ∀(body:List Int×Int→Option ((List Int×Int)⊕(List Int×Int×Bool))),(∀(i:Nat) b (L:List Int),l[i]? =some b→body (L,(i:Int))=(p_spec_l9Slots n b.f0 b.f1 b.f2 b.f3).bind fun c=>(app2 8 L c).bind fun v=>some (.inl (v,((i+1:Nat):Int))))→(∀L:List Int,body (L,(l.length:Int))=some (.inr (L,(l.length:Int),false)))→loopN body n (P,(0:Int))=some (P++s9s l,(l.length:Int),false):=by
   intro l P hP hw body hs he
   have h2:=dl_len wPat l
   have hl:=loop_for (body:=body) (fun i=>(P++s9s (l.take i),(i:Int))) (len:=l.length) (r:=(P++s9s l,(l.length:Int),false)) (fun i hi=>by
    have ha:l[i]? =some l[i]:=List.getElem?_eq_getElem hi
    generalize l[i]=b at ha
    have hd:=dl_mem wPat (List.mem_of_getElem? ha)
    have e:s9s (l.take (i+1))=s9s (l.take i)++s9 b:=by rw[←take_succ' ha,s9s_app,s9s_one]
    have hb:=s9s_len (l.take (i+1))
    have hb2:wPats (l.take (i+1))≤dl wPat l:=by
     rw[wPats_dl]; exact dl_takeP wPat l (i+1)
    rw[e,List.length_append]at hb
    have hap:app2 8 (P++s9s (l.take i)) (s9 b)=some (P++s9s (l.take (i+1))):=by
     rw[e, ←List.append_assoc]
     exact app2_of (by rw[List.length_append]; omega) (by rw[List.length_append]; simp only[maxLen]; omega)
    rw[hs i b _ ha,ih b (by omega),Option.bind_some,hap]; rfl) (by rw[List.take_length]; exact he _) (n:=n) (by omega)
   simpa [s9s]using hl
  have b1:=fun P hP=>loop a.f3 P hP (by omega) (p_spec_l9Slots_b1 n (p_spec_l9Slots n) a.f3) (fun i b L hb=>by
   have hi:=lt_len hb
   simp only[p_spec_l9Slots_b1,lt_int hb,cond_true,ix_nat,hb,Option.bind_some,wrap_succ (show i<4611686018427387904 by omega)]) (fun L=>by simp only[p_spec_l9Slots_b1,not_lt_int,cond_false])
  have b2:=fun P hP=>loop a.f3 P hP (by omega) (p_spec_l9Slots_b2 n (p_spec_l9Slots n) a.f3) (fun i b L hb=>by
   have hi:=lt_len hb
   simp only[p_spec_l9Slots_b2,lt_int hb,cond_true,ix_nat,hb,Option.bind_some,wrap_succ (show i<4611686018427387904 by omega)]) (fun L=>by simp only[p_spec_l9Slots_b2,not_lt_int,cond_false])
  have hap:app2 8 ([]:List Int) [a.f1]=some [a.f1]:=app2_of (by simp) (by simp [maxLen])
  rw[hap]
  simp only[Option.bind_some,b1 [a.f1] (by simp),b2 [] (by simp)]
  cases decide (a.f0=3)<;>cases decide (a.f1= -1)<;>rfl
theorem l9Look_ok: ∀(n:Nat),n≤1099511627776→ ∀(a:S_impl_Pat) (sl:Int) (d:Nat) (t:Int),0≤sl→sl≤400→d≤10→ -1≤t→t≤300→wPat a<n→p_spec_l9Look n a.f0 a.f1 a.f2 a.f3 sl (d:Int) t=some (tk (pok d sl a) (pcnt a) t)
 | 0,_,a,sl,d,t,s0,s1,hd,t0,t1,h=>by omega
 | n+1,hn,a,sl,d,t,s0,s1,hd,t0,t1,h=>by
  have ih:=l9Look_ok n (by omega)
  rw[p_spec_l9Look_succ]
  unfold s_spec_l9Look
  rw[wPat_e]at h
  have hl:=dl_len wPat a.f3
  rw[l9Shape_ok n a.f0 a.f1 a.f2 a.f3 sl s0 s1 (by omega) (by omega)]
  have hp:=pcnt_e a
  cases d with
  | zero=>
   rw[decide_eq_true (show((0:Nat):Int)<1 by omega)]
   have e:tk (pok 0 sl a) (pcnt a) t= -1:=rfl
   rw[e]; rfl
  | succ d=>
   rw[decide_eq_false (show ¬ ((d+1:Nat):Int)<1 by omega)]
   by_cases ht:t<1
   ·rw[decide_eq_true ht,tk_neg _ _ (by omega)]; rfl
   rw[decide_eq_false ht]
   have hx:pok (d+1) sl a=(pshp sl a.f0 a.f1 a.f2 a.f3.length&&a.f3.all (pok d sl)):=rfl
   rw[hx]
   rw[pcnts_sum]at hp
   generalize pcnt a=q at hp ⊢
   simp only[cond_false,Option.bind_some]
   cases hs:pshp sl a.f0 a.f1 a.f2 a.f3.length with
   | false=>rfl
   | true=>
    simp only[Bool.not_true,cond_false,Bool.true_and]
    generalize a.f3=l at h hl hp ⊢
    have e1:IntKind.wrap .i64 (((d+1:Nat):Int) - 1)=(d:Int):=by rw[wrap_i64 (by omega) (by omega)]; omega
    rw[wrap_i64 (n:=t - 1) (by omega) (by omega)]
    obtain⟨x,h1,h2⟩:=loop_left (body:=p_spec_l9Look_b1 n (p_spec_l9Look n) sl ((d+1:Nat):Int) l) l (pok d sl) pcnt (fun t r=>r.1=t) (fun i b t hb q0 q1=>by
     have hm:=dl_mem wPat (List.mem_of_getElem? hb)
     have hi:=lt_len hb
     left
     simp only[p_spec_l9Look_b1,lt_int hb,cond_true,ix_nat,hb,Option.bind_some,decide_eq_true q0,e1,ih b sl d t s0 s1 (by omega) (by omega) q1 (by omega),wrap_succ (show i<4611686018427387904 by omega)]) (fun i t ht hi=>⟨(t,(i:Int),false),by
      simp only[p_spec_l9Look_b1,decide_eq_true (show(i:Int)<(l.length:Int)by omega),cond_true,Option.bind_some,decide_eq_false (show ¬ 0≤t by omega),cond_false],rfl⟩) (fun t=>⟨(t,(l.length:Int),false),by simp only[p_spec_l9Look_b1,not_lt_int,cond_false,Option.bind_some],rfl⟩) l 0 (t - 1) n rfl (by omega) (by omega) (by omega) (by omega)
    have h1:loopN (p_spec_l9Look_b1 n (p_spec_l9Look n) sl ((d+1:Nat):Int) l) n (t - 1,(0:Int))=some x:=h1
    rw[h1]
    obtain⟨x1,x2,x3⟩:=x
    simp only at h2
    subst h2
    simp only[Option.bind_some,Option.some.injEq]
    rw[runL_tk (pok d sl) pcnt l (by omega)]
    unfold tk
    by_cases z:((sumz pcnt l:Nat):Int)≤t - 1
    ·rw[decide_eq_true z,decide_eq_true (show(q:Int)≤t by omega)]
     cases l.all (pok d sl)
     ·rfl
     ·simp only[Bool.and_true,cond_true]; omega
    ·rw[decide_eq_false z,decide_eq_false (show ¬ (q:Int)≤t by omega)]
     cases l.all (pok d sl)<;>rfl
/-- All unlike. -/
def onceI(l:List Int):Bool:=allI (fun i a=> !(decide (a∈l.take i))) 0 l
theorem onceI_iff(l:List Int):onceI l=true↔l.Nodup:=by
 unfold onceI
 rw[allI_iff,List.Nodup,List.pairwise_iff_getElem]
 constructor
 ·intro h i j hi hj hij e
  have:=h j l[j] (List.getElem?_eq_getElem hj)
  simp only[Nat.zero_add,Bool.not_eq_true',decide_eq_false_iff_not]at this
  exact this (by rw[←e]; exact List.mem_take_iff_getElem.2 ⟨i,by omega,rfl⟩)
 ·intro h j a ha
  simp only[Nat.zero_add,Bool.not_eq_true',decide_eq_false_iff_not]
  intro hm
  obtain⟨i,hi,e⟩:=List.mem_take_iff_getElem.1 hm
  obtain⟨hj,rfl⟩:=List.getElem?_eq_some_iff.1 ha
  exact h i j (by omega) hj (by omega) e
theorem any_mem(a:Int)(l:List Int):(l.all fun b=> !decide (b=a))= !decide (a∈l):=by
 rw[Bool.eq_iff_iff,List.all_eq_true]
 simp only[Bool.not_eq_true',decide_eq_false_iff_not]
 exact⟨fun h hm=>h a hm rfl,fun h b hb e=>h (e ▸ hb)⟩
def fitB(sl:Int)(p:S_impl_Pat):Bool:=(decide (0≤sl)&&decide (sl≤400))&&((pok 10 sl p&&decide ((pcnt p:Int)≤300))&&onceI (s9 p))
theorem spec_PatFits_ok(n:Nat)(hn:n≤1099511627776)(a:S_impl_Pat)(sl:Int)(h:wPat a+400<n):p_spec_PatFits n a.f0 a.f1 a.f2 a.f3 sl=some (fitB sl a):=by
 unfold p_spec_PatFits fitB
 rw[l1In_ok,Option.bind_some]
 by_cases hr:0≤sl∧sl≤400
 ·have h1:=l9Look_ok n hn a sl 10 300 hr.1 hr.2 (by omega) (by omega) (by omega) (by omega)
  have h1:p_spec_l9Look n a.f0 a.f1 a.f2 a.f3 sl (10:Int) 300=_:=h1
  have hs:=s9_len a
  rw[decide_eq_true hr.1,decide_eq_true hr.2,h1,l9Slots_ok n hn a (by omega)]
  unfold tk
  simp only[Bool.and_self,Bool.not_true,cond_false,Option.bind_some,Bool.true_and]
  cases q:(pok 10 sl a&&decide ((pcnt a:Int)≤300))with
  | false=>rfl
  | true=>
   simp only[Bool.and_eq_true,decide_eq_true_eq]at q
   rw[cond_true,decide_eq_false (show ¬ 300 - (pcnt a:Int)<0 by omega),cond_false,Bool.true_and]
   generalize s9 a=l at hs
   rw[loop_okI l (fun i b=> !decide (b∈l.take i)) (fun i b hb=>by
    have hi:=lt_len hb
    simp only[p_spec_PatFits_b1,lt_int hb,cond_true]
    have hlen:(l.take i).length=i:=by rw[List.length_take]; omega
    have e:=loop_ok (body:=p_spec_PatFits_b2 n l (i:Int)) (l.take i) (fun c=> !decide (c=b)) (fun j c hc=>by
     have hj:=lt_len hc
     rw[hlen]at hj
     have hc2:l[j]? =some c:=by rw[List.getElem?_take_of_lt hj]at hc; exact hc
     simp only[p_spec_PatFits_b2,decide_eq_true (show(j:Int)<(i:Int)by omega),cond_true,ix_nat,hc2,hb,Option.bind_some,wrap_succ (show j<4611686018427387904 by omega)]
     cases decide (c=b)<;>rfl) (by rw[hlen]; simp only[p_spec_PatFits_b2,not_lt_int,cond_false]) (n:=n) (by rw[hlen]; omega)
    rw[e,any_mem,wrap_succ (show i<4611686018427387904 by omega)]
    cases decide (b∈l.take i)<;>rfl) (by simp only[p_spec_PatFits_b1,not_lt_int,cond_false]) (by omega)]
   unfold onceI
   cases allI (fun i b=> !decide (b∈l.take i)) 0 l<;>rfl
 ·have e:(decide (0≤sl)&&decide (sl≤400))=false:=by
   by_cases a:0≤sl
   ·rw[decide_eq_false (show ¬ sl≤400 from fun b=>hr ⟨a,b⟩),Bool.and_false]
   ·rw[decide_eq_false a]; rfl
  rw[e]; rfl
end Go.Own.Q
