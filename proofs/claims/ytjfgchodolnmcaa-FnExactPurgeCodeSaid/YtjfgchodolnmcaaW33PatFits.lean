/- When a pattern by slots fits: the program's answer and the reference's, in plain Lean. No conditions. -/
import Derived.Test.YtjfgchodolnmcaaW33Left
set_option linter.unusedVariables false
set_option linter.unusedSimpArgs false
set_option linter.unnecessarySimpa false
namespace Go.Own.Q
open Go Go.Proofs

def JL(sl k m:Int)(s:List UInt8)(ne:Int):Bool:=bif decide (k=3)then decide (s=[])&&(decide (ne=0)&&(decide (-1≤m)&&decide (m≤sl - 1)))else !decide (6<k)&&Qi k m s ne
theorem Jh(n:Nat)(k m:Int)(s:List UInt8)(l:List aA)(sl:Int)(h0:0≤sl)(h1:sl≤400)(h:s.length<n)(hn:s.length<4611686018427387904):kA n k m s l sl=some (JL sl k m s l.length):=by
 unfold kA JL Qi
 rw[BM n s h hn,wrap_i64 (n:=sl - 1) (by omega) (by omega)]
 simp only[rU,Option.bind_some]
 generalize (l.length:Int)=ne
 by_cases h1:k=1
 ·subst h1
  cases decide (0≤m)<;>cases decide (m≤1000000000000)<;>cases decide (s=[])<;>cases decide (ne=0)<;>rfl
 by_cases h2:k=2
 ·subst h2
  cases decide (m=0)<;>cases fO s<;>cases decide (ne=0)<;>rfl
 by_cases h3:k=3
 ·subst h3
  cases decide (s=[])<;>cases decide (ne=0)<;>rfl
 by_cases h4:k=4
 ·subst h4
  cases decide (m=0)<;>cases decide (s=[])<;>cases decide (ne≤20)<;>rfl
 by_cases h5:k=5
 ·subst h5
  cases decide (m=0)<;>cases decide (s=[])<;>cases decide (ne≤20)<;>rfl
 by_cases h6:k=6
 ·subst h6
  cases decide (m=0)<;>cases decide (s=[])<;>cases decide (2≤ne)<;>cases decide (ne≤6)<;>rfl
 rw[decide_eq_false h1,decide_eq_false h2,decide_eq_false h3,decide_eq_false h4,decide_eq_false h5,decide_eq_false h6]
 simp only[cond_false]
 by_cases h7:6<k
 ·rw[decide_eq_true h7]; rfl
 ·rw[decide_eq_false (show ¬ k=7 by omega),decide_eq_false (show ¬ k=8 by omega),decide_eq_false (show ¬ k=9 by omega)]
  cases decide (6<k)<;>rfl
mutual
def pV:aA→Nat
 | .mk _ _ _ l=>1+oS l
def oS:List aA→Nat
 | []=>0
 | x::r=>pV x+oS r
end
theorem OZ(a:aA):pV a=1+oS a.f3:=by cases a; simp only[pV]; rfl
theorem GF: ∀l,oS l=mK pV l
 | []=>rfl
 | x::r=>by simp only[oS,mK,GF r]
theorem KO(a:aA):cO a=3+a.f2.length+dl cO a.f3:=by cases a; simp only[cO,mD]; rfl
mutual
def pv:aA→List Int
 | .mk k m _ l=>bif decide (k=3)then [m]else pvs l
def pvs:List aA→List Int
 | []=> []
 | x::r=>pv x++pvs r
end
theorem pv_e(a:aA):pv a=bif decide (a.f0=3)then [a.f1]else pvs a.f3:=by cases a; simp only[pv]; rfl
mutual
def s9:aA→List Int
 | .mk k m _ l=>(bif decide (k=3)&& !decide (m= -1)then [m]else [])++s9s l
def s9s:List aA→List Int
 | []=> []
 | x::r=>s9 x++s9s r
end
theorem s9_e(a:aA):s9 a=(bif decide (a.f0=3)&& !decide (a.f1= -1)then [a.f1]else [])++s9s a.f3:=by cases a; simp only[s9]; rfl
theorem Kj: ∀(a b:List aA),s9s (a++b)=s9s a++s9s b
 | [],b=>rfl
 | x::r,b=>by simp only[List.cons_append,s9s,Kj r b,List.append_assoc]
theorem Pn(a:aA):s9s [a]=s9 a:=by simp only[s9s,List.append_nil]
mutual
theorem OU: ∀e,(s9 e).length≤cO e
 | .mk k m s l=>by
  have:=HQ l
  simp only[s9,cO,List.length_append]
  cases (decide (k=3)&& !decide (m= -1))<;>simp<;>omega
theorem HQ: ∀l,(s9s l).length≤zE l
 | []=>by simp [s9s]
 | x::r=>by have:=OU x; have:=HQ r; simp only[s9s,zE,List.length_append]; omega
end
mutual
theorem OY: ∀e,(pv e).length≤pV e
 | .mk k m s l=>by
  have:=Ko l
  simp only[pv,pV]
  cases decide (k=3)<;>simp<;>omega
theorem Ko: ∀l,(pvs l).length≤oS l
 | []=>by simp [pvs]
 | x::r=>by have:=OY x; have:=Ko r; simp only[pvs,oS,List.length_append]; omega
end
def pok:Nat→Int→aA→Bool
 | 0,_,_=>false
 | d+1,sl,p=>JL sl p.f0 p.f1 p.f2 p.f3.length&&p.f3.all (pok d sl)
theorem JH{α:Type}(w:α→Nat): ∀(l:List α) (i:Nat),dl w (l.take i)≤dl w l
 | [],i=>by simp
 | a::r,0=>by simp only[List.take_zero,dl]; omega
 | a::r,i+1=>by have:=JH w r i; simp only[List.take_succ_cons,dl]; omega
theorem Dx: ∀(n:Nat),n≤1099511627776→ ∀(a:aA),cO a<n→dB n a.f0 a.f1 a.f2 a.f3=some (s9 a)
 | 0,_,a,h=>by omega
 | n+1,hn,a,h=>by
  have ih:=Dx n (by omega)
  rw[vC,s9_e]
  unfold jX
  rw[KO]at h
  have h2:=bK cO a.f3
  have loop: ∀(l:List aA) (P:List Int),P.length≤1→dl cO l+3<n+1→ ∀(body:List Int×Int→Option ((List Int×Int)⊕(List Int×Int×Bool))),(∀(i:Nat) b (L:List Int),l[i]? =some b→body (L,(i:Int))=(dB n b.f0 b.f1 b.f2 b.f3).bind fun c=>(tP 8 L c).bind fun v=>some (.inl (v,((i+1:Nat):Int))))→(∀L:List Int,body (L,(l.length:Int))=some (.inr (L,(l.length:Int),false)))→loopN body n (P,(0:Int))=some (P++s9s l,(l.length:Int),false):=by
   intro l P hP hw body hs he
   have h2:=bK cO l
   have hl:=iQ (body:=body) (fun i=>(P++s9s (l.take i),(i:Int))) (len:=l.length) (r:=(P++s9s l,(l.length:Int),false)) (fun i hi=>by
    have ha:l[i]? =some l[i]:=List.getElem?_eq_getElem hi
    generalize l[i]=b at ha
    have hd:=cU cO (List.mem_of_getElem? ha)
    have e:s9s (l.take (i+1))=s9s (l.take i)++s9 b:=by rw[←tB ha,Kj,Pn]
    have hb:=HQ (l.take (i+1))
    have hb2:zE (l.take (i+1))≤dl cO l:=by
     rw[mD]; exact JH cO l (i+1)
    rw[e,List.length_append]at hb
    have hap:tP 8 (P++s9s (l.take i)) (s9 b)=some (P++s9s (l.take (i+1))):=by
     rw[e, ←List.append_assoc]
     exact wX (by rw[List.length_append]; omega) (by rw[List.length_append]; simp only[maxLen]; omega)
    rw[hs i b _ ha,ih b (by omega),Option.bind_some,hap]; rfl) (by rw[List.take_length]; exact he _) (n:=n) (by omega)
   simpa [s9s]using hl
  have b1:=fun P hP=>loop a.f3 P hP (by omega) (fX n (dB n) a.f3) (fun i b L hb=>by
   have hi:=bI hb
   simp only[fX,bT hb,cond_true,bB,hb,Option.bind_some,aN (show i<4611686018427387904 by omega)]) (fun L=>by simp only[fX,aM,cond_false])
  have b2:=fun P hP=>loop a.f3 P hP (by omega) (fW n (dB n) a.f3) (fun i b L hb=>by
   have hi:=bI hb
   simp only[fW,bT hb,cond_true,bB,hb,Option.bind_some,aN (show i<4611686018427387904 by omega)]) (fun L=>by simp only[fW,aM,cond_false])
  have hap:tP 8 ([]:List Int) [a.f1]=some [a.f1]:=wX (by simp) (by simp [maxLen])
  rw[hap]
  simp only[Option.bind_some,b1 [a.f1] (by simp),b2 [] (by simp)]
  cases decide (a.f0=3)<;>cases decide (a.f1= -1)<;>rfl
theorem GR: ∀(n:Nat),n≤1099511627776→ ∀(a:aA) (sl:Int) (d:Nat) (t:Int),0≤sl→sl≤400→d≤10→ -1≤t→t≤300→cO a<n→dO n a.f0 a.f1 a.f2 a.f3 sl (d:Int) t=some (tk (pok d sl a) (pV a) t)
 | 0,_,a,sl,d,t,s0,s1,hd,t0,t1,h=>by omega
 | n+1,hn,a,sl,d,t,s0,s1,hd,t0,t1,h=>by
  have ih:=GR n (by omega)
  rw[xA]
  unfold lH
  rw[KO]at h
  have hl:=bK cO a.f3
  rw[Jh n a.f0 a.f1 a.f2 a.f3 sl s0 s1 (by omega) (by omega)]
  have hp:=OZ a
  cases d with
  | zero=>
   rw[decide_eq_true (show((0:Nat):Int)<1 by omega)]
   have e:tk (pok 0 sl a) (pV a) t= -1:=rfl
   rw[e]; rfl
  | succ d=>
   rw[decide_eq_false (show ¬ ((d+1:Nat):Int)<1 by omega)]
   by_cases ht:t<1
   ·rw[decide_eq_true ht,Sv _ _ (by omega)]; rfl
   rw[decide_eq_false ht]
   have hx:pok (d+1) sl a=(JL sl a.f0 a.f1 a.f2 a.f3.length&&a.f3.all (pok d sl)):=rfl
   rw[hx]
   rw[GF]at hp
   generalize pV a=q at hp ⊢
   simp only[cond_false,Option.bind_some]
   cases hs:JL sl a.f0 a.f1 a.f2 a.f3.length with
   | false=>rfl
   | true=>
    simp only[Bool.not_true,cond_false,Bool.true_and]
    generalize a.f3=l at h hl hp ⊢
    have e1:IntKind.wrap .i64 (((d+1:Nat):Int) - 1)=(d:Int):=by rw[wrap_i64 (by omega) (by omega)]; omega
    rw[wrap_i64 (n:=t - 1) (by omega) (by omega)]
    obtain⟨x,h1,h2⟩:=GN (body:=dK n (dO n) sl ((d+1:Nat):Int) l) l (pok d sl) pV (fun t r=>r.1=t) (fun i b t hb q0 q1=>by
     have hm:=cU cO (List.mem_of_getElem? hb)
     have hi:=bI hb
     left
     simp only[dK,bT hb,cond_true,bB,hb,Option.bind_some,decide_eq_true q0,e1,ih b sl d t s0 s1 (by omega) (by omega) q1 (by omega),aN (show i<4611686018427387904 by omega)]) (fun i t ht hi=>⟨(t,(i:Int),false),by
      simp only[dK,decide_eq_true (show(i:Int)<(l.length:Int)by omega),cond_true,Option.bind_some,decide_eq_false (show ¬ 0≤t by omega),cond_false],rfl⟩) (fun t=>⟨(t,(l.length:Int),false),by simp only[dK,aM,cond_false,Option.bind_some],rfl⟩) l 0 (t - 1) n rfl (by omega) (by omega) (by omega) (by omega)
    have h1:loopN (dK n (dO n) sl ((d+1:Nat):Int) l) n (t - 1,(0:Int))=some x:=h1
    rw[h1]
    obtain⟨x1,x2,x3⟩:=x
    simp only at h2
    subst h2
    simp only[Option.bind_some,Option.some.injEq]
    rw[Kk (pok d sl) pV l (by omega)]
    unfold tk
    by_cases z:((mK pV l:Nat):Int)≤t - 1
    ·rw[decide_eq_true z,decide_eq_true (show(q:Int)≤t by omega)]
     cases l.all (pok d sl)
     ·rfl
     ·simp only[Bool.and_true,cond_true]; omega
    ·rw[decide_eq_false z,decide_eq_false (show ¬ (q:Int)≤t by omega)]
     cases l.all (pok d sl)<;>rfl
/-- All unlike. -/
def MW(l:List Int):Bool:=qK (fun i a=> !(decide (a∈l.take i))) 0 l
theorem Ll(l:List Int):MW l=true↔l.Nodup:=by
 unfold MW
 rw[nM,List.Nodup,List.pairwise_iff_getElem]
 constructor
 ·intro h i j hi hj hij e
  have:=h j l[j] (List.getElem?_eq_getElem hj)
  simp only[Nat.zero_add,Bool.not_eq_true',decide_eq_false_iff_not]at this
  exact this (by rw[←e]; exact List.mem_take_iff_getElem.2 ⟨i,by omega,rfl⟩)
 ·intro h j a ha
  simp only[Nat.zero_add,Bool.not_eq_true',decide_eq_false_iff_not]
  intro hm
  obtain⟨i,hi,e⟩:=List.mem_take_iff_getElem.1 hm
  obtain⟨hj,rfl⟩:=List.getElem?_eq_some_iff.1 ha
  exact h i j (by omega) hj (by omega) e
theorem Qd(a:Int)(l:List Int):(l.all fun b=> !decide (b=a))= !decide (a∈l):=by
 rw[Bool.eq_iff_iff,List.all_eq_true]
 simp only[Bool.not_eq_true',decide_eq_false_iff_not]
 exact⟨fun h hm=>h a hm rfl,fun h b hb e=>h (e ▸ hb)⟩
def Qn(sl:Int)(p:aA):Bool:=(decide (0≤sl)&&decide (sl≤400))&&((pok 10 sl p&&decide ((pV p:Int)≤300))&&MW (s9 p))
theorem By(n:Nat)(hn:n≤1099511627776)(a:aA)(sl:Int)(h:cO a+400<n):hU n a.f0 a.f1 a.f2 a.f3 sl=some (Qn sl a):=by
 unfold hU Qn
 rw[rU,Option.bind_some]
 by_cases hr:0≤sl∧sl≤400
 ·have h1:=GR n hn a sl 10 300 hr.1 hr.2 (by omega) (by omega) (by omega) (by omega)
  have h1:dO n a.f0 a.f1 a.f2 a.f3 sl (10:Int) 300=_:=h1
  have hs:=OU a
  rw[decide_eq_true hr.1,decide_eq_true hr.2,h1,Dx n hn a (by omega)]
  unfold tk
  simp only[Bool.and_self,Bool.not_true,cond_false,Option.bind_some,Bool.true_and]
  cases q:(pok 10 sl a&&decide ((pV a:Int)≤300))with
  | false=>rfl
  | true=>
   simp only[Bool.and_eq_true,decide_eq_true_eq]at q
   rw[cond_true,decide_eq_false (show ¬ 300 - (pV a:Int)<0 by omega),cond_false,Bool.true_and]
   generalize s9 a=l at hs
   rw[qM l (fun i b=> !decide (b∈l.take i)) (fun i b hb=>by
    have hi:=bI hb
    simp only[jO,bT hb,cond_true]
    have hlen:(l.take i).length=i:=by rw[List.length_take]; omega
    have e:=LB (body:=fZ n l (i:Int)) (l.take i) (fun c=> !decide (c=b)) (fun j c hc=>by
     have hj:=bI hc
     rw[hlen]at hj
     have hc2:l[j]? =some c:=by rw[List.getElem?_take_of_lt hj]at hc; exact hc
     simp only[fZ,decide_eq_true (show(j:Int)<(i:Int)by omega),cond_true,bB,hc2,hb,Option.bind_some,aN (show j<4611686018427387904 by omega)]
     cases decide (c=b)<;>rfl) (by rw[hlen]; simp only[fZ,aM,cond_false]) (n:=n) (by rw[hlen]; omega)
    rw[e,Qd,aN (show i<4611686018427387904 by omega)]
    cases decide (b∈l.take i)<;>rfl) (by simp only[jO,aM,cond_false]) (by omega)]
   unfold MW
   cases qK (fun i b=> !decide (b∈l.take i)) 0 l<;>rfl
 ·have e:(decide (0≤sl)&&decide (sl≤400))=false:=by
   by_cases a:0≤sl
   ·rw[decide_eq_false (show ¬ sl≤400 from fun b=>hr ⟨a,b⟩),Bool.and_false]
   ·rw[decide_eq_false a]; rfl
  rw[e]; rfl
end Go.Own.Q
