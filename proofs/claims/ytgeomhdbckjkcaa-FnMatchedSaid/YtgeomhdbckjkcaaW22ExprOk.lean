/- Lemmas. No conditions. -/
import Derived.Test.YtgeomhdbckjkcaaW22Copy
set_option linter.unusedVariables false
set_option linter.unusedSimpArgs false
set_option linter.unnecessarySimpa false
namespace Go.Own.Q
open Go Go.Proofs
/-! by itself -/
def AH(k m:Int)(s:List UInt8)(ne:Int):Bool:=
 bif decide (k=1)then(decide (0≤m)&&decide (m≤1000000000000))&&(decide (s=[])&&decide (ne=0))
 else bif decide (k=2)then decide (m=0)&&(pX s&&decide (ne=0))
 else bif decide (k=3)then decide (m=0)&&(Fu s&&decide (ne=0))
 else bif decide (k=4)then decide (m=0)&&(decide (s=[])&&decide (ne≤20))
 else bif decide (k=5)then decide (m=0)&&(decide (s=[])&&decide (ne≤20))
 else bif decide (k=6)then decide (m=0)&&(decide (s=[])&&(decide (2≤ne)&&decide (ne≤6)))
 else bif decide (k=7)then decide (m=0)&&(Pa s&&decide (ne=2))
 else bif decide (k=8)then decide (m=0)&&(pX s&&decide (ne≤4))
 else bif decide (k=9)then decide (m=0)&&(decide (s=[])&&decide (ne=1))
 else false
theorem LR(n:Nat)(k m:Int)(s:List UInt8)(ne:Int)(h:s.length<n)(hn:s.length<4611686018427387904):kI n k m s ne=some (AH k m s ne):=by
 unfold kI AH
 rw[LM n s h hn,GF n s h hn,UD n s]
 simp only[uT,Option.bind_some]
 cases decide (k=1)with
 | true=>cases decide (0≤m)<;>cases decide (m≤1000000000000)<;>cases decide (s=[])<;>rfl
 | false=>
 cases decide (k=2)with
 | true=>cases decide (m=0)<;>cases pX s<;>rfl
 | false=>
 cases decide (k=3)with
 | true=>cases decide (m=0)<;>cases Fu s<;>rfl
 | false=>
 cases decide (k=4)with
 | true=>cases decide (m=0)<;>cases decide (s=[])<;>rfl
 | false=>
 cases decide (k=5)with
 | true=>cases decide (m=0)<;>cases decide (s=[])<;>rfl
 | false=>
 cases decide (k=6)with
 | true=>cases decide (m=0)<;>cases decide (s=[])<;>rfl
 | false=>
 cases decide (k=7)with
 | true=>cases decide (m=0)<;>cases Pa s<;>rfl
 | false=>
 cases decide (k=8)with
 | true=>cases decide (m=0)<;>cases pX s<;>rfl
 | false=>
 cases decide (k=9)with
 | true=>cases decide (m=0)<;>cases decide (s=[])<;>rfl
 | false=>rfl
def shp(pat:Bool)(k m:Int)(s:List UInt8)(ne nc:Int):Bool:=
 bif decide (k=9)then(!pat&&AH k m s ne)&&(decide (1≤nc)&&decide (nc≤6))
 else !decide (0<nc)&&(AH k m s ne&&(bif pat then !decide (6<k)else !(decide (k=3)&&decide (s=[95]))))
theorem shp0_9(m:Int)(s:List UInt8)(ne:Int):AH 9 m s ne=(decide (m=0)&&(decide (s=[])&&decide (ne=1))):=rfl
theorem LY(n:Nat)(k m:Int)(s:List UInt8)(l:List aA)(c:List aC)(pat:Bool)(h:s.length<n)(hn:s.length<4611686018427387904):kB n k m s l c pat=some (shp pat k m s l.length c.length):=by
 unfold kB shp AH
 rw[OC n s h hn,GA n s h hn,Ty n s]
 simp only[tF,Option.bind_some]
 generalize (l.length:Int)=ne
 generalize (c.length:Int)=nc
 by_cases h1:k=1
 ·subst h1
  cases decide (0<nc)<;>cases decide (0≤m)<;>cases decide (m≤1000000000000)<;>cases decide (s=[])<;>cases decide (ne=0)<;>cases pat<;>rfl
 by_cases h2:k=2
 ·subst h2
  cases decide (0<nc)<;>cases decide (m=0)<;>cases pX s<;>cases decide (ne=0)<;>cases pat<;>rfl
 by_cases h3:k=3
 ·subst h3
  cases decide (0<nc)<;>cases decide (m=0)<;>cases Fu s<;>cases decide (ne=0)<;>cases pat<;>cases decide (s=[95])<;>rfl
 by_cases h4:k=4
 ·subst h4
  cases decide (0<nc)<;>cases decide (m=0)<;>cases decide (s=[])<;>cases decide (ne≤20)<;>cases pat<;>rfl
 by_cases h5:k=5
 ·subst h5
  cases decide (0<nc)<;>cases decide (m=0)<;>cases decide (s=[])<;>cases decide (ne≤20)<;>cases pat<;>rfl
 by_cases h6:k=6
 ·subst h6
  cases decide (0<nc)<;>cases decide (m=0)<;>cases decide (s=[])<;>cases decide (2≤ne)<;>cases decide (ne≤6)<;>cases pat<;>rfl
 by_cases h7:k=7
 ·subst h7
  cases decide (0<nc)<;>cases decide (m=0)<;>cases Pa s<;>cases decide (ne=2)<;>cases pat<;>rfl
 by_cases h8:k=8
 ·subst h8
  cases decide (0<nc)<;>cases decide (m=0)<;>cases pX s<;>cases decide (ne≤4)<;>cases pat<;>rfl
 by_cases h9:k=9
 ·subst h9
  cases decide (m=0)<;>cases decide (s=[])<;>cases decide (ne=1)<;>cases decide (1≤nc)<;>cases decide (nc≤6)<;>cases pat<;>rfl
 rw[decide_eq_false h1,decide_eq_false h2,decide_eq_false h3,decide_eq_false h4,decide_eq_false h5,decide_eq_false h6,decide_eq_false h7,decide_eq_false h8,decide_eq_false h9]
 cases decide (0<nc)<;>cases decide (m=0)<;>rfl
theorem shp_expr(k m:Int)(s:List UInt8)(ne nc:Int):(AH k m s ne&&(!(decide (k=3)&&decide (s=[95]))&&(!(!(decide (k=9) == decide (0<nc)))&& !decide (6<nc))))=shp false k m s ne nc:=by
 unfold shp
 by_cases h9:k=9
 ·subst h9
  by_cases a:0<nc
  ·rw[decide_eq_true a,decide_eq_true (show(1:Int)≤nc by omega)]
   by_cases b:6<nc
   ·rw[decide_eq_true b,decide_eq_false (show ¬ nc≤6 by omega)]; cases AH 9 m s ne<;>rfl
   ·rw[decide_eq_false b,decide_eq_true (show nc≤6 by omega)]; cases AH 9 m s ne<;>rfl
  ·rw[decide_eq_false a,decide_eq_false (show ¬ (1:Int)≤nc by omega)]
   cases AH 9 m s ne<;>rfl
 ·rw[decide_eq_false h9]
  by_cases a:0<nc
  ·rw[decide_eq_true a]; cases AH k m s ne<;>cases (decide (k=3)&&decide (s=[95]))<;>rfl
  ·rw[decide_eq_false a,decide_eq_false (show ¬ 6<nc by omega)]
   cases AH k m s ne<;>cases (decide (k=3)&&decide (s=[95]))<;>rfl
theorem Ig(k m:Int)(s:List UInt8)(ne nc:Int):(!decide (6<k)&&(!decide (0<nc)&&AH k m s ne))=shp true k m s ne nc:=by
 unfold shp
 by_cases h9:k=9
 ·subst h9; rfl
 ·rw[decide_eq_false h9]
  cases decide (6<k)<;>cases decide (0<nc)<;>cases AH k m s ne<;>rfl
/-! names, counts -/
mutual
def jJ:aA→List (List UInt8)
 | .mk k _ s l _=>bif decide (k=3)then(bif decide (s=[95])then []else [s])else eS l
def eS:List aA→List (List UInt8)
 | []=> []
 | x::r=>jJ x++eS r
end
theorem Iy(a:aA):jJ a=bif decide (a.f0=3)then(bif decide (a.f2=[95])then []else [a.f2])else eS a.f3:=by cases a; simp only[jJ]; rfl
theorem xO: ∀(a b:List aA),eS (a++b)=eS a++eS b
 | [],b=>rfl
 | x::r,b=>by simp only[List.cons_append,eS,xO r b,List.append_assoc]
theorem By(a:aA):eS [a]=jJ a:=by simp only[eS,List.append_nil]
mutual
theorem FT: ∀e,(jJ e).length≤aN e
 | .mk k m s l c=>by
  have:=xN l
  simp only[jJ,aN]
  cases decide (k=3)<;>cases decide (s=[95])<;>simp<;>omega
theorem xN: ∀l,(eS l).length≤vY l
 | []=>by simp [eS]
 | x::r=>by have:=FT x; have:=xN r; simp only[eS,vY,List.length_append]; omega
end
mutual
def lO:aA→Nat
 | .mk _ _ _ l c=>1+kN l+Hr c
def kN:List aA→Nat
 | []=>0
 | x::r=>lO x+kN r
def Hr:List aC→Nat
 | []=>0
 | x::r=>Mb x+Hr r
def Mb:aC→Nat
 | .two p x=>lO p+lO x
end
theorem Mc(a:aA):lO a=1+kN a.f3+Hr a.f4:=by cases a; simp only[lO]; rfl
theorem aBb(a:aC):Mb a=lO a.p+lO a.x:=by cases a; simp only[Mb]; rfl
theorem Gr: ∀l,kN l=sJ lO l
 | []=>rfl
 | x::r=>by simp only[kN,sJ,Gr r]
theorem Hb: ∀l,Hr l=sJ Mb l
 | []=>rfl
 | x::r=>by simp only[Hr,sJ,Hb r]
def xok:Nat→Bool→aA→Bool
 | 0,_,_=>false
 | d+1,pat,e=>shp pat e.f0 e.f1 e.f2 e.f3.length e.f4.length&&(e.f3.all (xok d pat)&&e.f4.all (fun c=>MY (jJ c.p)&&(xok d true c.p&&xok d false c.x)))
def cok(d:Nat)(c:aC):Bool:=MY (jJ c.p)&&(xok d true c.p&&xok d false c.x)
theorem FP(d:Nat)(pat:Bool)(e:aA):xok (d+1) pat e=(shp pat e.f0 e.f1 e.f2 e.f3.length e.f4.length&&(e.f3.all (xok d pat)&&e.f4.all (cok d))):=rfl
def exprOk(e:aA):Bool:=xok 10 false e&&decide ((lO e:Int)≤300)
def wK(e:aA):Bool:=(xok 10 true e&&decide ((lO e:Int)≤300))&&MY (jJ e)
/-! how many may be left -/
def tk(b:Bool)(c:Nat)(t:Int):Int:=bif b&&decide ((c:Int)≤t)then t - c else -1
theorem Zy(b:Bool)(c:Nat){t:Int}(h:t<c):tk b c t= -1:=by
 unfold tk; rw[decide_eq_false (by omega),Bool.and_false]; rfl
theorem TD(b:Bool)(c:Nat)(t:Int)(h: -1≤t): -1≤tk b c t∧tk b c t≤t:=by
 unfold tk
 by_cases q:(b&&decide ((c:Int)≤t))=true
 ·rw[q]
  simp only[Bool.and_eq_true,decide_eq_true_eq]at q
  simp only[cond_true]; omega
 ·rw[Bool.not_eq_true]at q; rw[q]; simp only[cond_false]; omega
def MW{α:Type}(ok:α→Bool)(c:α→Nat):List α→Int→Int
 | [],t=>t
 | a::r,t=>bif decide (0≤t)then MW ok c r (tk (ok a) (c a) t)else t
theorem FX{α:Type}(ok:α→Bool)(c:α→Nat): ∀(l:List α) {t:Int},t<0→MW ok c l t=t
 | [],t,h=>rfl
 | a::r,t,h=>by unfold MW; rw[decide_eq_false (by omega)]; rfl
theorem Ij{α:Type}(ok:α→Bool)(c:α→Nat): ∀(l:List α) {t:Int},0≤t→MW ok c l t=tk (l.all ok) (sJ c l) t
 | [],t,h=>by
  unfold MW tk
  rw[decide_eq_true (show((sJ c []:Nat):Int)≤t by simp only[sJ]; omega)]
  simp [sJ]
 | a::r,t,h=>by
  unfold MW
  rw[decide_eq_true h,cond_true,List.all_cons]
  have e:sJ c (a::r)=c a+sJ c r:=rfl
  rw[e]
  by_cases q:(ok a&&decide ((c a:Int)≤t))=true
  ·have e1:tk (ok a) (c a) t=t - c a:=by unfold tk; rw[q]; rfl
   simp only[Bool.and_eq_true,decide_eq_true_eq]at q
   rw[e1,Ij ok c r (by omega),q.1,Bool.true_and]
   unfold tk
   by_cases z:((sJ c r:Nat):Int)≤t - c a
   ·rw[decide_eq_true z,decide_eq_true (by omega)]
    cases r.all ok
    ·rfl
    ·simp only[Bool.and_true,cond_true]; omega
   ·rw[decide_eq_false z,decide_eq_false (by omega)]
    cases r.all ok<;>rfl
  ·have e1:tk (ok a) (c a) t= -1:=by unfold tk; rw[Bool.not_eq_true]at q; rw[q]; rfl
   rw[e1,FX ok c r (by omega)]
   unfold tk
   cases ha:ok a with
   | false=>rfl
   | true=>
    rw[ha,Bool.true_and,decide_eq_true_eq]at q
    rw[decide_eq_false (by omega),Bool.and_false]; rfl
theorem CH{α ρ:Type}{body:Int×Int→Option ((Int×Int)⊕ρ)}(l:List α)(ok:α→Bool)(c:α→Nat)(Out:Int→ρ→Prop)(hs: ∀(i:Nat) a (t:Int),l[i]? =some a→0≤t→t≤300→body (t,(i:Int))=some (.inl (tk (ok a) (c a) t,((i+1:Nat):Int)))∨(∃r,body (t,(i:Int))=some (.inr r)∧Out (-1) r∧tk (ok a) (c a) t= -1))
  (hn: ∀(i:Nat) (t:Int),t<0→i<l.length→ ∃r,body (t,(i:Int))=some (.inr r)∧Out t r)(he: ∀t:Int, ∃r,body (t,(l.length:Int))=some (.inr r)∧Out t r): ∀(r:List α) (i:Nat) (t:Int) (n:Nat),l.drop i=r→ -1≤t→t≤300→r.length<n→i≤l.length→ ∃x,loopN body n (t,(i:Int))=some x∧Out (MW ok c r t) x
 | [],i,t,n,hr,h0,h1,hm,hi=>by
  obtain⟨m,rfl⟩: ∃m,n=m+1:=⟨n - 1,by simp at hm; omega⟩
  have:i=l.length:=by
   have:=congrArg List.length hr
   simp at this; omega
  subst this
  obtain⟨x,h2,h3⟩:=he t
  simp only[loopN,h2]
  exact⟨x,rfl,h3⟩
 | a::r,i,t,n,hr,h0,h1,hm,hi=>by
  obtain⟨m,rfl⟩: ∃m,n=m+1:=⟨n - 1,by simp at hm; omega⟩
  have hil:i<l.length:=by
   have:=congrArg List.length hr
   simp at this; omega
  have ha:l[i]? =some a:=by
   have:=congrArg (·[0]?) hr
   simpa using this
  have hr':l.drop (i+1)=r:=by
   have:=congrArg List.tail hr
   simpa using this
  have e:MW ok c (a::r) t=bif decide (0≤t)then MW ok c r (tk (ok a) (c a) t)else t:=rfl
  rw[e]
  by_cases q:0≤t
  ·rw[decide_eq_true q,cond_true]
   have hb:=TD (ok a) (c a) t h0
   rcases hs i a t ha q h1 with h2 | ⟨x,h2,h3,h4⟩
   ·simp only[loopN,h2]
    exact CH l ok c Out hs hn he r (i+1) _ m hr' hb.1 (by omega) (by simp at hm; omega) (by omega)
   ·simp only[loopN,h2]
    rw[h4,FX ok c r (by omega)]
    exact⟨x,rfl,h3⟩
  ·rw[decide_eq_false q,cond_false]
   obtain⟨x,h2,h3⟩:=hn i t (by omega) hil
   simp only[loopN,h2]
   exact⟨x,rfl,h3⟩
end Go.Own.Q
