/- When an expression is right: the program's answer and the reference's, in plain Lean. No conditions. -/
import Derived.Test.YtgeomhdbckjkcaaW24TermOkB
set_option linter.unusedVariables false
set_option linter.unusedSimpArgs false
set_option linter.unnecessarySimpa false
namespace Go.Own.Q
open Go Go.Proofs

/-- With what it has; as a pattern, or not. -/
def shp(pat:Bool)(k m:Int)(s:List UInt8)(ne nc:Int):Bool:=
 bif decide (k=9)then(!pat&&BG k m s ne)&&(decide (1≤nc)&&decide (nc≤6))
 else !decide (0<nc)&&(BG k m s ne&&(bif pat then !decide (6<k)else !(decide (k=3)&&decide (s=[95]))))
theorem shp0_9(m:Int)(s:List UInt8)(ne:Int):BG 9 m s ne=(decide (m=0)&&(decide (s=[])&&decide (ne=1))):=rfl
theorem KZ(n:Nat)(k m:Int)(s:List UInt8)(l:List aA)(c:List aC)(pat:Bool)(h:s.length<n)(hn:s.length<4611686018427387904):kG n k m s l c pat=some (shp pat k m s l.length c.length):=by
 unfold kG shp BG
 rw[NQ n s h hn,Fc n s h hn,Rn n s]
 simp only[uW,Option.bind_some]
 generalize (l.length:Int)=ne
 generalize (c.length:Int)=nc
 by_cases h1:k=1
 ·subst h1
  cases decide (0<nc)<;>cases decide (0≤m)<;>cases decide (m≤1000000000000)<;>cases decide (s=[])<;>cases decide (ne=0)<;>cases pat<;>rfl
 by_cases h2:k=2
 ·subst h2
  cases decide (0<nc)<;>cases decide (m=0)<;>cases gU s<;>cases decide (ne=0)<;>cases pat<;>rfl
 by_cases h3:k=3
 ·subst h3
  cases decide (0<nc)<;>cases decide (m=0)<;>cases HL s<;>cases decide (ne=0)<;>cases pat<;>cases decide (s=[95])<;>rfl
 by_cases h4:k=4
 ·subst h4
  cases decide (0<nc)<;>cases decide (m=0)<;>cases decide (s=[])<;>cases decide (ne≤20)<;>cases pat<;>rfl
 by_cases h5:k=5
 ·subst h5
  cases decide (0<nc)<;>cases decide (m=0)<;>cases decide (s=[])<;>cases decide (ne≤20)<;>cases pat<;>rfl
 by_cases h6:k=6
 ·subst h6
  cases decide (0<nc)<;>cases decide (m=0)<;>cases decide (s=[])<;>cases decide (2≤ne)<;>cases decide (ne≤6)<;>cases pat<;>rfl
 by_cases h7:k=7
 ·subst h7
  cases decide (0<nc)<;>cases decide (m=0)<;>cases LO s<;>cases decide (ne=2)<;>cases pat<;>rfl
 by_cases h8:k=8
 ·subst h8
  cases decide (0<nc)<;>cases decide (m=0)<;>cases gU s<;>cases decide (ne≤4)<;>cases pat<;>rfl
 by_cases h9:k=9
 ·subst h9
  cases decide (m=0)<;>cases decide (s=[])<;>cases decide (ne=1)<;>cases decide (1≤nc)<;>cases decide (nc≤6)<;>cases pat<;>rfl
 rw[decide_eq_false h1,decide_eq_false h2,decide_eq_false h3,decide_eq_false h4,decide_eq_false h5,decide_eq_false h6,decide_eq_false h7,decide_eq_false h8,decide_eq_false h9]
 cases decide (0<nc)<;>cases decide (m=0)<;>rfl
/-- What the program asks of one that is no pattern. -/
theorem shp_expr(k m:Int)(s:List UInt8)(ne nc:Int):(BG k m s ne&&(!(decide (k=3)&&decide (s=[95]))&&(!(!(decide (k=9) == decide (0<nc)))&& !decide (6<nc))))=shp false k m s ne nc:=by
 unfold shp
 by_cases h9:k=9
 ·subst h9
  by_cases a:0<nc
  ·rw[decide_eq_true a,decide_eq_true (show(1:Int)≤nc by omega)]
   by_cases b:6<nc
   ·rw[decide_eq_true b,decide_eq_false (show ¬ nc≤6 by omega)]; cases BG 9 m s ne<;>rfl
   ·rw[decide_eq_false b,decide_eq_true (show nc≤6 by omega)]; cases BG 9 m s ne<;>rfl
  ·rw[decide_eq_false a,decide_eq_false (show ¬ (1:Int)≤nc by omega)]
   cases BG 9 m s ne<;>rfl
 ·rw[decide_eq_false h9]
  by_cases a:0<nc
  ·rw[decide_eq_true a]; cases BG k m s ne<;>cases (decide (k=3)&&decide (s=[95]))<;>rfl
  ·rw[decide_eq_false a,decide_eq_false (show ¬ 6<nc by omega)]
   cases BG k m s ne<;>cases (decide (k=3)&&decide (s=[95]))<;>rfl
theorem shp_pat(k m:Int)(s:List UInt8)(ne nc:Int):(!decide (6<k)&&(!decide (0<nc)&&BG k m s ne))=shp true k m s ne nc:=by
 unfold shp
 by_cases h9:k=9
 ·subst h9; rfl
 ·rw[decide_eq_false h9]
  cases decide (6<k)<;>cases decide (0<nc)<;>cases BG k m s ne<;>rfl

/-! names, counts -/
mutual
def pW:aA→List (List UInt8)
 | .mk k _ s l _=>bif decide (k=3)then(bif decide (s=[95])then []else [s])else kO l
def kO:List aA→List (List UInt8)
 | []=> []
 | x::r=>pW x++kO r
end
theorem Uh(a:aA):pW a=bif decide (a.f0=3)then(bif decide (a.f2=[95])then []else [a.f2])else kO a.f3:=by cases a; simp only[pW]; rfl
theorem GZ: ∀(a b:List aA),kO (a++b)=kO a++kO b
 | [],b=>rfl
 | x::r,b=>by simp only[List.cons_append,kO,GZ r b,List.append_assoc]
theorem Mo(a:aA):kO [a]=pW a:=by simp only[kO,List.append_nil]
mutual
theorem JX: ∀e,(pW e).length≤bH e
 | .mk k m s l c=>by
  have:=Bb l
  simp only[pW,bH]
  cases decide (k=3)<;>cases decide (s=[95])<;>simp<;>omega
theorem Bb: ∀l,(kO l).length≤yR l
 | []=>by simp [kO]
 | x::r=>by have:=JX x; have:=Bb r; simp only[kO,yR,List.length_append]; omega
end
mutual
def oR:aA→Nat
 | .mk _ _ _ l c=>1+lM l+JD c
def lM:List aA→Nat
 | []=>0
 | x::r=>oR x+lM r
def JD:List aC→Nat
 | []=>0
 | x::r=>LT x+JD r
def LT:aC→Nat
 | .two p x=>oR p+oR x
end
theorem QA(a:aA):oR a=1+lM a.f3+JD a.f4:=by cases a; simp only[oR]; rfl
theorem Wk(a:aC):LT a=oR a.p+oR a.x:=by cases a; simp only[LT]; rfl
theorem GW: ∀l,lM l=qO oR l
 | []=>rfl
 | x::r=>by simp only[lM,qO,GW r]
theorem HF: ∀l,JD l=qO LT l
 | []=>rfl
 | x::r=>by simp only[JD,qO,HF r]
/-- No deeper than told, each as told. -/
def xok:Nat→Bool→aA→Bool
 | 0,_,_=>false
 | d+1,pat,e=>shp pat e.f0 e.f1 e.f2 e.f3.length e.f4.length&&(e.f3.all (xok d pat)&&e.f4.all (fun c=>LP (pW c.p)&&(xok d true c.p&&xok d false c.x)))
def cok(d:Nat)(c:aC):Bool:=LP (pW c.p)&&(xok d true c.p&&xok d false c.x)
theorem Oc(d:Nat)(pat:Bool)(e:aA):xok (d+1) pat e=(shp pat e.f0 e.f1 e.f2 e.f3.length e.f4.length&&(e.f3.all (xok d pat)&&e.f4.all (cok d))):=rfl
def exprOk(e:aA):Bool:=xok 10 false e&&decide ((oR e:Int)≤300)
def patOk(e:aA):Bool:=(xok 10 true e&&decide ((oR e:Int)≤300))&&LP (pW e)

/-! how many may be left -/
end Go.Own.Q
