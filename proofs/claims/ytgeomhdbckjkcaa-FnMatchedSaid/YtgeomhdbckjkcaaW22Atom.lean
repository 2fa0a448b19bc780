/- Lemmas. No conditions. -/
import Derived.Test.YtgeomhdbckjkcaaW22F22
set_option linter.unusedVariables false
set_option linter.unusedSimpArgs false
namespace Go.Own.Q
open Go Go.Proofs
theorem tF(n:Nat)(x a b:Int):cH n x a b=some (decide (a≤x)&&decide (x≤b)):=by
 unfold cH
 cases decide (a≤x)<;>rfl
theorem uT(n:Nat)(x a b:Int):dA n x a b=some (decide (a≤x)&&decide (x≤b)):=by
 unfold dA
 cases decide (a≤x)<;>rfl
theorem Ep(n:Nat)(x:Int):gD n x=some (decide (97≤x)&&decide (x≤122)):=by
 unfold gD
 cases decide (97≤x)<;>rfl
theorem Ch(n:Nat)(x:Int):eT n x=some (decide (48≤x)&&decide (x≤57)):=by
 unfold eT
 cases decide (48≤x)<;>rfl
def oY(c:Int):Bool:=decide (97≤c)&&decide (c≤122)
def Gq(c:Int):Bool:=decide (48≤c)&&decide (c≤57)
def Hs(i:Nat)(c:UInt8):Bool:=oY c.toNat||(!decide (i=0)&&(Gq c.toNat||decide ((c.toNat:Int)=95)))
def uB(s:List UInt8):Bool:=AI Hs 0 s&&(decide (1≤(s.length:Int))&&decide ((s.length:Int)≤20))
theorem Ey(c:UInt8):IntKind.wrap .i64 ((c.toNat:Nat):Int)=c.toNat:=by
 have:=c.toNat_lt
 exact wrap_i64 (by omega) (by omega)
theorem Mm(i:Nat):decide ((i:Int)=0)=decide (i=0):=by
 by_cases h:i=0<;>simp [h]
theorem vS(n:Nat)(s:List UInt8)(h:s.length<n)(hn:s.length<4611686018427387904):jN n s=some (uB s):=by
 unfold jN
 rw[Ax s Hs (fun i c hc=>by
  have hi:=gY hc
  simp only[kW,fJ hc,cond_true,FL,hc,Option.map_some,Option.bind_some,tF,Ey,bE (show i<4611686018427387904 by omega),Mm]
  unfold Hs oY Gq
  cases decide (97≤(c.toNat:Int))<;>cases decide ((c.toNat:Int)≤122)<;>cases decide (i=0)<;>cases decide (48≤(c.toNat:Int))<;>cases decide ((c.toNat:Int)≤57)<;>cases decide ((c.toNat:Int)=95)<;>rfl) (by simp only[kW,bB,cond_false]) h]
 unfold uB
 by_cases c:AI Hs 0 s=true
 ·rw[if_pos c,c]; simp only[Option.bind_some,tF,Bool.true_and]
 ·rw[if_neg c]; simp only[Bool.not_eq_true]at c; rw[c]; rfl
theorem vW(n:Nat)(s:List UInt8)(h:s.length<n)(hn:s.length<4611686018427387904):jO n s=some (uB s):=by
 unfold jO
 rw[Ax s Hs (fun i c hc=>by
  have hi:=gY hc
  simp only[lA,fJ hc,cond_true,FL,hc,Option.map_some,Option.bind_some,Ep,Ch,bE (show i<4611686018427387904 by omega),Mm]
  unfold Hs oY Gq
  cases decide (97≤(c.toNat:Int))<;>cases decide ((c.toNat:Int)≤122)<;>cases decide (i=0)<;>cases decide (48≤(c.toNat:Int))<;>cases decide ((c.toNat:Int)≤57)<;>cases decide ((c.toNat:Int)=95)<;>rfl) (by simp only[lA,bB,cond_false]) h]
 unfold uB
 by_cases c:AI Hs 0 s=true
 ·rw[if_pos c,c]; simp only[Option.bind_some,uT,Bool.true_and]
 ·rw[if_neg c]; simp only[Bool.not_eq_true]at c; rw[c]; rfl
end Go.Own.Q
