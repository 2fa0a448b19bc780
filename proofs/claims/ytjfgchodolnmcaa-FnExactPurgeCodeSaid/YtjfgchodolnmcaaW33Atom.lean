/- Numbers, bytes, atoms, in plain Lean. No conditions. -/
import Derived.Test.YtjfgchodolnmcaaW33F33m
set_option linter.unusedVariables false
set_option linter.unusedSimpArgs false
set_option linter.unnecessarySimpa false
namespace Go.Own.Q
open Go Go.Proofs

theorem rU(n:Nat)(x a b:Int):aW n x a b=some (decide (a≤x)&&decide (x≤b)):=by
 unfold aW
 cases decide (a≤x)<;>rfl
theorem jA(n:Nat)(x a b:Int):aQ n x a b=some (decide (a≤x)&&decide (x≤b)):=by
 unfold aQ
 cases decide (a≤x)<;>rfl
theorem EA(n:Nat)(x:Int):fH n x=some (decide (97≤x)&&decide (x≤122)):=by
 unfold fH
 cases decide (97≤x)<;>rfl
theorem Bf(n:Nat)(x:Int):dY n x=some (decide (48≤x)&&decide (x≤57)):=by
 unfold dY
 cases decide (48≤x)<;>rfl
def qY(c:Int):Bool:=decide (97≤c)&&decide (c≤122)
def JO(c:Int):Bool:=decide (48≤c)&&decide (c≤57)
def Gm(i:Nat)(c:UInt8):Bool:=qY c.toNat||(!decide (i=0)&&(JO c.toNat||decide ((c.toNat:Int)=95)))
def kL(s:List UInt8):Bool:=qK Gm 0 s&&(decide (1≤(s.length:Int))&&decide ((s.length:Int)≤20))
theorem PY(c:UInt8):IntKind.wrap .i64 ((c.toNat:Nat):Int)=c.toNat:=by
 have:=c.toNat_lt
 exact wrap_i64 (by omega) (by omega)
theorem Oi(i:Nat):decide ((i:Int)=0)=decide (i=0):=by
 by_cases h:i=0<;>simp [h]
theorem pH(n:Nat)(s:List UInt8)(h:s.length<n)(hn:s.length<4611686018427387904):gM n s=some (kL s):=by
 unfold gM
 rw[qM s Gm (fun i c hc=>by
  have hi:=bI hc
  simp only[kP,bT hc,cond_true,Hc,hc,Option.map_some,Option.bind_some,rU,PY,aN (show i<4611686018427387904 by omega),Oi]
  unfold Gm qY JO
  cases decide (97≤(c.toNat:Int))<;>cases decide ((c.toNat:Int)≤122)<;>cases decide (i=0)<;>cases decide (48≤(c.toNat:Int))<;>cases decide ((c.toNat:Int)≤57)<;>cases decide ((c.toNat:Int)=95)<;>rfl) (by simp only[kP,aM,cond_false]) h]
 unfold kL
 by_cases c:qK Gm 0 s=true
 ·rw[if_pos c,c]; simp only[Option.bind_some,rU,Bool.true_and]
 ·rw[if_neg c]; simp only[Bool.not_eq_true]at c; rw[c]; rfl
theorem pL(n:Nat)(s:List UInt8)(h:s.length<n)(hn:s.length<4611686018427387904):gN n s=some (kL s):=by
 unfold gN
 rw[qM s Gm (fun i c hc=>by
  have hi:=bI hc
  simp only[kY,bT hc,cond_true,Hc,hc,Option.map_some,Option.bind_some,EA,Bf,aN (show i<4611686018427387904 by omega),Oi]
  unfold Gm qY JO
  cases decide (97≤(c.toNat:Int))<;>cases decide ((c.toNat:Int)≤122)<;>cases decide (i=0)<;>cases decide (48≤(c.toNat:Int))<;>cases decide ((c.toNat:Int)≤57)<;>cases decide ((c.toNat:Int)=95)<;>rfl) (by simp only[kY,aM,cond_false]) h]
 unfold kL
 by_cases c:qK Gm 0 s=true
 ·rw[if_pos c,c]; simp only[Option.bind_some,jA,Bool.true_and]
 ·rw[if_neg c]; simp only[Bool.not_eq_true]at c; rw[c]; rfl

end Go.Own.Q
