/- Numbers' bytes, told by division. No conditions. -/
import Derived.Test.YtgeomhdbckjkcaaW24Bits
set_option linter.unusedVariables false
set_option linter.unusedSimpArgs false
set_option linter.unnecessarySimpa false
namespace Go.Own.Q
open Go Go.Proofs

theorem QC(n:Nat)(h:n<256):IntKind.wrap .u8 (n:Int)=n:=by
 have e:IntKind.wrap .u8 (n:Int)=(n:Int) % 256:=rfl
 rw[e]; omega
def GU:Nat→Nat→List Int
 | 0,x=> [(x:Int)]
 | k+1,x=>if x<128 then [(x:Int)]else((128+x % 128:Nat):Int)::GU k (x / 128)
theorem SA(x:Nat):Int.fdiv (x:Int) (2 ^ 7)=((x / 128:Nat):Int):=by
 have e:(2:Int) ^ 7=128:=by decide
 rw[e,Int.fdiv_eq_ediv_of_nonneg _ (by omega)]; omega
theorem Gc: ∀(k x:Nat) (b:List Int) (n m:Nat),x<128 ^ (k+1)→x<2 ^ 62→k<m→b.length+k+1<1099511627776→((loopN (cL n) m (b,(x:Int))).bind fun q=>fQ 1 q.1 [IntKind.wrap .u8 q.2.1])=some (b++GU k x)
 | k,x,b,n,m,h1,h2,hm,hb=>by
  obtain⟨m,rfl⟩: ∃q,m=q+1:=⟨m - 1,by omega⟩
  by_cases h:128≤x
  ·cases k with
   | zero=>simp at h1; omega
   | succ k=>
    have ha:=Eu b (IntKind.wrap .u8 (bits .or .i64 (128:Int) (bits .and .i64 (x:Int) (127:Int)))) (by omega)
    have hv:IntKind.wrap .u8 (bits .or .i64 (128:Int) (bits .and .i64 (x:Int) (127:Int)))=((128+x % 128:Nat):Int):=by
     rw[Wr x h2,or128 _ (Nat.mod_lt _ (by omega)),QC _ (by have:=Nat.mod_lt x (show 0<128 by omega); omega)]
    have hd:x / 128<128 ^ (k+1):=by
     rw[Nat.pow_succ]at h1
     exact Nat.div_lt_of_lt_mul (by rw[Nat.mul_comm]; exact h1)
    have ih:=Gc k (x / 128) (b++[((128+x % 128:Nat):Int)]) n m hd (by omega) (by omega) (by simp only[List.length_append,List.length_singleton]; omega)
    rw[hv]at ha
    have e:GU (k+1) x=((128+x % 128:Nat):Int)::GU k (x / 128):=if_neg (by omega)
    rw[e]
    simp only[loopN,cL,decide_eq_true (show(127:Int)<(x:Int)by omega),cond_true,hv,ha,Option.bind_some,SA]
    rw[ih,List.append_assoc]; rfl
  ·have e:GU k x=[(x:Int)]:=by
    cases k with
    | zero=>rfl
    | succ k=>exact if_pos (by omega)
   rw[e]
   simp only[loopN,cL,decide_eq_false (show ¬ (127:Int)<(x:Int)by omega),cond_false,Option.bind_some,QC x (by omega)]
   exact Eu b _ (by omega)
/-- A number's bytes. -/
def uQ(v:Int):List Int:=GU 6 (zig (oV v)).toNat
theorem dK(n:Nat)(b:List Int)(v:Int)(hn:20<n)(hb:b.length<549755813888):bL n b v=some (b++uQ v):=by
 have hc:=HE v
 have hz:=IT hc.1 hc.2
 obtain⟨x,hx⟩: ∃x:Nat,zig (oV v)=x:=⟨(zig (oV v)).toNat,by omega⟩
 rw[Pb]
 unfold Ku uQ
 rw[hx]at hz ⊢
 rw[Int.toNat_natCast]
 exact Gc 6 x b n n (by omega) (by omega) (by omega) (by omega)
end Go.Own.Q
