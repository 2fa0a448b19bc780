/- Bits of small numbers. No conditions. -/
import Derived.Test.YtgeomhdbckjkcaaW24PutCode
set_option linter.unusedVariables false
set_option linter.unusedSimpArgs false
set_option linter.unnecessarySimpa false
namespace Go.Own.Q
open Go Go.Proofs

theorem AN(a b:Nat)(ha:a<2 ^ 62)(hb:b<2 ^ 62):bits .and .i64 (a:Int) (b:Int)=((a&&& b:Nat):Int):=by
 have h:a&&& b≤a:=Nat.and_le_left
 have e:bits .and .i64 (a:Int) (b:Int)=IntKind.wrap .i64 (((BitVec.ofInt 64 (a:Int)&&& BitVec.ofInt 64 (b:Int)).toNat:Nat):Int):=rfl
 rw[e,BitVec.toNat_and,BitVec.ofInt_natCast,BitVec.ofInt_natCast,BitVec.toNat_ofNat,BitVec.toNat_ofNat,Nat.mod_eq_of_lt (by omega),Nat.mod_eq_of_lt (by omega)]
 exact wrap_i64 (by omega) (by omega)
theorem wE(a b:Nat)(ha:a<2 ^ 62)(hb:b<2 ^ 62):bits .or .i64 (a:Int) (b:Int)=((a||| b:Nat):Int):=by
 have h:a||| b<2 ^ 62:=Nat.or_lt_two_pow ha hb
 have e:bits .or .i64 (a:Int) (b:Int)=IntKind.wrap .i64 (((BitVec.ofInt 64 (a:Int)||| BitVec.ofInt 64 (b:Int)).toNat:Nat):Int):=rfl
 rw[e,BitVec.toNat_or,BitVec.ofInt_natCast,BitVec.ofInt_natCast,BitVec.toNat_ofNat,BitVec.toNat_ofNat,Nat.mod_eq_of_lt (by omega),Nat.mod_eq_of_lt (by omega)]
 exact wrap_i64 (by omega) (by omega)
theorem Wr(a:Nat)(ha:a<2 ^ 62):bits .and .i64 (a:Int) 127=((a % 128:Nat):Int):=by
 have:=AN a 127 ha (by omega)
 have e:a&&& 127=a % 2 ^ 7:=Nat.and_two_pow_sub_one_eq_mod a 7
 rw[e]at this
 exact this
theorem and1(a:Nat)(ha:a<2 ^ 62):bits .and .i64 (a:Int) 1=((a % 2:Nat):Int):=by
 have:=AN a 1 ha (by omega)
 have e:a&&& 1=a % 2 ^ 1:=Nat.and_two_pow_sub_one_eq_mod a 1
 rw[e]at this
 exact this
theorem orAdd(a m k:Nat)(ha:a<2 ^ k)(h:a+m*2 ^ k<2 ^ 62):bits .or .i64 (a:Int) ((m*2 ^ k:Nat):Int)=((a+m*2 ^ k:Nat):Int):=by
 rw[wE a _ (by omega) (by omega)]
 have:=Nat.shiftLeft_add_eq_or_of_lt ha m
 rw[Nat.shiftLeft_eq]at this
 rw[Nat.or_comm, ←this,Nat.add_comm]
theorem or128(m:Nat)(h:m<128):bits .or .i64 128 (m:Int)=((128+m:Nat):Int):=by
 have:=orAdd m 1 7 (by omega) (by omega)
 rw[show(1*2 ^ 7:Nat)=128 from rfl]at this
 rw[show((m+128:Nat):Int)=((128+m:Nat):Int)by omega]at this
 rw[←this]
 have e1:=wE 128 m (by omega) (by omega)
 have e2:=wE m 128 (by omega) (by omega)
 rw[Nat.or_comm]at e1
 exact e1.trans e2.symm
end Go.Own.Q
