/- What is read as a number is as it is written. No conditions. -/
import Derived.Test.YtjfgchodolnmcaaW32GetNum
set_option linter.unusedVariables false
set_option linter.unusedSimpArgs false
set_option linter.unnecessarySimpa false
namespace Go.Own.Q
open Go Go.Proofs

theorem pT(k x:Nat)(h:x<128):AU k x=[(x:Int)]:=by
 cases k with
 | zero=>rfl
 | succ k=>exact if_pos h
theorem Eb(k x:Nat)(h: ¬ x<128):AU (k+1) x=((128+x % 128:Nat):Int)::AU k (x / 128):=if_neg h
theorem Lc: ∀(k x:Nat),x<128 ^ (k+1)→AU (k+1) x=AU k x
 | 0,x,h=>by rw[pT _ x (by simpa using h),pT _ x (by simpa using h)]
 | k+1,x,h=>by
  by_cases h2:x<128
  ·rw[pT _ x h2,pT _ x h2]
  ·rw[Eb _ x h2,Eb _ x h2,Lc k (x / 128)]
   rw[Nat.pow_succ]at h
   exact Nat.div_lt_of_lt_mul (by rw[Nat.mul_comm]; exact h)
theorem Iv: ∀(k i acc:Nat) (l:List Int) (x c:Nat),(∀e∈l,0≤e∧e<256)→IR (k+1) i acc l=some (x,c)→ ∃y,x=acc+y*2 ^ (7*i)∧l.take c=AU k y∧y<128 ^ (k+1)∧(0<i→y≠0)∧c≤l.length
 | k,i,acc,[],x,c,hb,h=>by cases h
 | k,i,acc,e::r,x,c,hb,h=>by
  have he:=hb e List.mem_cons_self
  obtain⟨e,rfl⟩: ∃e':Nat,e=e':=⟨e.toNat,by omega⟩
  have hr: ∀e∈r,0≤e∧e<256:=fun z hz=>hb z (List.mem_cons_of_mem _ hz)
  simp only[IR,Int.toNat_natCast]at h
  by_cases h128:(128:Int)≤(e:Int)
  ·rw[decide_eq_true h128,cond_true]at h
   cases k with
   | zero=>cases h
   | succ k=>
    cases hg:IR (k+1) (i+1) (acc+(e % 128)*2 ^ (7*i)) r with
    | none=>rw[hg]at h; cases h
    | some p=>
     obtain⟨x',c'⟩:=p
     rw[hg]at h
     simp only[Option.map_some,Option.some.injEq,Prod.mk.injEq]at h
     obtain⟨rfl,rfl⟩:=h
     obtain⟨y,y1,y2,y3,y4,y5⟩:=Iv k (i+1) _ r x' c' hr hg
     have hy:=y4 (by omega)
     refine⟨e % 128+128*y, ?_, ?_, ?_,fun _=>by omega,by simp only[List.length_cons]; omega⟩
     ·rw[y1,show 7*(i+1)=7*i+7 by omega,Nat.pow_add,Nat.add_mul,Nat.add_assoc]
      congr 2
      rw[show(2:Nat) ^ 7=128 from rfl, ←Nat.mul_assoc,Nat.mul_comm (y*_) 128,Nat.mul_assoc]
     ·rw[List.take_succ_cons,y2,Eb _ _ (by omega)]
      have e1:(e % 128+128*y) / 128=y:=by omega
      have e2:128+(e % 128+128*y) % 128=e:=by omega
      rw[e1,e2]
     ·rw[Nat.pow_succ,Nat.mul_comm]
      have:e % 128<128:=Nat.mod_lt _ (by omega)
      omega
  ·rw[decide_eq_false h128,cond_false]at h
   cases hz:(decide ((e:Int)=0)&&decide (0<i))with
   | true=>rw[hz]at h; cases h
   | false=>
    rw[hz]at h
    simp only[cond_false,Option.some.injEq,Prod.mk.injEq]at h
    obtain⟨h1,h2⟩:=h
    subst h2
    have hm:e % 128=e:=Nat.mod_eq_of_lt (by omega)
    rw[hm]at h1
    refine⟨e,h1.symm, ?_, ?_,fun hi h0=> ?_,by simp⟩
    ·rw[pT _ e (by omega)]; rfl
    ·exact Nat.lt_of_lt_of_le (show e<128 ^ 1 by omega) (Nat.pow_le_pow_right (by omega) (by omega))
    ·subst h0
     rw[decide_eq_true (show((0:Nat):Int)=0 from rfl),decide_eq_true hi]at hz
     cases hz
theorem Lo{x:Nat}(h:okR (fA x)=true):zig (iZ (fA x))=x:=by
 unfold okR at h
 simp only[Bool.and_eq_true,decide_eq_true_eq]at h
 have hc:iZ (fA x)=fA x:=by
  unfold iZ
  simp only[if_neg (show ¬ (1000000000000:Int)<fA x by omega)]
  by_cases h3:fA x > -1000000000000
  ·rw[if_pos h3]
  ·rw[if_neg h3]; omega
 rw[hc]
 unfold zig
 unfold fA at h ⊢
 by_cases ho:x % 2=1
 ·rw[if_pos ho]at h ⊢
  rw[decide_eq_true (by omega),cond_true,wrap_i64 (n:=(-2)*_) (by omega) (by omega),wrap_i64 (by omega) (by omega)]; omega
 ·rw[if_neg ho]at h ⊢
  rw[decide_eq_false (by omega),cond_false,wrap_i64 (by omega) (by omega)]; omega
theorem Np{l:List Int}{x c:Nat}(hb: ∀e∈l,0≤e∧e<256)(h:IR 6 0 0 l=some (x,c))(hr:okR (fA x)=true):l.take c=qE (fA x)∧c≤l.length:=by
 obtain⟨y,y1,y2,y3,_,y5⟩:=Iv 5 0 0 l x c hb h
 have:x=y:=by rw[y1]; simp
 subst this
 refine⟨?_,y5⟩
 unfold qE
 rw[Lo hr,Int.toNat_natCast,Lc 5 x y3,y2]
end Go.Own.Q
