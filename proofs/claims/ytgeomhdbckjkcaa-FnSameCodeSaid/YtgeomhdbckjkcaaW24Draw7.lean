/- Bent expressions and patterns, terms that fit, what DrawMatch draws. No conditions. -/
import Derived.Test.YtgeomhdbckjkcaaW24Draw6
set_option linter.unusedVariables false
set_option linter.unusedSimpArgs false
set_option linter.unnecessarySimpa false
namespace Go.Own.Q
open Go Go.Proofs
theorem tB{α:Type}(w:α→Nat)(b:α): ∀(l:List α) (k:Nat),dl w (l.set k b)≤dl w l+w b
 | [],k=>by simp [dl]
 | x::r,0=>by simp only[List.set_cons_zero,dl]; omega
 | x::r,k+1=>by have:=tB w b r k; simp only[List.set_cons_succ,dl]; omega
theorem Gx{n K:Nat}(hn:10000<n)(hn2:n≤1099511627776)(hK:K≤100){b:List Int}{i h:Int}{ns:List (List UInt8)}(hc:Cur b i)(hm:Nm K ns):Gt (iN n ns b i h) (DE 4840):=by
 unfold iN
 refine Gt.bind (Jo 3 n (by omega) (by omega) hn2 (by omega) hc hm) fun r ⟨h1,h2⟩=> ?_
 have e3:eB 3=4840:=rfl
 have hx:=JV n hn2 (.mk r.1 r.2.1 r.2.2.1 r.2.2.2.1 r.2.2.2.2.1) false 10 300 (by omega) (by omega) (by omega) (by omega)
 have hx:cN n r.1 r.2.1 r.2.2.1 r.2.2.2.1 r.2.2.2.2.1 false (10:Int) 300=_:=hx
 unfold oF
 rw[hx]
 simp only[Option.bind_some]
 refine Gt.cond (fun _=>Gt.bind IK fun q e=> ?_) fun _=>Gt.pure ⟨Nat.le_trans h1 (by omega),h2⟩
 subst e
 exact Gt.pure (DE.mk (by simp only[dl,List.length_nil]; omega) h2)
end Go.Own.Q
