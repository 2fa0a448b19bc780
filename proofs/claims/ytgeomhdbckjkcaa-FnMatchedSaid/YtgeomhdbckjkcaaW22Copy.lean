/- Lemmas. No conditions. -/
import Derived.Test.YtgeomhdbckjkcaaW22TermOk2
set_option linter.unusedVariables false
set_option linter.unusedSimpArgs false
namespace Go.Own.Q
open Go Go.Proofs
theorem Ah: ∀(n:Nat),n≤1099511627776→(∀(a0 a1:Int) (a2:List UInt8) (a3:List aB),aT (.mk a0 a1 a2 a3)<n→bZ n a0 a1 a2 a3=some (a0,a1,a2,a3))∧ ∀(l:List aB),dl aT l<n→fQ n l=some l
 | 0,_=>⟨fun a0 a1 a2 a3 h=>by omega,fun l h=>by omega⟩
 | n+1,hn=>by
  obtain⟨ih1,ih2⟩:=Ah n (by omega)
  refine⟨fun a0 a1 a2 a3 h=> ?_,fun l h=> ?_⟩
  ·rw[vN]
   unfold jA
   simp only[aT,fF]at h
   simp only[ih2 a3 (by omega),Option.bind_some]
  ·rw[uX]
   unfold iB
   have h2:=aX aT l
   have hl:=pV (body:=fA n (bZ n) l) (fun i=>(l.take i,(i:Int))) (len:=l.length) (r:=(l,(l.length:Int),false)) (fun i hi=>by
    have ha:l[i]? =some l[i]:=List.getElem?_eq_getElem hi
    generalize l[i]=a at ha
    have hd:=fK aT (List.mem_of_getElem? ha)
    have hap:gA 56 (l.take i) [aB.mk a.f0 a.f1 a.f2 a.f3]=some (l.take (i+1)):=by
     rw[aU, ←lC ha]
     exact mQ (by rw[List.length_take]; simp only[List.length_singleton]; omega) (by rw[List.length_take]; simp only[List.length_singleton,maxLen]; omega)
    simp only[fA,fJ ha,cond_true,eC,ha,Option.bind_some,ih1 a.f0 a.f1 a.f2 a.f3 (by rw[aU]; omega),hap,bE (show i<4611686018427387904 by omega)]) (by simp only[fA,bB,cond_false,List.take_length]) (n:=n) (by omega)
   refine(congrArg (fun q=>Option.bind q _) hl).trans ?_
   rfl
theorem Cm(n:Nat){a:aB}(h:aT a<n)(hn:n≤1099511627776):bZ n a.f0 a.f1 a.f2 a.f3=some (a.f0,a.f1,a.f2,a.f3):=(Ah n hn).1 _ _ _ _ (by rw[aU]; exact h)
theorem Em: ∀(n:Nat),n≤1099511627776→ ∀(a0 a1:Int) (a2:List UInt8) (a3:List aB),aT (.mk a0 a1 a2 a3)<n→eF n a0 a1 a2 a3=some (a0,a1,a2,a3)
 | 0,_=>fun a0 a1 a2 a3 h=>by omega
 | n+1,hn=>fun a0 a1 a2 l h=>by
  have ih1:=Em n (by omega)
  rw[zF]
  unfold lV
  simp only[aT,fF]at h
  have h2:=aX aT l
  have hl:=pV (body:=iE n (eF n) l) (fun i=>((i:Int),a0,a1,a2,l.take i)) (len:=l.length) (r:=((l.length:Int),false,a0,a1,a2,l)) (fun i hi=>by
   have ha:l[i]? =some l[i]:=List.getElem?_eq_getElem hi
   generalize l[i]=a at ha
   have hd:=fK aT (List.mem_of_getElem? ha)
   have hap:gA 56 (l.take i) [aB.mk a.f0 a.f1 a.f2 a.f3]=some (l.take (i+1)):=by
    rw[aU, ←lC ha]
    exact mQ (by rw[List.length_take]; simp only[List.length_singleton]; omega) (by rw[List.length_take]; simp only[List.length_singleton,maxLen]; omega)
   simp only[iE,fJ ha,cond_true,eC,ha,Option.bind_some,ih1 a.f0 a.f1 a.f2 a.f3 (by rw[aU]; omega),hap,bE (show i<4611686018427387904 by omega)]) (by simp only[iE,bB,cond_false,List.take_length]) (n:=n) (by omega)
  refine(congrArg (fun q=>Option.bind q _) hl).trans ?_
  rfl
theorem HS(n:Nat){a:aB}(h:aT a<n)(hn:n≤1099511627776):eF n a.f0 a.f1 a.f2 a.f3=some (a.f0,a.f1,a.f2,a.f3):=Em n hn _ _ _ _ (by rw[aU]; exact h)
end Go.Own.Q
