/- When a pattern by slots fits: the program's answer and the reference's, in plain Lean. No conditions. -/
import Derived.Test.YtgeomhdbckjkcaaW24Left
set_option linter.unusedVariables false
set_option linter.unusedSimpArgs false
set_option linter.unnecessarySimpa false
namespace Go.Own.Q
open Go Go.Proofs

def Nl(sl k m:Int)(s:List UInt8)(ne:Int):Bool:=bif decide (k=3)then decide (s=[])&&(decide (ne=0)&&(decide (-1≤m)&&decide (m≤sl - 1)))else !decide (6<k)&&BG k m s ne
mutual
def wG:aB→Nat
 | .mk _ _ _ l=>1+pQ l
def pQ:List aB→Nat
 | []=>0
 | x::r=>wG x+pQ r
end
theorem Ux(a:aB):wG a=1+pQ a.f3:=by cases a; simp only[wG]; rfl
theorem Mw: ∀l,pQ l=qO wG l
 | []=>rfl
 | x::r=>by simp only[pQ,qO,Mw r]
theorem AQ(a:aB):cS a=3+a.f2.length+dl cS a.f3:=by cases a; simp only[cS,Ev]; rfl
mutual
def pv:aB→List Int
 | .mk k m _ l=>bif decide (k=3)then [m]else pvs l
def pvs:List aB→List Int
 | []=> []
 | x::r=>pv x++pvs r
end
theorem pv_e(a:aB):pv a=bif decide (a.f0=3)then [a.f1]else pvs a.f3:=by cases a; simp only[pv]; rfl
mutual
def s9:aB→List Int
 | .mk k m _ l=>(bif decide (k=3)&& !decide (m= -1)then [m]else [])++s9s l
def s9s:List aB→List Int
 | []=> []
 | x::r=>s9 x++s9s r
end
theorem s9_e(a:aB):s9 a=(bif decide (a.f0=3)&& !decide (a.f1= -1)then [a.f1]else [])++s9s a.f3:=by cases a; simp only[s9]; rfl
theorem RK: ∀(a b:List aB),s9s (a++b)=s9s a++s9s b
 | [],b=>rfl
 | x::r,b=>by simp only[List.cons_append,s9s,RK r b,List.append_assoc]
theorem s9s_one(a:aB):s9s [a]=s9 a:=by simp only[s9s,List.append_nil]
mutual
theorem Ur: ∀e,(s9 e).length≤cS e
 | .mk k m s l=>by
  have:=Lu l
  simp only[s9,cS,List.length_append]
  cases (decide (k=3)&& !decide (m= -1))<;>simp<;>omega
theorem Lu: ∀l,(s9s l).length≤DK l
 | []=>by simp [s9s]
 | x::r=>by have:=Ur x; have:=Lu r; simp only[s9s,DK,List.length_append]; omega
end
mutual
theorem QJ: ∀e,(pv e).length≤wG e
 | .mk k m s l=>by
  have:=Lw l
  simp only[pv,wG]
  cases decide (k=3)<;>simp<;>omega
theorem Lw: ∀l,(pvs l).length≤pQ l
 | []=>by simp [pvs]
 | x::r=>by have:=QJ x; have:=Lw r; simp only[pvs,pQ,List.length_append]; omega
end
def pok:Nat→Int→aB→Bool
 | 0,_,_=>false
 | d+1,sl,p=>Nl sl p.f0 p.f1 p.f2 p.f3.length&&p.f3.all (pok d sl)
theorem Pk{α:Type}(w:α→Nat): ∀(l:List α) (i:Nat),dl w (l.take i)≤dl w l
 | [],i=>by simp
 | a::r,0=>by simp only[List.take_zero,dl]; omega
 | a::r,i+1=>by have:=Pk w r i; simp only[List.take_succ_cons,dl]; omega
/-- All unlike. -/
def Qh(l:List Int):Bool:=sU (fun i a=> !(decide (a∈l.take i))) 0 l
theorem My(l:List Int):Qh l=true↔l.Nodup:=by
 unfold Qh
 rw[lL,List.Nodup,List.pairwise_iff_getElem]
 constructor
 ·intro h i j hi hj hij e
  have:=h j l[j] (List.getElem?_eq_getElem hj)
  simp only[Nat.zero_add,Bool.not_eq_true',decide_eq_false_iff_not]at this
  exact this (by rw[←e]; exact List.mem_take_iff_getElem.2 ⟨i,by omega,rfl⟩)
 ·intro h j a ha
  simp only[Nat.zero_add,Bool.not_eq_true',decide_eq_false_iff_not]
  intro hm
  obtain⟨i,hi,e⟩:=List.mem_take_iff_getElem.1 hm
  obtain⟨hj,rfl⟩:=List.getElem?_eq_some_iff.1 ha
  exact h i j (by omega) hj (by omega) e
theorem any_mem(a:Int)(l:List Int):(l.all fun b=> !decide (b=a))= !decide (a∈l):=by
 rw[Bool.eq_iff_iff,List.all_eq_true]
 simp only[Bool.not_eq_true',decide_eq_false_iff_not]
 exact⟨fun h hm=>h a hm rfl,fun h b hb e=>h (e ▸ hb)⟩
def Cd(sl:Int)(p:aB):Bool:=(decide (0≤sl)&&decide (sl≤400))&&((pok 10 sl p&&decide ((wG p:Int)≤300))&&Qh (s9 p))
end Go.Own.Q
