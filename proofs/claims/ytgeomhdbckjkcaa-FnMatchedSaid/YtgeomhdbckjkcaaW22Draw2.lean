/- Lemmas. No conditions. -/
import Derived.Test.YtgeomhdbckjkcaaW22DrawKit
set_option linter.unusedVariables false
set_option linter.unusedSimpArgs false
namespace Go.Own.Q
open Go Go.Proofs
theorem Fr(k m:Int)(s:List UInt8)(l:List aB):aT (.mk k m s l)=3+s.length+dl aT l:=by rw[rJ,fF]; rfl
theorem iY{α:Type}(w:α→Nat)(l:List α)(a:α):dl w (l++[a])=dl w l+1+w a:=by
  have:=qB w l [a]
  simp only[dl]at this
  omega
def trB:Nat→Nat
  | 0=>9
  | d+1=>4+3*(1+trB d)
theorem TB: ∀d,9≤trB d
  | 0=>Nat.le_refl _
  | d+1=>by
    have:=TB d
    simp only[trB]; omega
def DT(B:Nat)(r:Int×Int×List UInt8×List aB×List Int×Int×Int):Prop:=aT (.mk r.1 r.2.1 r.2.2.1 r.2.2.2.1)≤B∧Cur r.2.2.2.2.1 r.2.2.2.2.2.1
theorem DT.mk{B:Nat}{k m:Int}{s:List UInt8}{l:List aB}{b:List Int}{i h:Int}(hw:3+s.length+dl aT l≤B)(hc:Cur b i):DT B (k,m,s,l,b,i,h):=⟨by rw[Fr]; exact hw,hc⟩
theorem Fc: ∀(d n:Nat),d≤3→d+6<n→ ∀ {b:List Int} {i h:Int},Cur b i→Gt (gP n (d:Int) b i h) (DT (trB d))
  | d,0,_,hn=>by omega
  | d,n+1,hd,hn=>fun hc=>by
    rw[zE]
    unfold lU
    have h9:=TB d
    have one: ∀ {k m:Int} {s:List UInt8} {b:List Int} {i h:Int},s.length≤5→Cur b i→DT (trB d) (k,m,s,[],b,i,h):=fun hs hc=>DT.mk (by simp only[dl]; omega) hc
    have nums: ∀ {b:List Int} {i h:Int},Cur b i→Gt ((aJ n (1000:Int) b i h).bind fun c=>(bO n ([(0:Int),(1:Int),(2:Int),((-1):Int),(7:Int),(1000000000000:Int),((-1000000000000):Int),c.1]:List Int) c.2.1 c.2.2.1 c.2.2.2).bind fun c17=>some ((1:Int),c17.1,([]:List UInt8),([]:List aB),c17.2.1,c17.2.2.1,c17.2.2.2)) (DT (trB d)):=fun hc=>
      Gt.bind (cC hc (by omega)) fun r ⟨_,h2⟩=>Gt.bind (vH h2 (by simp) (by simp)) fun r ⟨_,h2⟩=>Gt.pure (one (by simp) h2)
    have strs: ∀ {b:List Int} {i h:Int},Cur b i→Gt ((aV n ([([111,107]:List UInt8),([115,116,111,112]:List UInt8),([97]:List UInt8),([116,114,117,101]:List UInt8),([97,100,100]:List UInt8)]:List (List UInt8)) b i h).bind fun c24=>some ((2:Int),(0:Int),c24.1,([]:List aB),c24.2.1,c24.2.2.1,c24.2.2.2)) (DT (trB d)):=fun hc=>
      Gt.bind (tE (K:=5) hc (by simp) (by simp) (by decide)) fun r ⟨h1,h2⟩=>Gt.pure (one h1 h2)
    refine Gt.bind (cC hc (by omega)) fun r ⟨_,h2⟩=> ?_
    refine Gt.cond (fun _=>nums h2) fun _=>Gt.cond (fun _=>nums h2) fun _=>Gt.cond (fun _=>nums h2) fun _=>Gt.cond (fun _=>strs h2) fun _=>Gt.cond (fun _=>strs h2) fun _=>Gt.cond (fun _=> ?_) fun _=> ?_
    · exact Gt.bind (cC h2 (by omega)) fun r ⟨_,h2⟩=>Gt.pure (one (by simp) h2)
    · refine Gt.bind (vH h2 (by simp) (by simp)) fun r3 ⟨_,h3⟩=>Gt.bind (cC h3 (by omega)) fun r4 ⟨h4,h5⟩=> ?_
      obtain⟨h6,h7⟩:=h4 (by omega)
      refine Gt.bind (P:=fun r=>dl aT r.2.2.2.2.2.1≤1+3*(1+trB (d - 1))∧(d=0→r.2.2.2.2.2.1=[])∧r.2.2.2.2.1=[]∧Cur r.2.2.2.2.2.2.1 r.2.2.2.2.2.2.2.1) (Gt.loop (fun(m:Nat) (s:Int×Int×Int×List UInt8×List aB×List Int×Int×Int)=>s.1=(m:Int)∧dl aT s.2.2.2.2.1+m*(1+trB (d - 1))≤1+3*(1+trB (d - 1))∧(d=0→s.2.2.2.2.1=[])∧s.2.2.2.1=[]∧Cur s.2.2.2.2.2.1 s.2.2.2.2.2.2.1) _ (fun m s hs=> ?_) (m:=r4.1.toNat) ?_ (by omega)) fun r hr=> ?_
      · obtain⟨v,w5,w6,w7,w8,w9,w10,w11⟩:=s
        obtain⟨s1,s2,s3,s4,s5⟩:=hs
        simp only at s1 s2 s3 s4 s5
        subst s1; subst s4
        unfold oC
        simp only
        by_cases c1:(0:Int)<(m:Int)
        · rw[decide_eq_true c1]
          by_cases c2:(0:Int)<(d:Int)
          · rw[decide_eq_true c2]
            simp only[cond_true,Option.bind_some]
            obtain⟨m',rfl⟩: ∃m',m=m'+1:=⟨m - 1,by omega⟩
            have e1:IntKind.wrap .i64 ((d:Int) - 1)=((d - 1:Nat):Int):=by rw[wrap_i64 (by omega) (by omega)]; omega
            rw[e1,Nh (by
                                  have:(m'+1)*10≤(m'+1)*(1+trB (d - 1)):=Nat.mul_le_mul_left _ (by have:=TB (d - 1); omega)
                                  have:trB (d - 1)≤202:=by
                                    have:d - 1=0∨d - 1=1∨d - 1=2:=by omega
                                    rcases this with e | e | e<;>rw[e]<;>simp [trB]
                                  omega)]
            refine Gt.bind (Fc (d - 1) n (by omega) (by omega) s5) fun r ⟨g1,g2⟩=> ?_
            have hb:trB (d - 1)≤202:=by
              have:d - 1=0∨d - 1=1∨d - 1=2:=by omega
              rcases this with e | e | e<;>rw[e]<;>simp [trB]
            have hl:=aX aT w8
            refine Gt.bind (mF (by simp only[List.length_singleton]; omega) (by omega)) fun q e=>Gt.pure ⟨m',rfl,rfl, ?_,fun e=>by omega,rfl,g2⟩
            subst e
            show dl aT (w8++[_])+m'*(1+trB (d - 1))≤_
            rw[iY]
            rw[Nat.succ_mul]at s2
            omega
          · rw[decide_eq_false c2]
            simp only[cond_true,cond_false,Option.bind_some]
            refine Gt.pure ⟨?_,s3,rfl,s5⟩
            show dl aT w8≤_
            omega
        · rw[decide_eq_false c1]
          simp only[cond_false,Option.bind_some]
          refine Gt.pure ⟨?_,s3,rfl,s5⟩
          show dl aT w8≤_
          omega
      · refine⟨by simp only; omega, ?_,fun _=>rfl,rfl,h5⟩
        simp only[dl]
        have:r4.1.toNat*(1+trB (d - 1))≤3*(1+trB (d - 1)):=Nat.mul_le_mul_right _ (by omega)
        omega
      · obtain⟨x0,x1,x2,x3,x4,x5,x6,x7,x8⟩:=r
        obtain⟨q1,q2,q3,q4⟩:=hr
        simp only at q1 q2 q3 q4 ⊢
        refine Gt.pure (DT.mk ?_ q4)
        rw[q3]
        cases d with
        | zero=>rw[q2 rfl]; simp only[dl,List.length_nil,trB]; omega
        | succ d=>
          have e:trB (d+1)=4+3*(1+trB d):=rfl
          simp only[List.length_nil,Nat.add_sub_cancel]at q1 ⊢
          omega
theorem QN{n B:Nat}{t:aB}(hn:aT t+20<n)(hn2:n≤1099511627776)(hw:aT t≤B)(hB:B≤100000){b:List Int}{i h:Int}(hc:Cur b i):Gt (mA n t.f0 t.f1 t.f2 t.f3 b i h) (DT (B+60)):=by
  unfold mA
  rw[HS n (a:=t) (by omega) (by omega)]
  rw[←aU t,Fr]at hw
  have hl:=aX aT t.f3
  simp only[Option.bind_some]
  refine Gt.bind (cC hc (by omega)) fun r ⟨_,h2⟩=> ?_
  refine Gt.cond (fun _=> ?_) fun _=>Gt.cond (fun _=> ?_) fun _=>Gt.cond (fun _=> ?_) fun _=>Gt.cond (fun _=> ?_) fun _=>Gt.cond (fun _=> ?_) fun _=> ?_
  · exact Gt.bind (cC h2 (by omega)) fun r ⟨_,h2⟩=>Gt.pure (DT.mk (by omega) h2)
  · exact Gt.bind (vH h2 (by simp) (by simp)) fun r ⟨_,h2⟩=>Gt.pure (DT.mk (by omega) h2)
  · exact Gt.bind (tE (K:=25) h2 (by simp) (by simp) (by decide)) fun r ⟨h1,h2⟩=>Gt.pure (DT.mk (by omega) h2)
  · refine Gt.bind (mF (by simp only[List.length_singleton]; omega) (by omega)) fun q e=>Gt.pure (DT.mk ?_ h2)
    subst e
    rw[iY,Fr]
    simp only[dl,List.length_nil]; omega
  · refine Gt.bind (P:=fun r=>aT (.mk r.2.2.1 r.2.2.2.1 r.2.2.2.2.1 r.2.2.2.2.2)≤B+60) (Gt.loop (fun(m:Nat) (s:Int×Int×Int×List UInt8×List aB)=>s.1+m=8∧0≤s.1∧aT (.mk s.2.1 s.2.2.1 s.2.2.2.1 s.2.2.2.2)+6*m≤B+48) _ (fun m s hs=> ?_) (m:=8) ?_ (by omega)) fun r hr=>Gt.pure ⟨hr,h2⟩
    · obtain⟨v,w1,w2,w3,w4⟩:=s
      obtain⟨s1,s2,s3⟩:=hs
      simp only at s1 s2 s3
      unfold oD
      simp only
      by_cases c1:v<(8:Int)
      · rw[decide_eq_true c1,cond_true,wrap_i64 (n:=v+1) (by omega) (by omega)]
        refine Gt.pure ⟨m - 1,by omega, ?_, ?_, ?_⟩
        · show v+1+((m - 1:Nat):Int)=8
          omega
        · show 0≤v+1
          omega
        · show aT (.mk 4 0 [] [.mk w1 w2 w3 w4])+6*(m - 1)≤B+48
          rw[Fr]
          simp only[dl,List.length_nil]
          omega
      · rw[decide_eq_false c1,cond_false]
        refine Gt.pure ?_
        show aT (.mk w1 w2 w3 w4)≤B+60
        omega
    · exact⟨by simp,by simp,by simp only; rw[Fr]; omega⟩
  · exact Gt.pure (DT.mk (by omega) h2)
theorem UA{n:Nat}(hn:1000<n)(hn2:n≤1099511627776){b:List Int}{i h:Int}(hc:Cur b i):Gt (nN n b i h) (DT 700):=by
  unfold nN
  have e3:trB 3=334:=rfl
  refine Gt.bind (Fc 3 n (by omega) (by omega) hc) fun r ⟨h1,h2⟩=>Gt.bind (Fd h2 (by omega)) fun r2 h3=>Gt.cond (fun _=> ?_) fun _=> ?_
  · have:=QN (n:=n) (B:=334) (t:= .mk r.1 r.2.1 r.2.2.1 r.2.2.2.1) (by omega) hn2 h1 (by omega) (b:=r2.2.1) (i:=r2.2.2.1) (h:=r2.2.2.2) h3
    exact Gt.bind this fun q ⟨g1,g2⟩=>Gt.pure ⟨Nat.le_trans g1 (by omega),g2⟩
  · exact Gt.pure ⟨Nat.le_trans h1 (by omega),h3⟩
end Go.Own.Q
