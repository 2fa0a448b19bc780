/- Lemmas. No conditions. -/
import Derived.Test.YtgeomhdbckjkcaaW22FillC
set_option linter.unusedVariables false
set_option linter.unusedSimpArgs false
namespace Go.Own.Q
open Go Go.Proofs
mutual
theorem Mx: ∀e,[95] ∉ jJ e
 | .mk k m s l c=>by
  simp only[jJ]
  cases decide (k=3)with
  | true=>
   by_cases h:s=[95]
   ·rw[decide_eq_true h]; simp
   ·rw[decide_eq_false h]; simp only[cond_true,cond_false,List.mem_singleton]; exact fun e=>h e.symm
  | false=>exact KU l
theorem KU: ∀l,[95] ∉ eS l
 | []=>by simp [eS]
 | x::r=>by simp only[eS,List.mem_append,not_or]; exact⟨Mx x,KU r⟩
end
theorem RG: ∀ {l:List aG},(l.map (·.f0)).Nodup→ ∀ {b:aG},b∈l→l.find? (fun c=>decide (c.f0=b.f0))=some b
 | x::r,hn,b,hb=>by
  rw[List.map_cons,List.nodup_cons]at hn
  rcases List.mem_cons.1 hb with rfl | hb
  ·simp only[List.find?_cons,decide_true]
  ·have hne: ¬ x.f0=b.f0:=fun e=>hn.1 (e ▸ List.mem_map_of_mem hb)
   simp only[List.find?_cons,decide_eq_false hne]
   exact RG hn.2 hb
theorem QZ{l:List aG}{s:List UInt8}(h:s ∉ l.map (·.f0)):fnd l s=none:=by
 unfold fnd
 rw[List.find?_eq_none.2 fun b hb=>by
  simp only[decide_eq_true_eq]
  exact fun e=>h (e ▸ List.mem_map_of_mem hb)]
 rfl
theorem Ju{p:aA}{t:aB}{M:List aG}(hp:wK p=true)(ht:qM t=true)(hM:mt 10 p t=some M):
  M.map (·.f0)=jJ p∧(∀b∈M,fnd M b.f0=some (sP b)∧qM (sP b)=true)∧(fl (fnd M) 10 p=none∨fl (fnd M) 10 p=some t):=by
 have hx:=xS hp
 have hn:=Kk 10 p t M hx hM
 have ho:(jJ p).Nodup:=by
  unfold wK at hp
  simp only[Bool.and_eq_true]at hp
  exact(Kg _).1 hp.2
 unfold qM okN at ht
 simp only[Bool.and_eq_true,decide_eq_true_eq]at ht
 have hf: ∀b∈M,fnd M b.f0=some (sP b):=fun b hb=>by
  unfold fnd
  rw[RG (by rw[hn]; exact ho) hb]; rfl
 have hb:=Qz 10 8 p t M hx ht.1 hM
 refine⟨hn,fun b hm=>⟨hf b hm, ?_⟩,TG (fnd M) (QZ (by rw[hn]; exact Mx p)) 10 8 p t M hx ht.1 hM hf⟩
 unfold qM okN
 have:=hb b hm
 rw[this.1,decide_eq_true (by omega)]; rfl
theorem law(a:List Int)(ho:a.length≤maxLen∧ ∀x∈a,IntKind.u8.min≤x∧x≤IntKind.u8.max): ∃n,kZ n a=some true:=by
 refine⟨1000000, ?_⟩
 generalize hN:(1000000:Nat)=n
 have hn:n≤1099511627776:=by omega
 unfold kZ uR
 simp only[Option.bind_some]
 by_cases hz:(1048576:Int)<(a.length:Int)
 ·rw[decide_eq_true hz]; rfl
 rw[decide_eq_false hz,cond_false]
 obtain⟨r,hr,hw,hv⟩:=KI (n:=n) (by omega) hn a (by omega)
 rw[hr]
 simp only[Option.bind_some]
 obtain⟨r0,r1,r2,r3,r4,r5,r6,r7,r8⟩:=r
 simp only at hw hv ⊢
 obtain⟨p,hp⟩: ∃p:aA,p= .mk r0 r1 r2 r3 r4:=⟨_,rfl⟩
 obtain⟨t,ht⟩: ∃t:aB,t= .mk r5 r6 r7 r8:=⟨_,rfl⟩
 rw[←hp]at hw
 rw[←ht]at hv
 have e1:lI n r0 r1 r2 r3 r4 r5 r6 r7 r8=some (lF p t):=by subst hp; subst ht; exact GG n hn (.mk r0 r1 r2 r3 r4) (.mk r5 r6 r7 r8) (by omega)
 have e2:lH n r0 r1 r2 r3 r4 r5 r6 r7 r8=some (lF p t):=by subst hp; subst ht; exact GC n hn (.mk r0 r1 r2 r3 r4) (.mk r5 r6 r7 r8) (by omega)
 have e3:fW n r0 r1 r2 r3 r4=some (jJ p):=by subst hp; exact vV n hn (.mk r0 r1 r2 r3 r4) (by omega)
 rw[e1,e2]
 simp only[Option.bind_some]
 have no: ∀(m:List aG×Bool),m=([],false)→((bif !(m.2 == m.2)then some true else some (!m.2)).bind fun v=>bif v then(bif (m.2 == m.2)then some (decide ((m.1.length:Int)=(0:Int)))else some false).bind fun v2=>some v2 else none)=some true:=fun m e=>by subst e; rfl
 cases hq:wK p&&qM t with
 | false=>
  have hm:lF p t=([],false):=by unfold lF; rw[hq]; rfl
  rw[hm]; rfl
 | true=>
  cases hM:mt 10 p t with
  | none=>
   have hm:lF p t=([],false):=by unfold lF; rw[hq,hM]; rfl
   rw[hm]; rfl
  | some M=>
   have hm:lF p t=(M,true):=by unfold lF; rw[hq,hM]; rfl
   have hMw:=Pe 10 p t M hM
   rw[Bool.and_eq_true]at hq
   obtain⟨a1,a2,a3⟩:=Ju hq.1 hq.2 hM
   rw[hm]
   simp only[beq_self_eq_true,Bool.not_true,cond_false,Option.bind_some,e3]
   have hlen:M.length=(jJ p).length:=by rw[←a1,List.length_map]
   rw[decide_eq_true (by omega)]
   simp only[Bool.not_true,cond_false]
   have hMl:=aX mU M
   rw[NM M (fun i b hb=>by
    have hi:=gY hb
    have hbm:=List.mem_of_getElem? hb
    have hd:=fK mU hbm
    rw[If]at hd
    obtain⟨b1,b2⟩:=a2 b hbm
    have q1:gQ n M b.f0=some (b.f1,b.f2,b.f3,b.f4,true):=by rw[Hh n M b.f0 (by omega) hn,b1]; rfl
    have q2:(jJ p)[i]? =some b.f0:=by rw[←a1,List.getElem?_map,hb]; rfl
    have q3:cM n b.f1 b.f2 b.f3 b.f4 b.f1 b.f2 b.f3 b.f4=some true:=(tU n hn).1 (sP b) (by omega)
    have q4:eH n b.f1 b.f2 b.f3 b.f4=some true:=by
     rw[qZ n b.f1 b.f2 b.f3 b.f4 (show aT (sP b)<n by omega) (by omega)]
     exact congrArg some b2
    simp only[gV,fJ hb,cond_true,eC,hb,q1,q2,q3,q4,Option.bind_some,decide_true,Bool.not_true,cond_false,bE (show i<4611686018427387904 by omega)]) (by simp only[gV,bB,cond_false]) (by omega)]
   simp only[Option.bind_some]
   have hx:=xS hq.1
   have e4:fY n r0 r1 r2 r3 r4 M=some (OX (fl (fnd M) 10 p)):=by
    have:=LB M (by omega) n hn 10 p hx (by omega) (by omega)
    subst hp; exact this
   have e5:iU n r0 r1 r2 r3 r4=some true:=by
    have:=yJ n hn p (by omega)
    rw[hq.1]at this
    subst hp; exact this
   have e6:eH n r5 r6 r7 r8=some true:=by
    subst ht
    rw[qZ n r5 r6 r7 r8 (by omega) (by omega),hq.2]
   have e7:cM n r5 r6 r7 r8 r5 r6 r7 r8=some true:=by subst ht; exact(tU n hn).1 (.mk r5 r6 r7 r8) (by omega)
   unfold sK
   rw[e5]
   simp only[Option.bind_some,Bool.not_true,cond_false,e4]
   rcases a3 with a3 | a3
   ·rw[a3]; rfl
   ·rw[a3]
    have eo:OX (some t)=(r5,r6,r7,r8,true):=by subst ht; rfl
    rw[eo]
    simp only[Bool.not_true,cond_false,e6,Option.bind_some,e7]
end Go.Own.Q
