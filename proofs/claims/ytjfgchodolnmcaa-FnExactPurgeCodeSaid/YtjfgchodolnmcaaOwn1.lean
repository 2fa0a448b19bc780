/- A calculus for runs on plain data (part 2): whoever runs code on data, with its owners checked, runs the program. No conditions. -/
import Derived.Test.YtjfgchodolnmcaaOwn0
set_option linter.unusedVariables false
set_option linter.unusedSimpArgs false
set_option linter.unnecessarySimpa false
/- A slot filled, kinds turned, an object made or written: what is told without the data. -/
namespace Go.Own
open Go.RowKit

def B.put(F:FA)(b:B)(d:Nat)(f:Nat→Nat→K):B:=
 { sl:=(d,nP (F.shOf d) f)::b.sl.filter (fun q=> !(Nat.beq q.1 d)&& !(aS d (aG (F.shOf q.1)))),ob:=b.ob }

theorem EK{F:FA}{b:B}{d:Nat}{f:Nat→Nat→K}{i:Nat}:(b.put F d f).has i=(Nat.beq i d||(!(aS d (aG (F.shOf i)))&&b.has i)):=by
 simp only[B.has,B.put,cG]
 cases h:Nat.beq i d with
 | true=>rfl
 | false=>
  simp only[cond_false,Bool.false_or]
  rw[dI (fun i=> !(Nat.beq i d)&& !(aS d (aG (F.shOf i)))) i b.sl]
  simp only[h,Bool.not_false,Bool.true_and]
  cases aS d (aG (F.shOf i))<;>simp

theorem cL{i d:Nat}(h:i≠d):Nat.beq i d=false:=by
 cases e:Nat.beq i d with
 | false=>rfl
 | true=>exact absurd (Nat.eq_of_beq_eq_true e) h

theorem Jb{F:FA}{b:B}{d:Nat}{f:Nat→Nat→K}{i k j:Nat}(h:i≠d)(hr:aS d (aG (F.shOf i))=false):(b.put F d f).get (.s i k j)=b.get (.s i k j):=by
 simp only[B.get,B.put,cG,cL h,cond_false]
 rw[dI (fun i=> !(Nat.beq i d)&& !(aS d (aG (F.shOf i)))) i b.sl]
 simp only[cL h,hr,Bool.not_false,Bool.and_self,if_true]

theorem yA{F:FA}{b:B}{d:Nat}{f:Nat→Nat→K}{k j:Nat}:(b.put F d f).get (.s d k j)=zO (nP (F.shOf d) f) k j:=by
 simp only[B.get,B.put,cG,Nat.beq_refl,cond_true]

theorem Ag.put{F:FA}{b:B}{x:D}(h:Ag F b x){d:Nat}{r:V}{f:Nat→Nat→K}(hr:r= .tup []∨fits r (F.shOf d)=true):Ag F (b.put F d f) (x.put d r):=by
 refine⟨fun i hi=> ?_,h.ob⟩
 by_cases e:i=d
 ·subst e; simpa [D.put]using hr
 ·simp only[D.put,if_neg e]
  rw[EK,cL e]at hi
  simp only[Bool.false_or,Bool.and_eq_true]at hi
  exact h.sl i hi.2

theorem BF{s:St}{d:Nat}{r:V}{κ:Nat→Nat→K}{k j:Nat}:(s.put d r κ).fl (.s d k j)=κ k j:=by simp [St.put]

theorem HT{F:FA}{n:Nat}{b:B}{x:D}{s:St}(hA:Ag F b x)(h:Low n b x s){d:Nat}{r:V}{κ f:Nat→Nat→K}(hr:r= .tup []∨fits r (F.shOf d)=true)
  (hl: ∀k j t,r.leaf k j=some t→(κ k j).lo (f k j)=true)(hc: ∀k xs,r.comp k=some (.cp xs)→(κ k 0).lo (f k 0)=true)(ha:aG r≠ .none→f 0 0≠ .D→κ 0 0≠ .D):
  Low n (b.put F d f) (x.put d r) (s.put d r κ):=by
 have hhas: ∀i,i≠d→(b.put F d f).has i=true→b.has i=true∧aS d (aG (F.shOf i))=false:=fun i e hi=>by
  rw[EK,cL e]at hi
  simpa [and_comm]using hi
 have hroot: ∀i,i≠d→(b.put F d f).has i=true→aS d (aG (s.sl i))=false:=fun i e hi=>by
  obtain⟨h1,h2⟩:=hhas i e hi
  rw[h.sl i h1]
  rcases hA.sl i h1 with e2 | e2
  ·rw[e2]; rfl
  ·rw[cV e2]; exact h2
 have hkd: ∀i k j,i≠d→(b.put F d f).has i=true→(b.put F d f).kd (.s i k j)=b.kd (.s i k j):=fun i k j e hi=>by
  simp only[B.kd,Jb e (hhas i e hi).2]
 have hfl: ∀i k j,i≠d→(b.put F d f).has i=true→(s.put d r κ).fl (.s i k j)=s.fl (.s i k j):=fun i k j e hi=>by
  simp only[St.put,if_neg e]
  rw[if_neg]
  rintro ⟨_,_,h3⟩
  rw[hroot i e hi]at h3; cases h3
 have hnf:fits r (F.shOf d)=true∨((∀k j t,r.leaf k j≠some t)∧(∀k xs,r.comp k≠some (.cp xs))∧aG r= .none):=by
  rcases hr with e | e
  ·right
   subst e
   refine⟨fun k j t=> ?_,fun k xs=> ?_,rfl⟩
   ·cases k<;>simp [V.leaf,W.leaf]
   ·cases k<;>simp [V.comp]
  ·exact .inl e
 refine⟨h.n,fun i hi=> ?_,fun o ho=>h.ob o ho,fun l t hL ht=> ?_,fun i k xs hi hx=> ?_,fun i hi hr' hf=> ?_⟩
 ·by_cases e:i=d
  ·subst e; simp [St.put,D.put]
  ·simp only[St.put,D.put,if_neg e]; exact h.sl i (hhas i e hi).1
 ·cases l with
  | s i k j=>
   by_cases e:i=d
   ·subst e
    have ht':r.leaf k j=some t:=by simpa [D.at,atL,D.put]using ht
    rcases hnf with h1 | h1
    ·rw[BF]
     simp only[B.kd,yA]
     rw[zM h1 f ht']
     exact hl k j t ht'
    ·exact absurd ht' (h1.1 k j t)
   ·rw[hfl i k j e hL,hkd i k j e hL]
    refine h.fl (.s i k j) t (hhas i e hL).1 ?_
    simpa [D.at,atL,D.put,e]using ht
  | oc o j=>exact h.fl (.oc o j) t hL ht
  | _=>cases hL
 ·by_cases e:i=d
  ·subst e
   have hx':r.comp k=some (.cp xs):=by simpa [D.put]using hx
   rcases hnf with h1 | h1
   ·rw[BF]
    simp only[B.kd,yA]
    rw[Dz h1 f hx']
    exact hc k xs hx'
   ·exact absurd hx' (h1.2.1 k xs)
  ·rw[hfl i k 0 e hi,hkd i k 0 e hi]
   exact h.cp i k xs (hhas i e hi).1 (by simpa [D.put,e]using hx)
 ·by_cases e:i=d
  ·subst e
   have hr2:aG r≠ .none:=by simpa [D.put]using hr'
   rcases hnf with h1 | h1
   ·rw[BF]
    simp only[B.kd,yA]at hf
    rw[Gu h1 f hr2]at hf
    exact ha hr2 hf
   ·exact absurd h1.2.2 hr2
  ·rw[hfl i 0 0 e hi]
   rw[hkd i 0 0 e hi]at hf
   exact h.al i (hhas i e hi).1 (by simpa [D.put,e]using hr') hf

/-! ### kinds turned -/
def B.setf(F:FA)(b:B)(R:Loc→Bool)(f:Loc→K→K):B:=(b.mapK f).filt fun i=> !(R (aG (F.shOf i)))

theorem sF{F:FA}{b:B}{R:Loc→Bool}{f:Loc→K→K}{i:Nat}:(b.setf F R f).has i=(!(R (aG (F.shOf i)))&&b.has i):=by
 rw[B.setf,fG,Iu]
theorem gK{F:FA}{b:B}{R:Loc→Bool}{f:Loc→K→K}{o:Nat}:(b.setf F R f).hasO o=b.hasO o:=by
 rw[B.setf,BQ,GM]

theorem AD{F:FA}{b:B}{R:Loc→Bool}{f:Loc→K→K}{l:Loc}(h:(b.setf F R f).hasL l=true):(b.setf F R f).get l=(b.get l).map (f l):=by
 rw[B.setf,Eh]
 cases l with
 | s i k j=>
  have h:(b.setf F R f).has i=true:=h
  rw[sF,Bool.and_eq_true]at h
  simp only
  rw[if_pos h.1,Eb]
 | _=>exact Eb _ _ _

theorem Ag.setf{F:FA}{b:B}{x:D}(h:Ag F b x)(R:Loc→Bool)(f:Loc→K→K):Ag F (b.setf F R f) x:=by
 refine⟨fun i hi=>h.sl i ?_,fun o ho=>h.ob o ?_⟩
 ·rw[sF,Bool.and_eq_true]at hi; exact hi.2
 ·rw[gK]at ho; exact ho

theorem jU{F:FA}{n:Nat}{b:B}{x:D}{s:St}(hA:Ag F b x)(h:Low n b x s){R:Loc→Bool}{f:Loc→K}{f':Loc→K→K}(hR:R .none=false)
  (hl: ∀l,b.hasL l=true→(s.fl l).lo (b.kd l)=true→(f l).lo (f' l (b.kd l))=true)(ha: ∀i,b.has i=true→(b.kd (.s i 0 0)≠ .D→s.fl (.s i 0 0)≠ .D)→f' (.s i 0 0) (b.kd (.s i 0 0))≠ .D→f (.s i 0 0)≠ .D):
  Low n (b.setf F R f') x (s.setf R f):=by
 have hhas: ∀i,(b.setf F R f').has i=true→b.has i=true∧R (aG (F.shOf i))=false:=fun i hi=>by
  rw[sF]at hi
  simpa [and_comm]using hi
 have hroot: ∀i,(b.setf F R f').has i=true→R (aG (s.sl i))=false:=fun i hi=>by
  obtain⟨h1,h2⟩:=hhas i hi
  rw[h.sl i h1]
  rcases hA.sl i h1 with e2 | e2
  ·rw[e2]; exact hR
  ·rw[cV e2]; exact h2
 have hfl: ∀i k j,(b.setf F R f').has i=true→(s.setf R f).fl (.s i k j)=f (.s i k j):=fun i k j hi=>by
  simp only[St.setf]
  rw[if_neg]
  rintro ⟨_,_,h3⟩
  rw[hroot i hi]at h3; cases h3
 have key: ∀l,(b.setf F R f').hasL l=true→(b.hasL l=true):=fun l hL=>by
  cases l with
  | s i k j=>exact(hhas i hL).1
  | oc o j=>have hL:(b.setf F R f').hasO o=true:=hL; rw[gK]at hL; exact hL
  | _=>cases hL
 have hkd: ∀l,(b.setf F R f').hasL l=true→(b.setf F R f').kd l= .D∨(b.setf F R f').kd l=f' l (b.kd l):=fun l hL=>by
  simp only[B.kd,AD hL]
  cases b.get l with
  | none=>exact .inl rfl
  | some q=>exact .inr rfl
 have hlo: ∀l,(b.setf F R f').hasL l=true→(s.fl l).lo (b.kd l)=true→(f l).lo ((b.setf F R f').kd l)=true:=fun l hL h1=>by
  rcases hkd l hL with e | e
  ·rw[e]; exact Fo _
  ·rw[e]; exact hl l (key l hL) h1
 refine⟨h.n,fun i hi=>h.sl i (hhas i hi).1,fun o ho=>h.ob o (by rw[gK]at ho; exact ho),fun l t hL ht=> ?_,fun i k xs hi hx=> ?_,fun i hi hr hf=> ?_⟩
 ·have h1:=hlo l hL (h.fl l t (key l hL) ht)
  cases l with
  | s i k j=>rw[hfl i k j hL]; exact h1
  | oc o j=>exact h1
  | _=>cases hL
 ·rw[hfl i k 0 hi]
  exact hlo (.s i k 0) hi (h.cp i k xs (hhas i hi).1 hx)
 ·rw[hfl i 0 0 hi]
  rcases hkd (.s i 0 0) hi with e | e
  ·exact absurd e hf
  ·rw[e]at hf
   exact ha i (hhas i hi).1 (fun hk=>h.al i (hhas i hi).1 hr hk) hf

/-! ### takes -/
def gU(M:List (Loc×Loc))(l:Loc):Bool:=M.all fun m=> !(decide (l=m.1))&& !(decide (l=m.2))
def B.mvs(F:FA)(b:B)(M:List (Loc×Loc)):B:=match M with
 | []=>b
 | _=>b.setf F (fun l=> !(gU M l)) (fun l _=>mvK M b.kd l)

theorem NZ(M:List (Loc×Loc)): ∀ {f g:Loc→K} {l:Loc},(f l).lo (g l)=true→(∀m∈M,(f m.1).lo (g m.1)=true∧(f m.2).lo (g m.2)=true)→(mvK M f l).lo (mvK M g l)=true:=by
 induction M with
 | nil=>intro f g l h _; exact h
 | cons m r ih=>
  intro f g l h hM
  obtain⟨a,b⟩:=m
  have ha:=(hM (a,b) List.mem_cons_self).1
  have key: ∀m,(f m).lo (g m)=true→(if m=b then f a else if m=a then(f a).cp else f m).lo (if m=b then g a else if m=a then(g a).cp else g m)=true:=fun m hm=>by
   by_cases e1:m=b
   ·rw[if_pos e1,if_pos e1]; exact ha
   ·rw[if_neg e1,if_neg e1]
    by_cases e2:m=a
    ·rw[if_pos e2,if_pos e2]; exact lo_cp ha
    ·rw[if_neg e2,if_neg e2]; exact hm
  exact ih (key l h) (fun m' hm'=>by
   obtain⟨h1,h2⟩:=hM m' (List.mem_cons_of_mem _ hm')
   exact⟨key _ h1,key _ h2⟩)

theorem Ag.mvs{F:FA}{b:B}{x:D}(h:Ag F b x)(M:List (Loc×Loc)):Ag F (b.mvs F M) x:=by
 cases M with
 | nil=>exact h
 | cons m r=>exact h.setf (fun l=> !(gU (m::r) l)) (fun l _=>mvK (m::r) b.kd l)

theorem HV{F:FA}{n:Nat}{b:B}{x:D}{s:St}(hA:Ag F b x)(h:Low n b x s){M:List (Loc×Loc)}(hM: ∀m∈M,(b.hasL m.1=true∧ ∃t,x.at m.1=some t)∧(b.hasL m.2=true∧ ∃t,x.at m.2=some t)):
  Low n (b.mvs F M) x (s.mvs M):=by
 cases hM0:M with
 | nil=>exact h
 | cons m0 r0=>
 have hB:b.mvs F (m0::r0)=b.setf F (fun l=> !(gU M l)) (fun l _=>mvK M b.kd l):=by rw[←hM0,hM0]; rfl
 rw[hB, ←hM0]
 have hat: ∀l,b.hasL l=true→s.at l=x.at l:=fun l hL=>by
  cases l with
  | s i k j=>rw[St.at_s,h.sl i hL]; rfl
  | oc o j=>rw[St.at_oc,h.ob o hL]; rfl
  | _=>cases hL
 have hMs: ∀m∈M,(∃y,s.at m.1=some y)∧(∃y,s.at m.2=some y):=fun m hm=>by
  obtain⟨⟨h1,t1,e1⟩,h2,t2,e2⟩:=hM m hm
  exact⟨⟨t1,(hat _ h1).trans e1⟩,⟨t2,(hat _ h2).trans e2⟩⟩
 have hMn: ∀m∈M,m.1≠ .none∧m.2≠ .none:=fun m hm=>by
  obtain⟨⟨y1,h1⟩,⟨y2,h2⟩⟩:=hMs m hm
  exact⟨(El h1).1,(El h2).1⟩
 have hMlo: ∀m∈M,(s.fl m.1).lo (b.kd m.1)=true∧(s.fl m.2).lo (b.kd m.2)=true:=fun m hm=>by
  obtain⟨⟨h1,t1,e1⟩,h2,t2,e2⟩:=hM m hm
  exact⟨h.fl _ t1 h1 e1,h.fl _ t2 h2 e2⟩
 have hhas: ∀i,(b.setf F (fun l=> !(gU M l)) (fun l _=>mvK M b.kd l)).has i=true→b.has i=true∧gU M (aG (F.shOf i))=true:=fun i hi=>by
  rw[sF]at hi
  simpa [and_comm]using hi
 have hkd: ∀l,(b.setf F (fun l=> !(gU M l)) (fun l _=>mvK M b.kd l)).hasL l=true→(b.setf F (fun l=> !(gU M l)) (fun l _=>mvK M b.kd l)).kd l= .D∨
   (b.setf F (fun l=> !(gU M l)) (fun l _=>mvK M b.kd l)).kd l=mvK M b.kd l:=fun l hL=>by
  simp only[B.kd,AD hL]
  cases b.get l with
  | none=>exact .inl rfl
  | some q=>exact .inr rfl
 have hapart: ∀l,gU M l=true→ ∀m∈M,l≠m.1∧l≠m.2:=fun l hl m hm=>by
  have:=List.all_eq_true.1 hl m hm
  simpa using this
 have hnd: ∀i k,b.has i=true→(∀t,(x.sl i).leaf k 0≠some t)→ ∀m∈M,Loc.s i k 0≠m.1∧Loc.s i k 0≠m.2:=fun i k hi hno m hm=>by
  obtain⟨⟨h1,t1,e1⟩,h2,t2,e2⟩:=hM m hm
  refine⟨fun e=> ?_,fun e=> ?_⟩
  ·rw[←e]at e1; exact hno t1 e1
  ·rw[←e]at e2; exact hno t2 e2
 -- of a slot none of whose cells is moved, the kind stays
 have hflo: ∀i k,b.has i=true→gU M (aG (F.shOf i))=true→(∀t,(x.sl i).leaf k 0≠some t)→(s.mvs M).fl (.s i k 0)=s.fl (.s i k 0)∧mvK M b.kd (.s i k 0)=b.kd (.s i k 0):=fun i k hi hra hno=>by
  have hap:=hnd i k hi hno
  refine⟨?_,Pw M hap⟩
  have hr: ∀m∈M,aG (s.sl i)≠m.1∧aG (s.sl i)≠m.2:=by
   rw[h.sl i hi]
   rcases hA.sl i hi with e | e
   ·rw[e]; exact fun m hm=>⟨Ne.symm (hMn m hm).1,Ne.symm (hMn m hm).2⟩
   ·rw[cV e]; exact hapart _ hra
  exact ID M hr hap
 refine⟨(TG M s).trans h.n,fun i hi=>by rw[TE]; exact h.sl i (hhas i hi).1,fun o ho=>by rw[TF]; rw[gK]at ho; exact h.ob o ho,fun l t hL ht=> ?_,fun i k xs hi hx=> ?_,fun i hi hr hf=> ?_⟩
 ·have hLb:b.hasL l=true:=by
   cases l with
   | s i k j=>exact(hhas i hL).1
   | oc o j=>have hL:(b.setf F _ _).hasO o=true:=hL; rw[gK]at hL; exact hL
   | _=>cases hL
  rcases hkd l hL with e | e
  ·rw[e]; exact Fo _
  ·rw[e,TH M ((hat l hLb).trans ht) hMs hMn]
   exact NZ M (h.fl l t hLb ht) hMlo
 ·obtain⟨h1,h2⟩:=hhas i hi
  have hno: ∀t,(x.sl i).leaf k 0≠some t:=fun t ht=>by
   cases hv:x.sl i with
   | one w=>
    rw[hv]at hx ht
    cases k with
    | zero=>simp only[V.comp,Option.some.injEq]at hx; subst hx; simp [V.leaf,W.leaf]at ht
    | succ k=>simp [V.comp]at hx
   | tup ws=>rw[hv]at hx ht; simp only[V.comp]at hx; simp [V.leaf,hx,W.leaf]at ht
  obtain⟨e1,e2⟩:=hflo i k h1 h2 hno
  rcases hkd (.s i k 0) hi with e | e
  ·rw[e]; exact Fo _
  ·rw[e,e1,e2]; exact h.cp i k xs h1 hx
 ·obtain⟨h1,h2⟩:=hhas i hi
  have hno: ∀t,(x.sl i).leaf 0 0≠some t:=fun t ht=>hr (by
   rcases hA.sl i h1 with e | e
   ·rw[e]; rfl
   ·rw[cV e]; exact hA.leaf_root h1 ht)
  obtain⟨e1,e2⟩:=hflo i 0 h1 h2 hno
  rcases hkd (.s i 0 0) hi with e | e
  ·exact absurd e hf
  ·rw[e,e2]at hf
   rw[e1]; exact h.al i h1 hr hf
end Go.Own

/- An object made or written: what is told without the data. -/
namespace Go.Own
open Go.RowKit

def Ce(d:Nat):W→Bool
  | .ptr o _=>Nat.beq o d
  | .fn _ cs=>cs.any fun c=>decide (c.1=d)
  | _=>false
def PD(d:Nat):V→Bool
  | .one w=>Ce d w
  | .tup ws=>ws.any (Ce d)

theorem Ds{d:Nat}{w:W}(h:Ce d w=false):w.kill d=w:=by
  cases w with
  | ptr o p=>
    have:o≠d:=fun e=>by subst e; simp [Ce,Nat.beq_refl]at h
    simp [W.kill,this]
  | fn f cs=>
    show(if(cs.any fun c=>c.1 == d)then W.junk else W.fn f cs)=W.fn f cs
    rw[if_neg]
    intro e
    have h:(cs.any fun c=>decide (c.1=d))=false:=h
    rw[show(fun c:Nat×Nat=>c.1 == d)=fun c=>decide (c.1=d)from rfl,h]at e
    cases e
  | _=>rfl

theorem GK{d:Nat}{v:V}(h:PD d v=false):v.kill d=v:=by
  cases v with
  | one w=>exact congrArg V.one (Ds h)
  | tup ws=>
    have h':ws.any (Ce d)=false:=h
    rw[List.any_eq_false]at h'
    simp only[V.kill]
    congr 1
    exact(List.map_congr_left fun w hw=>Ds (by simpa using h' w hw)).trans (List.map_id ws)

theorem EE{d:Nat}{v s:W}(h:bZ v s=true)(hs:Ce d s=false):Ce d v=false:=by
  cases v<;>cases s<;>simp only[bZ,Bool.and_eq_true,Bool.false_eq_true]at h<;>first | rfl | skip
  · obtain⟨h1,_⟩:=h
    rw[Nat.eq_of_beq_eq_true h1]
    exact hs
  · obtain⟨_,h2⟩:=h
    have:=of_decide_eq_true h2
    subst this
    exact hs

theorem Bh{d:Nat}: ∀ {xs ys:List W},lG xs ys=true→ys.any (Ce d)=false→xs.any (Ce d)=false
  | [],[],_,_=>rfl
  | [],_::_,h,_=>by simp [lG]at h
  | _::_,[],h,_=>by simp [lG]at h
  | x::xs,y::ys,h,hs=>by
    simp only[lG,Bool.and_eq_true]at h
    simp only[List.any_cons,Bool.or_eq_false_iff]at hs ⊢
    exact⟨EE h.1 hs.1,Bh h.2 hs.2⟩

theorem GX{d:Nat}{v s:V}(h:fits v s=true)(hs:PD d s=false):PD d v=false:=by
  cases v with
  | one w=>cases s with
    | one y=>exact EE h hs
    | tup ys=>simp [fits]at h
  | tup ws=>cases s with
    | one y=>simp [fits]at h
    | tup ys=>exact Bh h hs

def sO(F:FA)(d i:Nat):Bool:= !(Nat.beq i d)&& !(aS d (aG (F.shOf i)))&& !(sC d (aG (F.shOf i)))&& !(PD d (F.shOf i))

def B.alloc(F:FA)(b:B)(d:Nat)(κ:Nat→K):B:=
  { sl:=(d,[[.S]])::b.sl.filter (fun q=>sO F d q.1)
    ob:=(d,Mn κ 0 (F.obOf d))::b.ob.filter (fun q=> !(Nat.beq q.1 d)) }

theorem BX{F:FA}{b:B}{d:Nat}{κ:Nat→K}{i:Nat}:(b.alloc F d κ).has i=(Nat.beq i d||(sO F d i&&b.has i)):=by
  simp only[B.has,B.alloc,cG]
  cases h:Nat.beq i d with
  | true=>rfl
  | false=>
    simp only[cond_false,Bool.false_or]
    rw[dI (sO F d) i b.sl]
    cases sO F d i<;>simp

theorem yL{F:FA}{b:B}{d:Nat}{κ:Nat→K}{o:Nat}:(b.alloc F d κ).hasO o=(Nat.beq o d||b.hasO o):=by
  simp only[B.hasO,B.alloc,cG]
  cases h:Nat.beq o d with
  | true=>rfl
  | false=>
    simp only[cond_false,Bool.false_or]
    rw[dI (fun o=> !(Nat.beq o d)) o b.ob]
    simp [h]

theorem HA{F:FA}{b:B}{d:Nat}{κ:Nat→K}{i k j:Nat}(h:i≠d)(hp:sO F d i=true):(b.alloc F d κ).get (.s i k j)=b.get (.s i k j):=by
  simp only[B.get,B.alloc,cG,cL h,cond_false]
  rw[dI (sO F d) i b.sl,if_pos hp]
theorem CO{F:FA}{b:B}{d:Nat}{κ:Nat→K}{o j:Nat}(h:o≠d):(b.alloc F d κ).get (.oc o j)=b.get (.oc o j):=by
  simp only[B.get,B.alloc,cG,cL h,cond_false]
  rw[dI (fun o=> !(Nat.beq o d)) o b.ob]
  simp [cL h]

theorem Ag.alloc{F:FA}{b:B}{x:D}(h:Ag F b x){d:Nat}{cells:List T}{κ:Nat→K}(hs:F.shOf d= .one (.ptr d 0))(hc:eU cells (F.obOf d)=true):Ag F (b.alloc F d κ) ((x.put d (.one (.ptr d 0))).setO d cells):=by
  refine⟨fun i hi=> ?_,fun o ho=> ?_⟩
  · by_cases e:i=d
    · subst e
      right
      simp [D.setO,D.put,hs,fits,bZ]
    · simp only[D.setO,D.put,if_neg e]
      rw[BX,cL e]at hi
      simp only[Bool.false_or,Bool.and_eq_true]at hi
      exact h.sl i hi.2
  · by_cases e:o=d
    · subst e
      exact⟨cells,by simp [D.setO],hc⟩
    · simp only[D.setO,D.put,if_neg e]
      rw[yL,cL e]at ho
      exact h.ob o (by simpa using ho)

theorem Gg{F:FA}{n:Nat}{b:B}{x:D}{s:St}(hA:Ag F b x)(h:Low n b x s){d:Nat}{cells:List T}{κ f:Nat→K}(hc:eU cells (F.obOf d)=true)(hl: ∀j,(κ j).lo (f j)=true):
    Low n (b.alloc F d f) ((x.put d (.one (.ptr d 0))).setO d cells) (s.alloc d cells κ):=by
  have hhas: ∀i,i≠d→(b.alloc F d f).has i=true→b.has i=true∧sO F d i=true:=fun i e hi=>by
    rw[BX,cL e]at hi
    simpa [and_comm]using hi
  have hall: ∀i,i≠d→(b.alloc F d f).has i=true→(aS d (aG (s.sl i))||sC d (aG (s.sl i)))=false∧PD d (s.sl i)=false:=fun i e hi=>by
    obtain⟨h1,h2⟩:=hhas i e hi
    rw[h.sl i h1]
    rcases hA.sl i h1 with e2 | e2
    · rw[e2]; exact⟨rfl,rfl⟩
    · rw[cV e2]
      simp only[sO,Bool.and_eq_true,Bool.not_eq_true']at h2
      exact⟨by simp [h2.1.1.2,h2.1.2],GX e2 h2.2⟩
  have hkd: ∀i k j,i≠d→(b.alloc F d f).has i=true→(b.alloc F d f).kd (.s i k j)=b.kd (.s i k j):=fun i k j e hi=>by
    simp only[B.kd,HA e (hhas i e hi).2]
  have hfl: ∀i k j,i≠d→(b.alloc F d f).has i=true→(s.alloc d cells κ).fl (.s i k j)=s.fl (.s i k j):=fun i k j e hi=>by
    simp only[St.alloc,if_neg e]
    rw[if_neg]
    rintro ⟨_,_,h3⟩
    rw[(hall i e hi).1]at h3; cases h3
  have hO: ∀o,o≠d→(b.alloc F d f).hasO o=true→b.hasO o=true:=fun o e ho=>by
    rw[yL,cL e]at ho; simpa using ho
  refine⟨h.n,fun i hi=> ?_,fun o ho=> ?_,fun l t hL ht=> ?_,fun i k xs hi hx=> ?_,fun i hi hr' hf=> ?_⟩
  · by_cases e:i=d
    · subst e; simp [St.alloc,D.put,D.setO]
    · simp only[St.alloc,D.put,D.setO,if_neg e]
      rw[GK (hall i e hi).2]
      exact h.sl i (hhas i e hi).1
  · by_cases e:o=d
    · subst e; simp [St.alloc,D.setO]
    · simp only[St.alloc,D.put,D.setO,if_neg e]; exact h.ob o (hO o e ho)
  · cases l with
    | s i k j=>
      by_cases e:i=d
      · subst e
        exfalso
        simp only[D.at,atL,D.setO,D.put,if_true]at ht
        cases k<;>simp [V.leaf,W.leaf]at ht
      · rw[hfl i k j e hL,hkd i k j e hL]
        refine h.fl (.s i k j) t (hhas i e hL).1 ?_
        simpa [D.at,atL,D.setO,D.put,e]using ht
    | oc o j=>
      by_cases e:o=d
      · subst e
        have ht':cells[j]? =some t:=by simpa [D.at,atL,D.setO]using ht
        have hj:j<(F.obOf o).length:=by rw[←wD hc]; exact cD ht'
        have e1:(s.alloc o cells κ).fl (.oc o j)=κ j:=by simp [St.alloc]
        have e2:(b.alloc F o f).kd (.oc o j)=f j:=by
          simp only[B.kd,B.get,B.alloc,cG,Nat.beq_refl,cond_true,AE,if_pos hj,Nat.zero_add]
        rw[e1,e2]; exact hl j
      · have e1:(s.alloc d cells κ).fl (.oc o j)=s.fl (.oc o j):=by simp [St.alloc,e]
        have e2:(b.alloc F d f).kd (.oc o j)=b.kd (.oc o j):=by simp only[B.kd,CO e]
        rw[e1,e2]
        exact h.fl (.oc o j) t (hO o e hL) (by simpa [D.at,atL,D.setO,D.put,e]using ht)
    | _=>cases hL
  · by_cases e:i=d
    · subst e
      exfalso
      simp only[D.setO,D.put,if_true]at hx
      cases k<;>simp [V.comp]at hx
    · rw[hfl i k 0 e hi,hkd i k 0 e hi]
      exact h.cp i k xs (hhas i e hi).1 (by simpa [D.setO,D.put,e]using hx)
  · by_cases e:i=d
    · subst e
      exact absurd (show aG (((x.put i (.one (.ptr i 0))).setO i cells).sl i)= .none from by simp [D.setO,D.put,aG]) hr'
    · rw[hfl i 0 0 e hi]
      rw[hkd i 0 0 e hi]at hf
      exact h.al i (hhas i e hi).1 (by simpa [D.setO,D.put,e]using hr') hf

/-! ### an object written -/
def B.write(F:FA)(b:B)(o p m:Nat)(κ:Nat→K):B:=
  (b.mapK (fun l q=>match l with | .oc o' j=>if Nat.beq o' o&&Nat.ble p j&&Nat.blt j (p+m)then κ (j - p)else q | _=>q)).filt fun i=> !(sC o (aG (F.shOf i)))

theorem vR{F:FA}{b:B}{o p m:Nat}{κ:Nat→K}{i:Nat}:(b.write F o p m κ).has i=(!(sC o (aG (F.shOf i)))&&b.has i):=by rw[B.write,fG,Iu]
theorem sZ{F:FA}{b:B}{o p m:Nat}{κ:Nat→K}{o':Nat}:(b.write F o p m κ).hasO o'=b.hasO o':=by rw[B.write,BQ,GM]

theorem Ag.write{F:FA}{b:B}{x:D}(h:Ag F b x){o p m:Nat}{cells:List T}{κ:Nat→K}(hc:eU cells (F.obOf o)=true):Ag F (b.write F o p m κ) (x.setO o cells):=by
  refine⟨fun i hi=> ?_,fun o' ho=> ?_⟩
  · rw[vR,Bool.and_eq_true]at hi; exact h.sl i hi.2
  · rw[sZ]at ho
    by_cases e:o'=o
    · subst e; exact⟨cells,by simp [D.setO],hc⟩
    · simp only[D.setO,if_neg e]; exact h.ob o' ho

theorem La{F:FA}{n:Nat}{b:B}{x:D}{s:St}(hA:Ag F b x)(h:Low n b x s){o p:Nat}{xs cells:List T}{κ:Nat→K}(hc:x.ob o=some cells)(hle:p+xs.length≤cells.length):
    Low n (b.write F o p xs.length κ) (x.setO o (cells.take p++xs++cells.drop (p+xs.length))) (s.write o p xs cells κ):=by
  have hhas: ∀i,(b.write F o p xs.length κ).has i=true→b.has i=true∧sC o (aG (s.sl i))=false:=fun i hi=>by
    rw[vR,Bool.and_eq_true]at hi
    refine⟨hi.2, ?_⟩
    rw[h.sl i hi.2]
    rcases hA.sl i hi.2 with e2 | e2
    · rw[e2]; rfl
    · rw[cV e2]; simpa using hi.1
  have hkd: ∀i k j,(b.write F o p xs.length κ).has i=true→(b.write F o p xs.length κ).kd (.s i k j)=b.kd (.s i k j):=fun i k j hi=>by
    have h0:=hi
    rw[vR,Bool.and_eq_true]at h0
    rw[B.write,fM (by exact h0.1),Ky]
    simp only[B.kd]
  have hfl: ∀i k j,(b.write F o p xs.length κ).has i=true→(s.write o p xs cells κ).fl (.s i k j)=s.fl (.s i k j):=fun i k j hi=>by
    simp only[St.write]
    rw[if_neg]
    rintro ⟨_,_,h3⟩
    rw[(hhas i hi).2]at h3; cases h3
  refine⟨h.n,fun i hi=>h.sl i (hhas i hi).1,fun o' ho=> ?_,fun l t hL ht=> ?_,fun i k ys hi hx=> ?_,fun i hi hr' hf=> ?_⟩
  · rw[sZ]at ho
    by_cases e:o'=o
    · subst e; simp [St.write,D.setO]
    · simp only[St.write,D.setO,if_neg e]; exact h.ob o' ho
  · cases l with
    | s i k j=>rw[hfl i k j hL,hkd i k j hL]; exact h.fl (.s i k j) t (hhas i hL).1 ht
    | oc o' j=>
      have hL':b.hasO o'=true:=by have hL:(b.write F o p xs.length κ).hasO o'=true:=hL; rw[sZ]at hL; exact hL
      have e2:(b.write F o p xs.length κ).kd (.oc o' j)=match b.get (.oc o' j)with | some q=>(if Nat.beq o' o&&Nat.ble p j&&Nat.blt j (p+xs.length)then κ (j - p)else q) | none=> .D:=by
        rw[B.write,Jn,Ky]
        cases b.get (.oc o' j)<;>rfl
      rw[e2]
      show(if o'=o∧p≤j∧j<p+xs.length then κ (j - p)else s.fl (.oc o' j)).lo _=true
      by_cases e:o'=o∧p≤j∧j<p+xs.length
      · rw[if_pos e]
        have hb:(Nat.beq o' o&&Nat.ble p j&&Nat.blt j (p+xs.length))=true:=by
          obtain⟨rfl,h1,h2⟩:=e
          simp [Nat.beq_refl,Nat.blt,h1,Nat.succ_le_of_lt h2]
        cases b.get (.oc o' j)with
        | none=>exact Fo _
        | some q=>simp only[hb,if_true]; exact cZ _
      · rw[if_neg e]
        have hb:(Nat.beq o' o&&Nat.ble p j&&Nat.blt j (p+xs.length))=false:=by
          rw[Bool.eq_false_iff]
          intro hh
          simp only[Bool.and_eq_true]at hh
          exact e ⟨Nat.eq_of_beq_eq_true hh.1.1,Nat.le_of_ble_eq_true hh.1.2,Nat.le_of_ble_eq_true hh.2⟩
        have ht':x.at (.oc o' j)=some t:=by
          by_cases eo:o'=o
          · subst eo
            have hj: ¬ (p≤j∧j<p+xs.length):=fun h=>e ⟨rfl,h⟩
            simp only[D.at,atL,D.setO,if_true,Option.bind_some]at ht ⊢
            rw[oQ cells xs p hle j,if_neg hj]at ht
            rw[hc]; exact ht
          · simpa [D.at,atL,D.setO,eo]using ht
        have h1:=h.fl (.oc o' j) t hL' ht'
        simp only[B.kd]at h1
        cases hg:b.get (.oc o' j)with
        | none=>exact Fo _
        | some q=>rw[hg]at h1; simp only[hb]; exact h1
    | _=>cases hL
  · rw[hfl i k 0 hi,hkd i k 0 hi]; exact h.cp i k ys (hhas i hi).1 hx
  · rw[hfl i 0 0 hi]
    rw[hkd i 0 0 hi]at hf
    exact h.al i (hhas i hi).1 hr' hf
end Go.Own

/- The single steps, on data and on what is told without it: moves, pointers, reads. -/
namespace Go.Own
open Go.RowKit

def mem(d:Nat):List Nat→Bool
 | []=>false
 | i::r=>Nat.beq d i||mem d r

def pU(F:FA)(x:D)(d:Nat)(v:V):Option D:=bif fits v (F.shOf d)then some (x.put d v)else none

theorem bW{F:FA}{x x':D}{d:Nat}{v:V}(h:pU F x d v=some x'):fits v (F.shOf d)=true∧x'=x.put d v:=by
 unfold pU at h
 cases e:fits v (F.shOf d)with
 | true=>rw[e]at h; simp only[cond_true,Option.some.injEq]at h; exact⟨rfl,h.symm⟩
 | false=>rw[e]at h; cases h

structure OpS (P:Program) (F:FA) (n:Nat) (o:Oper) (b:B) (x:D) (b':B) (x':D):Prop where
 ag:Ag F b' x'
 ok: ∀g0 w0,nY P g0 w0 o (b.S n x) (b'.S n x')

theorem OpS.fin{P:Program}{F:FA}{n:Nat}{o:Oper}{b:B}{x:D}{b':B}{x':D}{s:St}(hA:Ag F b' x')(h: ∀g0 w0,nY P g0 w0 o (b.S n x) s)(hL:Low n b' x' s):OpS P F n o b x (b'.nrm F) x':=
 ⟨hA.nrm,fun g0 w0=>(h g0 w0).relax (hL.le hA)⟩

def dX(b:B):Operand→Bool
 | .tmp t=>b.has t
 | _=>true
def pT(F:FA):Operand→V
 | .tmp t=>F.shOf t
 | .const v=>bG v
 | .func f=> .one (.fn f [])
 | .global _=> .one .junk
def Ew(b:B):Operand→Nat→Nat→K
 | .tmp t,k,j=>(b.kd (.s t k j)).cp
 | .const v,k,j=>gF (bG v) k j
 | _,_,_=> .S

theorem qF{n:Nat}{b:B}{x:D}{v:Operand}:opK (b.S n x) v=Ew b v:=by cases v<;>rfl

theorem qL{n:Nat}{b:B}{x:D}{t:Nat}(h:b.has t=true):(b.S n x).sl t=x.sl t:=by simp only[B.S]; rw[if_pos h]
theorem JS{n:Nat}{b:B}{x:D}{t:Nat}(h:b.hasO t=true):(b.S n x).ob t=x.ob t:=by simp only[B.S]; rw[if_pos h]
theorem oZ{n:Nat}{b:B}{x:D}{v:Operand}(h:dX b v=true):ev (b.S n x).sl v=ev x.sl v:=by
 cases v with
 | tmp t=>exact qL h
 | _=>rfl

/-- A tmp's value, there: of its shape. -/
theorem Ag.fits{F:FA}{b:B}{x:D}(hA:Ag F b x){t:Nat}(h:b.has t=true)(hj:x.sl t≠ .tup []):fits (x.sl t) (F.shOf t)=true:=by
 rcases hA.sl t h with e | e
 ·exact absurd e hj
 ·exact e

/-- A value is there. -/
def dZ:V→Bool
 | .tup []=>false
 | _=>true
theorem Fu{v:V}(h:dZ v=true):v≠ .tup []:=fun e=>by subst e; cases h

theorem uY(v:Value):aG (bG v)= .none:=by unfold bG; (repeat' split)<;>rfl

theorem LN{F:FA}{b:B}{x:D}(hA:Ag F b x){v:Operand}(h:dX b v=true):aG (ev x.sl v)≠ .none→aG (ev x.sl v)=aG (pT F v):=by
 cases v with
 | tmp t=>
  intro h1
  rcases hA.sl t h with e | e
  ·exact absurd (show aG (x.sl t)= .none by rw[e]; rfl) h1
  ·exact cV e
 | _=>intro _; rfl

/-! ### leaves -/
def range':Nat→Nat→List Nat
 | _,0=> []
 | i,m+1=>i::range' (i+1) m
theorem nW: ∀ {m i j:Nat},j∈range' i m↔i≤j∧j<i+m
 | 0,i,j=>by
  simp only[range',List.not_mem_nil,false_iff]
  omega
 | m+1,i,j=>by
  simp only[range',List.mem_cons,nW (m:=m)]
  omega
def EP:W→List Nat
 | .c _=> [0]
 | .ag xs=>range' 0 xs.length
 | _=> []
def vO:Nat→List W→List (Nat×Nat)
 | _,[]=> []
 | k,w::r=>(EP w).map (fun j=>(k,j))++vO (k+1) r
def mF:V→List (Nat×Nat)
 | .one w=>(EP w).map fun j=>(0,j)
 | .tup ws=>vO 0 ws

theorem Dw{x y:W}(h:bZ x y=true){j:Nat}(hj:j∈EP y): ∃t,x.leaf j=some t:=by
 cases y<;>simp only[EP,List.not_mem_nil,List.mem_singleton]at hj<;>try exact absurd hj (by simp)
 ·subst hj
  cases x<;>simp [bZ]at h
  exact⟨_,rfl⟩
 ·rename_i ys
  cases x<;>simp [bZ]at h
  rename_i xs
  have:=(nW.1 hj).2
  rw[Nat.zero_add, ←wD h]at this
  exact⟨xs[j],List.getElem?_eq_getElem this⟩

theorem Bd: ∀ {ys:List W} {xs:List W} {k0 k j:Nat},lG xs ys=true→(k,j)∈vO k0 ys→ ∃w t,xs[k - k0]? =some w∧w.leaf j=some t∧k0≤k
 | [],_,_,_,_,_,hm=>by simp [vO]at hm
 | y::ys,[],_,_,_,h,_=>by simp [lG]at h
 | y::ys,x::xs,k0,k,j,h,hm=>by
  simp only[lG,Bool.and_eq_true]at h
  simp only[vO,List.mem_append,List.mem_map,Prod.mk.injEq,exists_eq_right_right]at hm
  rcases hm with⟨h1,rfl⟩ | hm
  ·obtain⟨t,ht⟩:=Dw h.1 h1
   exact⟨x,t,by simp,ht,Nat.le_refl _⟩
  ·obtain⟨w,t,h1,h2,h3⟩:=Bd h.2 hm
   refine⟨w,t, ?_,h2,by omega⟩
   rw[show k - k0=(k - (k0+1))+1 by omega,List.getElem?_cons_succ]
   exact h1

theorem qU{v s:V}(h:Own.fits v s=true){k j:Nat}(hm:(k,j)∈mF s): ∃t,v.leaf k j=some t:=by
 cases v with
 | one w=>
  cases s with
  | tup ws=>simp [Own.fits]at h
  | one y=>
   simp only[mF,List.mem_map,Prod.mk.injEq,exists_eq_right_right]at hm
   obtain⟨h1,rfl⟩:=hm
   exact Dw h h1
 | tup ws=>
  cases s with
  | one y=>simp [Own.fits]at h
  | tup ys=>
   obtain⟨w,t,h1,h2,_⟩:=Bd (k0:=0) h hm
   exact⟨t,by simp only[V.leaf]; rw[Nat.sub_zero]at h1; rw[h1]; exact h2⟩

/-- Slot t's cells that hold. -/
def holds(F:FA)(b:B)(t:Nat):List (Nat×Nat):=(mF (F.shOf t)).filter fun m=>(b.kd (.s t m.1 m.2)).hold

theorem NR{F:FA}{b:B}{x:D}(hA:Ag F b x){d:Nat}{r:V}{f:Nat→Nat→K}{l:Loc}{t:T}(h:b.hasL l=true)(hd:aS d l=false)(ht:x.at l=some t):(b.put F d f).hasL l=true∧ ∃t,(x.put d r).at l=some t:=by
 cases l with
 | s i k j=>
  have hi:b.has i=true:=h
  have hne:i≠d:=fun e=>by subst e; simp [aS]at hd
  have hr:=hA.leaf_root hi ht
  refine⟨?_,t, ?_⟩
  ·show(b.put F d f).has i=true
   rw[EK,cL hne,hr,hi]; rfl
  ·simpa [D.at,atL,D.put,hne]using ht
 | oc o j=>exact⟨h,t,ht⟩
 | _=>cases h

theorem Ps{F:FA}{b:B}{x:D}{d:Nat}{r:V}{f:Nat→Nat→K}{k j:Nat}(h: ∃t,r.leaf k j=some t):(b.put F d f).hasL (.s d k j)=true∧ ∃t,(x.put d r).at (.s d k j)=some t:=by
 obtain⟨t,h⟩:=h
 refine⟨?_,t,by simpa [D.at,atL,D.put]using h⟩
 show(b.put F d f).has d=true
 rw[EK,Nat.beq_refl]; rfl

/-- Put, and takes into what was put. -/
theorem OpS.put{P:Program}{F:FA}{n:Nat}{o:Oper}{b:B}{x:D}(hA:Ag F b x){d:Nat}{r:V}{κ:Nat→Nat→K}{M:List (Loc×Loc)}(hr:Own.fits r (F.shOf d)=true)
  (h: ∀g0 w0,nY P g0 w0 o (b.S n x) (((b.S n x).put d r κ).mvs M))(hM: ∀m∈M,(b.hasL m.1=true∧aS d m.1=false∧ ∃t,x.at m.1=some t)∧ ∃k j,m.2= .s d k j∧ ∃t,r.leaf k j=some t):
  OpS P F n o b x (((b.put F d κ).mvs F M).nrm F) (x.put d r):=by
 have h1:=hA.put (f:=κ) (.inr hr)
 have h2:=HT hA (Low.self n b x) (κ:=κ) (f:=κ) (.inr hr) (fun _ _ _ _=>cZ _) (fun _ _ _=>cZ _) (fun _ h=>h)
 refine OpS.fin (h1.mvs M) h (HV h1 h2 (fun m hm=> ?_))
 obtain⟨⟨q1,q2,t,q3⟩,k,j,q4,q5⟩:=hM m hm
 refine⟨NR hA q1 q2 q3, ?_⟩
 rw[q4]
 exact Ps q5

/-! ### moves -/
def uX(F:FA)(x:D)(d:Nat)(v:Operand):Option D:=bif dZ (ev x.sl v)then pU F x d (ev x.sl v)else none
def MT(F:FA)(b:B)(d:Nat)(take:Bool):Operand→List (Loc×Loc)
 | .tmp t=>bif take then(holds F b t).map fun m=>(.s t m.1 m.2, .s d m.1 m.2)else []
 | _=> []
def EU(d:Nat)(v:V):Bool:=match aG v with | .none=>true | l=> !(aS d l)
def Fi(d:Nat):Operand→Bool
 | .tmp t=> !(Nat.beq t d)
 | _=>true
def PU(F:FA)(b:B)(d:Nat)(take:Bool)(v:Operand):Option B:=
 bif Nat.blt d F.n&&dX b v&&EU d (pT F v)&&Fi d v then some (((b.put F d (Ew b v)).mvs F (MT F b d take v)).nrm F)else none

theorem cJ{a b:Nat}(h:Nat.blt a b=true):a<b:=Nat.le_of_ble_eq_true h
theorem Hz{d:Nat}{v:V}(h:EU d v=true)(hv:aG v≠ .none):aS d (aG v)=false:=by
 unfold EU at h
 split at h
 ·rename_i e; exact absurd e hv
 ·simpa using h
theorem GH{d t:Nat}(h:Fi d (.tmp t)=true):t≠d:=fun e=>by subst e; simp [Fi,Nat.beq_refl]at h

section
variable {P:Program} {τ:TypeId→Option TI} {F:FA} {o:Oper} {b b':B} {x x':D} {d:Nat}

theorem aJ{α:Type}{c:Bool}{a:Option α}{y:α}(h:(bif c then a else none)=some y):c=true∧a=some y:=by
 cases c with
 | true=>exact⟨rfl,h⟩
 | false=>cases h

theorem Od(hA:Ag F b x){v:Operand}{take:Bool}(hd:o.dst=some d)(ho:o.op= .assign v∨o.op= .move v)(h1:uX F x d v=some x')(h2:PU F b d take v=some b'):OpS P F F.n o b x b' x':=by
 obtain⟨c,h2⟩:=aJ h2
 simp only[Bool.and_eq_true]at c
 obtain⟨⟨⟨c1,c2⟩,c3⟩,c4⟩:=c
 cases h2
 unfold uX at h1
 obtain⟨hth,h1⟩:=aJ h1
 obtain⟨e1,rfl⟩:=bW h1
 have hroot:aG (ev x.sl v)≠ .none→aS d (aG (ev x.sl v))=false:=fun h=>by
  have:=LN hA c2 h
  rw[this]at h ⊢
  exact Hz c3 h
 have hMs: ∀m∈MT F b d take v, ∃t k j,v= .tmp t∧m=(.s t k j, .s d k j)∧ ∃y,(x.sl t).leaf k j=some y:=fun m hm=>by
  cases v with
  | tmp t=>
   simp only[MT]at hm
   cases take with
   | false=>simp at hm
   | true=>
    simp only[cond_true,List.mem_map]at hm
    obtain⟨⟨k,j⟩,hm,rfl⟩:=hm
    have hm:=(List.mem_filter.1 hm).1
    refine⟨t,k,j,rfl,rfl, ?_⟩
    have hj:x.sl t≠ .tup []:=Fu hth
    exact qU (hA.fits c2 hj) hm
  | _=>simp [MT]at hm
 refine OpS.put hA e1 (fun g0 w0=> ?_) (fun m hm=> ?_)
 ·have h0: ∀L:List (Nat×Nat),(∀m∈L, ∃t,v= .tmp t∧t≠d∧ ∃y,(x.sl t).leaf m.1 m.2=some y)→_:=fun L hL=>Px (P:=P) (g0:=g0) (w0:=w0) (st:=b.S F.n x) L hd (cJ c1) ho (by rw[oZ c2]; exact hroot) (fun m hm=>by
   obtain⟨t,rfl,h1,y,h2⟩:=hL m hm
   exact⟨t,rfl,h1,y,by rw[St.at_s,qL c2]; exact h2⟩)
  rw[oZ c2,qF]at h0
  cases v with
  | tmp t=>
   cases take with
   | true=>
    exact h0 (holds F b t) (fun m hm=>by
     obtain⟨t',k,j,e,e2,y,e3⟩:=hMs (.s t m.1 m.2, .s d m.1 m.2) (List.mem_map_of_mem (f:=fun m=>(Loc.s t m.1 m.2,Loc.s d m.1 m.2)) hm)
     cases e
     simp only[Prod.mk.injEq,Loc.s.injEq]at e2
     obtain⟨⟨_,rfl,rfl⟩,_⟩:=e2
     exact⟨t,rfl,GH c4,y,e3⟩)
   | false=>exact h0 [] (fun m hm=>by simp at hm)
  | const u=>exact h0 [] (fun m hm=>by simp at hm)
  | func f=>exact h0 [] (fun m hm=>by simp at hm)
  | global i=>exact h0 [] (fun m hm=>by simp at hm)
 ·obtain⟨t,k,j,rfl,rfl,y,e3⟩:=hMs m hm
  exact⟨⟨c2,by simp [aS,GH c4],y,e3⟩,k,j,rfl,y,e3⟩

def rC(F:FA)(x:D)(d:Nat):Operand→Option D
 | .tmp t=>match x.sl t with
  | .one (.c (.sl _))=>pU F x d (.one (.al (.s t 0 0) []))
  | _=>none
 | _=>none
def Kb(F:FA)(b:B)(d:Nat):Operand→Option B
 | .tmp t=>bif Nat.blt d F.n&&b.has t&& !(Nat.beq t d)&&(b.kd (.s t 0 0)).hold then some ((b.put F d (fun _ _=> .F)).nrm F)else none
 | _=>none

theorem Qf(hA:Ag F b x){v:Operand}(hd:o.dst=some d)(ho:o.op= .move v)(h1:rC F x d v=some x')(h2:Kb F b d v=some b'):OpS P F F.n o b x b' x':=by
 cases v with
 | tmp t=>
  simp only[Kb]at h2
  obtain⟨c,h2⟩:=aJ h2
  simp only[Bool.and_eq_true]at c
  obtain⟨⟨⟨c1,c2⟩,c3⟩,c4⟩:=c
  cases h2
  simp only[rC]at h1
  split at h1<;>try cases h1
  rename_i es hs
  obtain⟨e1,rfl⟩:=bW h1
  refine OpS.put (M:=[]) hA e1 (fun g0 w0=> ?_) (fun m hm=>by simp at hm)
  exact OJ hd (cJ c1) ho (fun e=>by subst e; simp [Nat.beq_refl]at c3) (by rw[qL c2]; exact hs) c4
 | _=>cases h2

/-! ### a part of a tuple -/
def nL(F:FA)(x:D)(d k:Nat):Operand→Option D
 | .tmp t=>match x.sl t with
  | .tup ws=>match ws[k]? with | some w=>pU F x d (.one w) | none=>none
  | _=>none
 | _=>none
def Ej(F:FA)(b:B)(d k:Nat):Operand→Option B
 | .tmp t=>bif Nat.blt d F.n&&b.has t&& !(Nat.beq t d)&&decide (aG (F.shOf d)= .none)then
   some (((b.put F d (fun _ j=>(b.kd (.s t k j)).cp)).mvs F (((mF (F.shOf d)).filter fun m=>(b.kd (.s t k m.2)).hold).map fun m=>(.s t k m.2, .s d 0 m.2))).nrm F)else none
 | _=>none

theorem zL{s:V}{w:W}(h:Own.fits (.one w) s=true){k j:Nat}(hm:(k,j)∈mF s):k=0:=by
 cases s with
 | tup ws=>simp [Own.fits]at h
 | one y=>
  simp only[mF,List.mem_map,Prod.mk.injEq,exists_eq_right_right]at hm
  exact hm.2.symm

theorem Lz(hA:Ag F b x){v:Operand}{k:Nat}(hd:o.dst=some d)(ho:o.op= .extract v k)(h1:nL F x d k v=some x')(h2:Ej F b d k v=some b'):OpS P F F.n o b x b' x':=by
 cases v with
 | tmp t=>
  simp only[Ej]at h2
  obtain⟨c,h2⟩:=aJ h2
  simp only[Bool.and_eq_true]at c
  obtain⟨⟨⟨c1,c2⟩,c3⟩,c4⟩:=c
  cases h2
  simp only[nL]at h1
  split at h1<;>try cases h1
  rename_i ws hs
  split at h1<;>try cases h1
  rename_i w hw
  obtain⟨e1,rfl⟩:=bW h1
  have hne:t≠d:=fun e=>by subst e; simp [Nat.beq_refl]at c3
  have hl: ∀j,(0,j)∈mF (F.shOf d)→ ∃y,w.leaf j=some y:=fun j hj=>by
   obtain⟨y,hy⟩:=qU e1 hj
   exact⟨y,hy⟩
  refine OpS.put hA e1 (fun g0 w0=> ?_) (fun m hm=> ?_)
  ·have:=Jo (P:=P) (g0:=g0) (w0:=w0) (st:=b.S F.n x) (((mF (F.shOf d)).filter fun m=>(b.kd (.s t k m.2)).hold).map (·.2)) hd (cJ c1) ho hne (by rw[qL c2]; exact hs) hw
    (by rw[cV e1]; exact of_decide_eq_true c4) (fun j hj=>by
     obtain⟨⟨k',j'⟩,hm,rfl⟩:=List.mem_map.1 hj
     have hm:=(List.mem_filter.1 hm).1
     have:=zL e1 hm
     subst this
     exact hl _ hm)
   rw[List.map_map]at this
   exact this
  ·obtain⟨⟨k',j⟩,hm',rfl⟩:=List.mem_map.1 hm
   have hm':=(List.mem_filter.1 hm').1
   have:=zL e1 hm'
   subst this
   obtain⟨y,hy⟩:=hl _ hm'
   exact⟨⟨c2,by simp [aS,hne],y,by simp [D.at,atL,hs,V.leaf,hw,hy]⟩,0,j,rfl,y,hy⟩
 | _=>cases h2
end
end Go.Own

/- The single steps: choices, pointers, loads. -/
namespace Go.Own
open Go.RowKit

section
variable {P:Program} {τ:TypeId→Option TI} {F:FA} {o:Oper} {b b':B} {x x':D} {d:Nat}

/-- What lies in a slot, put: no takes. -/
theorem OpS.put0(hA:Ag F b x){r:V}{κ:Nat→Nat→K}(hr:Own.fits r (F.shOf d)=true)(h: ∀g0 w0,nY P g0 w0 o (b.S F.n x) ((b.S F.n x).put d r κ)):OpS P F F.n o b x ((b.put F d κ).nrm F) (x.put d r):=
 OpS.put (M:=[]) hA hr h (fun m hm=>by simp at hm)

/-! ### choices -/
def Ch(F:FA)(x:D)(d:Nat)(c y z:Operand):Option D:=
 match ev x.sl c with
 | .one (.c (.bool true))=>(match ev x.sl y with | .one (.c r)=>bif scal r then pU F x d (.one (.c r))else none | _=>none)
 | .one (.c (.bool false))=>(match ev x.sl z with | .one (.c r)=>bif scal r then pU F x d (.one (.c r))else none | _=>none)
 | _=>none
def Se(F:FA)(b:B)(d:Nat)(c y z:Operand):Option B:=bif Nat.blt d F.n&&dX b c&&dX b y&&dX b z then some ((b.put F d (fun _ _=> .S)).nrm F)else none

theorem TB(hA:Ag F b x){c y z:Operand}(hd:o.dst=some d)(ho:o.op= .pick c y z)(h1:Ch F x d c y z=some x')(h2:Se F b d c y z=some b'):OpS P F F.n o b x b' x':=by
 obtain⟨hc,h2⟩:=aJ h2
 simp only[Bool.and_eq_true]at hc
 obtain⟨⟨⟨c1,c2⟩,c3⟩,c4⟩:=hc
 cases h2
 unfold Ch at h1
 split at h1
 ·rename_i hcv
  split at h1<;>try cases h1
  rename_i r hr
  obtain⟨hs,h1⟩:=aJ h1
  obtain⟨e1,rfl⟩:=bW h1
  refine OpS.put0 hA e1 (fun g0 w0=> ?_)
  exact Kq (b:=true) (r1:=r) (r2:=r) hd (cJ c1) ho (by rw[oZ c2]; exact hcv) (fun _=>⟨by rw[oZ c3]; exact hr,hs⟩) (fun e=>by cases e)
 ·rename_i hcv
  split at h1<;>try cases h1
  rename_i r hr
  obtain⟨hs,h1⟩:=aJ h1
  obtain⟨e1,rfl⟩:=bW h1
  refine OpS.put0 hA e1 (fun g0 w0=> ?_)
  exact Kq (b:=false) (r1:=r) (r2:=r) hd (cJ c1) ho (by rw[oZ c2]; exact hcv) (fun e=>by cases e) (fun _=>⟨by rw[oZ c4]; exact hr,hs⟩)
 ·cases h1

/-! ### pointers -/
def uI(τ:TypeId→Option TI)(F:FA)(x:D)(d:Nat)(s:TypeId)(v:Operand)(f:Nat):Option D:=
 match tk τ s with
 | some (.struct fs)=>(match fs[f]? with
  | some q=>(match zX q.1 (ev x.sl v)with | some r=>pU F x d r | none=>none)
  | none=>none)
 | _=>none
/-- A place's part, alive; what is no place's part. -/
def Hp(F:FA)(b:B)(d:Nat)(v:Operand):Bool:=match pT F v with
 | .one (.pp l _ _ _)=>(match aG (pT F v)with | .none=>false | _=>true)&& !(aS d l)&& !(decide (Ew b v 0 0= .D))
 | .one (.al _ _)=>false
 | _=>true
def Ol(F:FA)(b:B)(d:Nat)(v:Operand):Option B:=bif Nat.blt d F.n&&dX b v&&Hp F b d v then some ((b.put F d (fun _ _=>Ew b v 0 0)).nrm F)else none

theorem En{F:FA}{b:B}{x:D}(hA:Ag F b x){v:Operand}(hk:dX b v=true)(h:Hp F b d v=true){l:Loc}{p:List (Nat×Nat)}{i j:Nat}(hv:ev x.sl v= .one (.pp l p i j)):l≠ .none∧aS d l=false∧Ew b v 0 0≠ .D:=by
 cases v with
 | tmp t=>
  have hf:=hA.fits hk (t:=t) (by have hv:x.sl t=_:=hv; rw[hv]; simp)
  have hv:x.sl t=_:=hv
  rw[hv]at hf
  have hs: ∃p' i' ,F.shOf t= .one (.pp l p' i' j):=by
   cases hsh:F.shOf t with
   | tup ws=>rw[hsh]at hf; simp [Own.fits]at hf
   | one y=>
    rw[hsh]at hf
    cases y<;>simp [Own.fits,bZ]at hf
    obtain⟨⟨rfl,_⟩,e⟩:=hf
    subst e
    exact⟨_,_,rfl⟩
  obtain⟨p',i',hs⟩:=hs
  unfold Hp at h
  have hs':pT F (.tmp t)= .one (.pp l p' i' j):=hs
  rw[hs']at h
  simp only[aG,Bool.and_eq_true]at h
  obtain⟨⟨h1,h2⟩,h3⟩:=h
  refine⟨fun e=> ?_,by simpa using h2,by simpa using h3⟩
  subst e
  simp at h1
 | const u=>exact absurd (uY u) (by have hv:bG u=_:=hv; rw[hv]; intro e; have:l= .none:=e; subst this; unfold bG at hv; (repeat' split at hv)<;>cases hv)
 | _=>cases hv

theorem QP(hT:bJ P τ)(hA:Ag F b x){s:TypeId}{v:Operand}{f:Nat}(hd:o.dst=some d)(ho:o.op= .fieldAddr s v f)(h1:uI τ F x d s v f=some x')(h2:Ol F b d v=some b'):OpS P F F.n o b x b' x':=by
 obtain⟨hc,h2⟩:=aJ h2
 simp only[Bool.and_eq_true]at hc
 obtain⟨⟨c1,c2⟩,c3⟩:=hc
 cases h2
 unfold uI at h1
 split at h1<;>try cases h1
 rename_i fs hfs
 split at h1<;>try cases h1
 rename_i q hq
 split at h1<;>try cases h1
 rename_i r hr
 obtain⟨e1,rfl⟩:=bW h1
 obtain⟨off,size,agg⟩:=q
 refine OpS.put0 hA e1 (fun g0 w0=> ?_)
 have h0:=Gx (g0:=g0) (w0:=w0) (st:=b.S F.n x) hT hd (cJ c1) ho hfs hq (r:=r) (by rw[oZ c2]; exact hr) (by
  rw[oZ c2,qF]
  intro hroot
  unfold zX at hr
  split at hr<;>try cases hr
  ·rename_i hv; rw[hv]at hroot; exact absurd rfl hroot
  ·rename_i hv; rw[hv]at hroot; exact absurd rfl hroot
  ·rename_i l p i j hv
   obtain⟨a1,a2,a3⟩:=En hA c2 c3 hv
   rw[hv]; exact⟨a2,a3⟩) (by
  rw[oZ c2]
  intro l p i j hv
  exact(En hA c2 c3 hv).1)
 rw[qF]at h0
 exact h0

def KK(F:FA)(x:D)(d:Nat)(v:Operand):Option D:=match ev x.sl v with
 | .one (.ptr o p)=>pU F x d (.one (.ptr o p))
 | .one (.cp xs)=>pU F x d (.one (.cp xs))
 | .one (.fn f cs)=>pU F x d (.one (.fn f cs))
 | .one (.pp l p i j)=>pU F x d (.one (.pp l p i j))
 | _=>none
def cNil(F:FA)(b:B)(d:Nat)(v:Operand):Option B:=bif Nat.blt d F.n&&dX b v&&Hp F b d v then some ((b.put F d (Ew b v)).nrm F)else none

theorem nil_S(hA:Ag F b x){v:Operand}(hd:o.dst=some d)(ho:o.op= .nilCheck v)(h1:KK F x d v=some x')(h2:cNil F b d v=some b'):OpS P F F.n o b x b' x':=by
 obtain⟨hc,h2⟩:=aJ h2
 simp only[Bool.and_eq_true]at hc
 obtain⟨⟨c1,c2⟩,c3⟩:=hc
 cases h2
 have key:Own.fits (ev x.sl v) (F.shOf d)=true∧x'=x.put d (ev x.sl v)∧match ev x.sl v with | .one (.ptr _ _)=>True | .one (.cp _)=>True | .one (.fn _ _)=>True | .one (.pp l _ _ _)=>l≠ .none∧aS d l=false∧Ew b v 0 0≠ .D | _=>False:=by
  unfold KK at h1
  split at h1<;>try cases h1
  all_goals
   rename_i hv
   obtain⟨e1,rfl⟩:=bW h1
   rw[hv]
   refine⟨e1,rfl, ?_⟩
   first | trivial | exact En hA c2 c3 hv
 obtain⟨e1,rfl,e3⟩:=key
 refine OpS.put0 hA e1 (fun g0 w0=> ?_)
 have h0:=IC (P:=P) (g0:=g0) (w0:=w0) (st:=b.S F.n x) hd (cJ c1) ho (by rw[oZ c2,qF]; exact e3)
 rw[qF,oZ c2]at h0
 exact h0

def BA(F:FA)(x:D)(d:Nat)(f:FuncId)(caps:Array Operand):Option D:=match uM (caps.toList.map (ev x.sl))with
 | some cs=>pU F x d (.one (.fn f cs))
 | none=>none
def Sf(F:FA)(b:B)(d:Nat)(caps:Array Operand):Option B:=bif Nat.blt d F.n&&caps.toList.all (dX b)then some ((b.put F d (fun _ _=> .S)).nrm F)else none

theorem TQ(hA:Ag F b x){f:FuncId}{caps:Array Operand}(hd:o.dst=some d)(ho:o.op= .makeFunc (.func f) #[] caps)(h1:BA F x d f caps=some x')(h2:Sf F b d caps=some b'):OpS P F F.n o b x b' x':=by
 obtain⟨hc,h2⟩:=aJ h2
 simp only[Bool.and_eq_true]at hc
 obtain⟨c1,c2⟩:=hc
 cases h2
 unfold BA at h1
 split at h1<;>try cases h1
 rename_i cs hcs
 obtain⟨e1,rfl⟩:=bW h1
 refine OpS.put0 hA e1 (fun g0 w0=> ?_)
 have hm:caps.toList.map (ev (b.S F.n x).sl)=caps.toList.map (ev x.sl):=List.map_congr_left fun v hv=>oZ (List.all_eq_true.1 c2 v hv)
 exact IH hd (cJ c1) ho (by rw[hm]; exact hcs)

/-! ### what may be read -/
def kn(b:B)(F:FA):Operand→Bool
 | .tmp t=>b.has t&&(match aG (F.shOf t)with | .none=>true | l=>b.hasL l)
 | _=>true

def JK(F:FA)(b:B)(m:Bool):Operand→Bool
 | .tmp t=>match F.shOf t with
  | .one (.al _ _)=> !m&& !(decide (b.kd (.s t 0 0)= .D))
  | .one (.pp _ _ _ _)=>false
  | .one (.c z)=>scal z||(match b.kd (.s t 0 0)with | .D=>false | .F=>true | .S=>true | .N=>true | _=> !m)
  | .one (.cp _)=>(match b.kd (.s t 0 0)with | .D=>false | .F=>true | _=> !m)
  | _=>true
 | _=>true

theorem Km(hA:Ag F b x){n:Nat}{m:Bool}{v:Operand}(hk:dX b v=true)(h:JK F b m v=true):Rdy (b.S n x) m v:=by
 cases v with
 | tmp t=>
  have hsl:(b.S n x).sl t=x.sl t:=qL hk
  have hfl:(b.S n x).fl (.s t 0 0)=b.kd (.s t 0 0):=rfl
  simp only[Rdy]
  rw[hsl,hfl]
  rcases hA.sl t hk with e | e
  ·rw[e]; trivial
  ·simp only[JK]at h
   cases hv:x.sl t with
   | tup ws=>trivial
   | one w=>
    rw[hv]at e
    cases hs:F.shOf t with
    | tup ws=>rw[hs]at e; simp [Own.fits]at e
    | one y=>
     rw[hs]at e h
     cases w with
     | c z=>
      cases y<;>simp [Own.fits,bZ]at e
      rename_i y
      simp only[Bool.or_eq_true]at h
      rcases h with h | h
      ·exact .inl ((wE e).trans h)
      ·right
       cases hq:b.kd (.s t 0 0)<;>rw[hq]at h<;>cases m<;>simp_all
     | cp xs=>
      cases y<;>simp [Own.fits,bZ]at e
      cases hq:b.kd (.s t 0 0)<;>rw[hq]at h<;>cases m<;>simp_all
     | al l p=>
      cases y<;>simp [Own.fits,bZ]at e
      simpa using h
     | pp l p i j=>
      cases y<;>simp [Own.fits,bZ]at e
      cases h
     | _=>trivial
 | _=>trivial

def evD(x:D)(v:Operand):V:=vQ x.sl x.ob (ev x.sl v)

theorem Ec{v:Operand}(h:kn b F v=true):dX b v=true:=by
 cases v with
 | tmp t=>simp only[kn,Bool.and_eq_true]at h; exact h.1
 | _=>rfl

theorem QH(hA:Ag F b x){v:Operand}(h:kn b F v=true)(hr:aG (ev x.sl v)≠ .none):b.hasL (aG (ev x.sl v))=true:=by
 cases v with
 | tmp t=>
  simp only[kn,Bool.and_eq_true]at h
  have e:=LN hA (v:= .tmp t) h.1 hr
  have h2:=h.2
  rw[e]at hr ⊢
  have hr':aG (F.shOf t)≠ .none:=hr
  show b.hasL (aG (F.shOf t))=true
  split at h2
  ·rename_i e; exact absurd e hr'
  ·exact h2
 | const u=>exact absurd (uY u) hr
 | _=>exact absurd rfl hr

theorem Mh(hA:Ag F b x){n:Nat}{v:Operand}(h:kn b F v=true):evR (b.S n x) v=evD x v:=by
 unfold evR evD
 rw[oZ (Ec h)]
 generalize hv:ev x.sl v=y
 cases y with
 | tup ws=>rfl
 | one w=>
  cases w with
  | al l p=>
   have hL:l≠ .none→b.hasL l=true:=fun e=>by have:=QH hA h (by rw[hv]; exact e); rw[hv]at this; exact this
   simp only[vQ]
   have:atL (b.S n x).sl (b.S n x).ob l=atL x.sl x.ob l:=by
    by_cases e:l= .none
    ·subst e; rfl
    ·exact MQ (n:=n) (hL e)
   rw[this]
  | _=>rfl

/-! ### reads -/
def nS(τ:TypeId→Option TI)(F:FA)(x:D)(d:Nat)(op:Op):Option D:=match kM τ (evD x) op with
 | some r=>pU F x d (.one (.c r))
 | none=>none
def Sd(F:FA):Op→Bool
 | .binOp _ _ _ y _=>(match y with | .const _=>true | .tmp t=>(match F.shOf t with | .one (.ifc _)=>false | _=>true) | _=>true)
 | _=>true
def KD(F:FA)(b:B)(d:Nat)(op:Op):Option B:=
 bif Nat.blt d F.n&&op.operands.toList.all (kn b F)&&Sd F op&&op.operands.toList.all (JK F b false)then
  some ((b.put F d (fun _ _=>bif Gl op&&(match F.shOf d with | .one (.c z)=> !(scal z) | _=>true)then(bif op.operands.toList.all (JK F b true)then .F else .V)else .S)).nrm F)else none
end
end Go.Own

/- The single steps: reads, elements' pointers, loads. -/
namespace Go.Own
open Go.RowKit

theorem FF{ρ ρ':Operand→V}{len:Nat}{lo hi mx:Option Operand}(h1: ∀x,lo=some x→ρ x=ρ' x)(h2: ∀x,hi=some x→ρ x=ρ' x)(h3: ∀x,mx=some x→ρ x=ρ' x):qI ρ len lo hi mx=qI ρ' len lo hi mx:=by
 cases lo<;>cases hi<;>cases mx<;>simp only[qI]<;>first | rfl | (try rw[h1 _ rfl])<;>(try rw[h2 _ rfl])<;>(try rw[h3 _ rfl])

theorem Ba{τ:TypeId→Option TI}{ρ ρ':Operand→V}(o:Op)(h: ∀x∈o.operands,ρ x=ρ' x):kM τ ρ o=kM τ ρ' o:=by
 cases o with
 | binOp op t x y u=>simp only[Op.operands]at h; simp only[kM,h x (by simp),h y (by simp)]
 | unOp op t x=>simp only[Op.operands]at h; simp only[kM,h x (by simp)]
 | convert s d x=>simp only[Op.operands]at h; simp only[kM,h x (by simp)]
 | index t x i=>simp only[Op.operands]at h; simp only[kM,h x (by simp),h i (by simp)]
 | slice t x lo hi mx=>
  simp only[Op.operands]at h
  have e: ∀n m',(m'=none∨m'=mx)→qI ρ n lo hi m'=qI ρ' n lo hi m':=fun n m' hm=>FF (fun y hy=>h y (by subst hy; simp)) (fun y hy=>h y (by subst hy; simp)) (fun y hy=>h y (by
   rcases hm with rfl | rfl
   ·cases hy
   ·subst hy; simp))
  simp only[kM,h x (by simp),e _ _ (.inl rfl),e _ _ (.inr rfl)]
 | call c=>
  simp only[Op.operands,Call.operands]at h
  have e: ∀x∈c.args.toList,ρ x=ρ' x:=fun x hx=>h x (by simp; exact .inr (by simpa using hx))
  simp only[kM]
  split
  ·rename_i x t h1 h2 h3
   rw[e x (by rw[h2]; simp)]
  ·rename_i l x y h1 h2
   rw[e x (by rw[h2]; simp),e y (by rw[h2]; simp)]
  ·rename_i l x y h1 h2
   rw[e x (by rw[h2]; simp),e y (by rw[h2]; simp)]
  ·rfl
 | _=>rfl

section
variable {P:Program} {τ:TypeId→Option TI} {F:FA} {o:Oper} {b b':B} {x x':D} {d:Nat}

theorem Ly{r z:T}(h:Own.fits (.one (.c r)) (.one (.c z))=true):scal r=scal z:=wE h

theorem OW(hT:bJ P τ)(hA:Ag F b x)(hd:o.dst=some d)(h1:nS τ F x d o.op=some x')(h2:KD F b d o.op=some b'):OpS P F F.n o b x b' x':=by
 unfold KD at h2
 obtain⟨hc,h2⟩:=aJ h2
 simp only[Bool.and_eq_true]at hc
 obtain⟨⟨⟨c1,c2⟩,c3⟩,c4⟩:=hc
 unfold nS at h1
 split at h1<;>try cases h1
 rename_i r hr
 obtain⟨e1,rfl⟩:=bW h1
 have hk: ∀v∈o.op.operands,kn b F v=true:=fun v hv=>List.all_eq_true.1 c2 v (by simpa using hv)
 have hev: ∀v∈o.op.operands,evR (b.S F.n x) v=evD x v:=fun v hv=>Mh hA (hk v hv)
 have hc2: ∀op t v y u,o.op= .binOp op t v y u→evR (b.S F.n x) y= .one (.ifc true)→ ∃c,y= .const c:=by
  intro op t v y u ho hy
  rw[ho]at c3
  rw[hev y (by rw[ho]; simp [Op.operands])]at hy
  cases y with
  | const c=>exact⟨c,rfl⟩
  | tmp t=>
   exfalso
   have hkn:=hk (.tmp t) (by rw[ho]; simp [Op.operands])
   have hx:x.sl t= .one (.ifc true):=by
    have hy:vQ x.sl x.ob (x.sl t)= .one (.ifc true):=hy
    unfold vQ at hy
    split at hy
    ·split at hy<;>cases hy
    ·exact hy
   have hf:=hA.fits (Ec hkn) (t:=t) (by rw[hx]; simp)
   rw[hx]at hf
   simp only[Sd]at c3
   cases hs:F.shOf t with
   | tup ws=>rw[hs]at hf; simp [Own.fits]at hf
   | one z=>
    rw[hs]at hf c3
    cases z<;>simp [Own.fits,bZ]at hf
    cases c3
  | func f=>cases hy
  | global i=>cases hy
 have main: ∀m:Bool,(∀v∈o.op.operands.toList,JK F b m v=true)→ ∀g0 w0,nY P g0 w0 o (b.S F.n x) ((b.S F.n x).put d (.one (.c r)) (fun _ _=>if Gl o.op&& !scal r then(if m then .F else .V)else .S)):=fun m hm g0 w0=>
  Pp hT hd (cJ c1) (fun v hv=>Km hA (Ec (hk v hv)) (hm v (by simpa using hv))) hc2 (by rw[Ba o.op hev]; exact hr)
 have hsub: ∀z,F.shOf d= .one (.c z)→scal r=scal z:=fun z hz=>by rw[hz]at e1; exact Ly e1
 have hshape: ∃z,F.shOf d= .one (.c z):=by
  cases hs:F.shOf d with
  | tup ws=>rw[hs]at e1; simp [Own.fits]at e1
  | one z=>
   rw[hs]at e1
   cases z<;>simp [Own.fits,bZ]at e1
   exact⟨_,rfl⟩
 obtain⟨z,hz⟩:=hshape
 have hrz:=hsub z hz
 rw[hz]at h2
 simp only at h2
 rw[←hrz]at h2
 cases hm:o.op.operands.toList.all (JK F b true)with
 | true=>
  rw[hm]at h2
  cases h2
  refine OpS.put0 hA e1 (fun g0 w0=> ?_)
  have:=main true (List.all_eq_true.1 hm) g0 w0
  cases hb:(Gl o.op&& !scal r)with
  | true=>rw[hb]at this; exact this
  | false=>rw[hb]at this; exact this
 | false=>
  rw[hm]at h2
  cases h2
  refine OpS.put0 hA e1 (fun g0 w0=> ?_)
  have:=main false (List.all_eq_true.1 c4) g0 w0
  cases hb:(Gl o.op&& !scal r)with
  | true=>rw[hb]at this; exact this
  | false=>rw[hb]at this; exact this

/-! ### elements' pointers -/
def idx(τ:TypeId→Option TI)(e:TypeId)(es:List (List T))(n:Int):Option (List T):=match τ e with
 | some ei=>if 0≤n then(match es[n.toNat]? with | some row=>bif Nat.beq row.length ei.size then some row else none | none=>none)else none
 | none=>none

theorem JB{e:TypeId}{es:List (List T)}{n:Int}{row:List T}(h:idx τ e es n=some row): ∃ei,τ e=some ei∧0≤n∧es[n.toNat]? =some row∧row.length=ei.size:=by
 unfold idx at h
 split at h<;>try cases h
 rename_i ei he
 split at h<;>try cases h
 rename_i hn
 split at h<;>try cases h
 rename_i row' hr
 obtain⟨hs,h⟩:=aJ h
 cases h
 exact⟨ei,he,hn,hr,Nat.eq_of_beq_eq_true hs⟩

def oW(τ:TypeId→Option TI)(F:FA)(x:D)(d:Nat)(t:TypeId)(v i:Operand):Option D:=
 match tk τ t,ev x.sl i with
 | some (.sl e), .one (.c (.int _ n))=>(match ev x.sl v with
  | .one (.al l p)=>(match(x.at l).bind (nav · p)with
   | some (.sl es)=>(match idx τ e es n with | some _=>pU F x d (.one (.pp l p n.toNat 0)) | none=>none)
   | _=>none)
  | .one (.c (.sl es))=>(match idx τ e es n with | some row=>pU F x d (.one (.cp row)) | none=>none)
  | _=>none)
 | some (.arr len e), .one (.c (.int _ n))=>(match ev x.sl v,τ e with
  | .one (.ptr ob p),some ei=>if 0≤n∧n<len then pU F x d (.one (.ptr ob (p+n.toNat*ei.size)))else none
  | _,_=>none)
 | _,_=>none

/-- An alias that is alive. -/
def Cz(F:FA)(b:B)(d:Nat):Operand→Bool
 | .tmp t=>match F.shOf t with
  | .one (.al l _)=>(match l with | .none=>false | _=>true)&& !(aS d l)&& !(decide (b.kd (.s t 0 0)= .D))&&b.hasL l
  | .one (.pp l _ _ _)=>(match l with | .none=>false | _=>true)&& !(aS d l)&& !(decide (b.kd (.s t 0 0)= .D))&&b.hasL l
  | _=>true
 | _=>true

theorem wF(hA:Ag F b x){t:Nat}(hk:b.has t=true)(h:Cz F b d (.tmp t)=true){l:Loc}(hv:(∃p,x.sl t= .one (.al l p))∨ ∃p i j,x.sl t= .one (.pp l p i j)):l≠ .none∧aS d l=false∧b.kd (.s t 0 0)≠ .D∧b.hasL l=true:=by
 have hf:=hA.fits hk (t:=t) (by rcases hv with⟨p,hv⟩ | ⟨p,i,j,hv⟩<;>(rw[hv]; simp))
 simp only[Cz]at h
 have fin: ∀l':Loc,((match l' with | .none=>false | _=>true)&& !(aS d l')&& !(decide (b.kd (.s t 0 0)= .D))&&b.hasL l')=true→l=l'→l≠ .none∧aS d l=false∧b.kd (.s t 0 0)≠ .D∧b.hasL l=true:=by
  rintro l' h rfl
  simp only[Bool.and_eq_true]at h
  obtain⟨⟨⟨h1,h2⟩,h3⟩,h4⟩:=h
  exact⟨fun e=>(by subst e; cases h1),by simpa using h2,by simpa using h3,h4⟩
 cases hs:F.shOf t with
 | tup ws=>rcases hv with⟨p,hv⟩ | ⟨p,i,j,hv⟩<;>(rw[hv,hs]at hf; simp [Own.fits]at hf)
 | one y=>
  rw[hs]at hf h
  rcases hv with⟨p,hv⟩ | ⟨p,i,j,hv⟩
  ·rw[hv]at hf
   cases y<;>simp [Own.fits,bZ]at hf
   exact fin _ h hf.1
  ·rw[hv]at hf
   cases y<;>simp [Own.fits,bZ]at hf
   exact fin _ h hf.1.1

def KY(F:FA)(b:B)(d:Nat)(v i:Operand):Option B:=
 bif Nat.blt d F.n&&dX b v&&dX b i then
  match pT F v with
  | .one (.al _ _)=>bif Cz F b d v then some ((b.put F d (fun _ _=> .F)).nrm F)else none
  | .one (.c _)=>bif kn b F v&&JK F b false v then some ((b.put F d (fun _ _=>bif JK F b true v then .F else .V)).nrm F)else none
  | .one (.ptr _ _)=>some ((b.put F d (fun _ _=> .S)).nrm F)
  | _=>none
 else none

theorem Cc(hA:Ag F b x){v:Operand}(hk:dX b v=true){y:W}(hv:ev x.sl v= .one y)(hj:y≠ .junk):Own.fits (.one y) (pT F v)=true∨(∀t,v≠ .tmp t)∧pT F v= .one y:=by
 cases v with
 | tmp t=>
  have hv':x.sl t=_:=hv
  left
  rw[←hv]
  exact hA.fits hk (by rw[hv']; simpa using hj)
 | _=>exact .inr ⟨fun _ e=>(by cases e),hv⟩

theorem evD_c{v:Operand}{z:T}(h:ev x.sl v= .one (.c z)):evD x v= .one (.c z):=by unfold evD; rw[h]; rfl

theorem QJ(hT:bJ P τ)(hA:Ag F b x){t:TypeId}{v i:Operand}(hd:o.dst=some d)(ho:o.op= .indexAddr t v i)(h1:oW τ F x d t v i=some x')(h2:KY F b d v i=some b'):OpS P F F.n o b x b' x':=by
 unfold KY at h2
 obtain⟨hc,h2⟩:=aJ h2
 simp only[Bool.and_eq_true]at hc
 obtain⟨⟨c1,c2⟩,c3⟩:=hc
 unfold oW at h1
 split at h1
 ·rename_i e k n hte hi
  split at h1
  ·-- a place's slice
   rename_i l p hv
   split at h1<;>try cases h1
   rename_i es hnav
   split at h1<;>try cases h1
   rename_i row hrow
   obtain⟨e1,rfl⟩:=bW h1
   obtain⟨ei,q1,q2,q3,q4⟩:=JB hrow
   cases v with
   | tmp tv=>
    rcases Cc hA c2 hv (by simp)with hf | ⟨hn,_⟩
    ·have hs: ∃p',pT F (.tmp tv)= .one (.al l p'):=by
      cases hs:pT F (.tmp tv)with
      | tup ws=>rw[hs]at hf; simp [Own.fits]at hf
      | one y=>
       rw[hs]at hf
       cases y<;>simp [Own.fits,bZ]at hf
       obtain⟨rfl,_⟩:=hf
       exact⟨_,rfl⟩
     obtain⟨p',hs⟩:=hs
     rw[hs]at h2
     obtain⟨c4,h2⟩:=aJ h2
     cases h2
     obtain⟨a1,a2,a3,a4⟩:=wF hA c2 c4 (.inl ⟨p,hv⟩)
     simp only[Option.bind_eq_some_iff]at hnav
     obtain⟨x0,hx0,hnav⟩:=hnav
     refine OpS.put0 hA e1 (fun g0 w0=> ?_)
     exact Ez hT hd (cJ c1) ho hte q1 (by rw[qL c2]; exact hv) a1 a3 a2 (by rw[MQ a4]; exact hx0) hnav (by rw[oZ c3]; exact hi) q2 q3 q4
    ·exact absurd rfl (hn tv)
   | const u=>exact absurd (uY u) (by have hv:bG u=_:=hv; unfold bG at hv; (repeat' split at hv)<;>cases hv)
   | _=>cases hv
  ·-- a slice that is read
   rename_i es hv
   split at h1<;>try cases h1
   rename_i row hrow
   obtain⟨e1,rfl⟩:=bW h1
   obtain⟨ei,q1,q2,q3,q4⟩:=JB hrow
   have hs: ∃z,pT F v= .one (.c z):=by
    rcases Cc hA c2 hv (by simp)with hf | ⟨_,hs⟩
    ·cases hs:pT F v with
     | tup ws=>rw[hs]at hf; simp [Own.fits]at hf
     | one y=>
      rw[hs]at hf
      cases y<;>simp [Own.fits,bZ]at hf
      exact⟨_,rfl⟩
    ·exact⟨_,hs⟩
   obtain⟨z,hs⟩:=hs
   rw[hs]at h2
   obtain⟨c4,h2⟩:=aJ h2
   simp only[Bool.and_eq_true]at c4
   cases h2
   have main: ∀m:Bool,JK F b m v=true→ ∀g0 w0,nY P g0 w0 o (b.S F.n x) ((b.S F.n x).put d (.one (.cp row)) (fun _ _=>if m then .F else .V)):=fun m hm g0 w0=>
    Gv hT hd (cJ c1) ho hte q1 (by rw[Mh hA c4.1]; exact evD_c hv) (Km hA c2 hm) (by rw[oZ c3]; exact hi) q2 q3 q4
   refine OpS.put0 hA e1 (fun g0 w0=> ?_)
   cases hm:JK F b true v with
   | true=>exact main true hm g0 w0
   | false=>exact main false c4.2 g0 w0
  ·cases h1
 ·-- an object's array
  rename_i len e k n hte hi
  split at h1<;>try cases h1
  rename_i ob p ei hv he
  split at h1<;>try cases h1
  rename_i hn
  obtain⟨e1,rfl⟩:=bW h1
  have hs: ∃ob' p',pT F v= .one (.ptr ob' p'):=by
   rcases Cc hA c2 hv (by simp)with hf | ⟨_,hs⟩
   ·cases hs:pT F v with
    | tup ws=>rw[hs]at hf; simp [Own.fits]at hf
    | one y=>
     rw[hs]at hf
     cases y<;>simp [Own.fits,bZ]at hf
     exact⟨_,_,rfl⟩
   ·exact⟨_,_,hs⟩
  obtain⟨ob',p',hs⟩:=hs
  rw[hs]at h2
  cases h2
  refine OpS.put0 hA e1 (fun g0 w0=> ?_)
  exact IM hT hd (cJ c1) ho hte he (by rw[oZ c2]; exact hv) (by rw[oZ c3]; exact hi) hn.1 hn.2
 ·cases h1
end
end Go.Own

/- The single steps: loads, objects. -/
namespace Go.Own
open Go.RowKit

section
variable {P:Program} {τ:TypeId→Option TI} {F:FA} {o:Oper} {b b':B} {x x':D} {d:Nat}

theorem yE{i:TI}{xs:List T}{r:V}(h:oG i xs=some r){k j:Nat}{y:T}(hy:r.leaf k j=some y):k=0∧xs[j]? =some y:=by
 unfold oG at h
 split at h<;>try cases h
 split at h
 ·simp only[Option.some.injEq]at h
  subst h
  cases k with
  | succ k=>simp [V.leaf]at hy
  | zero=>
   refine⟨rfl, ?_⟩
   simp only[V.leaf,W.leaf,List.getElem?_take]at hy
   split at hy<;>simp_all
 ·split at h<;>cases h
  cases k with
  | succ k=>simp [V.leaf]at hy
  | zero=>
   cases j with
   | zero=>exact⟨rfl,by simpa [V.leaf,W.leaf]using hy⟩
   | succ j=>simp [V.leaf,W.leaf]at hy

def Cg(τ:TypeId→Option TI)(t:TypeId):Bool:=match tk τ t with | some (.sl _)=>true | _=>false
theorem Iy{t:TypeId}(h:Cg τ t=true): ∃e,tk τ t=some (.sl e):=by
 unfold Cg at h
 split at h
 ·rename_i e he; exact⟨e,he⟩
 ·cases h
def slT:Option T→Bool
 | some (.sl _)=>true
 | _=>false
theorem OQ{y:Option T}(h:slT y=true): ∃es,y=some (.sl es):=by
 unfold slT at h
 split at h
 ·exact⟨_,rfl⟩
 ·cases h

def oT(τ:TypeId→Option TI)(F:FA)(x:D)(d:Nat)(t:TypeId)(v:Operand)(al:Bool):Option D:=
 match τ t,ev x.sl v with
 | some i, .one (.ptr ob p)=>(match x.ob ob with
  | some cells=>bif al then(bif Cg τ t&&slT (cells[p]?)then pU F x d (.one (.al (.oc ob p) []))else none)
   else(match oG i (cells.drop p)with | some r=>pU F x d r | none=>none)
  | none=>none)
 | some i, .one (.cp xs)=>(match oG i xs with | some r=>pU F x d r | none=>none)
 | some i, .one (.pp l p n j)=>(match(x.at l).bind (nav · p)with
  | some (.sl es)=>(match es[n]? with
   | some row=>bif al then(bif Cg τ t&&slT (row[j]?)then pU F x d (.one (.al l (p++[(n,j)])))else none)
    else(match oG i (row.drop j)with | some r=>pU F x d r | none=>none)
   | none=>none)
  | _=>none)
 | _,_=>none

def MY(F:FA)(b:B)(d ob p:Nat)(take:Bool):List Nat:=bif take then(((mF (F.shOf d)).map (·.2)).filter fun j=>(b.kd (.oc ob (p+j))).hold)else []

def PW(τ:TypeId→Option TI)(F:FA)(b:B)(d:Nat)(t:TypeId)(v:Operand)(al take:Bool):Option B:=
 bif Nat.blt d F.n&&dX b v then
  match τ t,pT F v with
  | some i, .one (.ptr ob p)=>
   bif al then(bif b.hasO ob&&(b.kd (.oc ob p)).hold then some ((b.put F d (fun _ _=> .F)).nrm F)else none)
   else(bif b.hasO ob then some (((b.put F d (fun _ j=>if oA i.zero j then .S else(b.kd (.oc ob (p+j))).cp)).mvs F ((MY F b d ob p take).map fun j=>(.oc ob (p+j), .s d 0 j))).nrm F)else none)
  | some i, .one (.cp _)=>bif !(decide (Ew b v 0 0= .D))then some ((b.put F d (fun _ j=>if oA i.zero j then .S else Ew b v 0 0)).nrm F)else none
  | some i, .one (.pp _ _ _ _)=>bif Cz F b d v then(bif al then some ((b.put F d (fun _ _=> .F)).nrm F)else some ((b.put F d (fun _ j=>if oA i.zero j then .S else .V)).nrm F))else none
  | _,_=>none
 else none

theorem KP(hA:Ag F b x){v:Operand}(hk:dX b v=true){ob p:Nat}(hv:ev x.sl v= .one (.ptr ob p)):pT F v= .one (.ptr ob p):=by
 rcases Cc hA hk hv (by simp)with hf | ⟨_,hs⟩
 ·cases hs:pT F v with
  | tup ws=>rw[hs]at hf; simp [Own.fits]at hf
  | one y=>
   rw[hs]at hf
   cases y<;>simp [Own.fits,bZ]at hf
   obtain⟨rfl,rfl⟩:=hf
   rfl
 ·exact hs

theorem sh_cp(hA:Ag F b x){v:Operand}(hk:dX b v=true){xs:List T}(hv:ev x.sl v= .one (.cp xs)): ∃ys,pT F v= .one (.cp ys):=by
 rcases Cc hA hk hv (by simp)with hf | ⟨_,hs⟩
 ·cases hs:pT F v with
  | tup ws=>rw[hs]at hf; simp [Own.fits]at hf
  | one y=>
   rw[hs]at hf
   cases y<;>simp [Own.fits,bZ]at hf
   exact⟨_,rfl⟩
 ·exact⟨_,hs⟩

theorem Qq(hA:Ag F b x){v:Operand}(hk:dX b v=true){l:Loc}{p:List (Nat×Nat)}{i j:Nat}(hv:ev x.sl v= .one (.pp l p i j)): ∃t p' i',v= .tmp t∧pT F v= .one (.pp l p' i' j):=by
 cases v with
 | tmp t=>
  rcases Cc hA hk hv (by simp)with hf | ⟨hn,hs⟩
  ·cases hs:pT F (.tmp t)with
   | tup ws=>rw[hs]at hf; simp [Own.fits]at hf
   | one y=>
    rw[hs]at hf
    cases y<;>simp [Own.fits,bZ]at hf
    obtain⟨⟨rfl,_⟩,rfl⟩:=hf
    exact⟨t,_,_,rfl,rfl⟩
  ·exact absurd rfl (hn t)
 | const u=>have hv:bG u=_:=hv; unfold bG at hv; (repeat' split at hv)<;>cases hv
 | _=>cases hv

theorem TL(hT:bJ P τ)(hA:Ag F b x){t:TypeId}{v:Operand}{al take:Bool}(hd:o.dst=some d)(ho:o.op= .load t v)(h1:oT τ F x d t v al=some x')(h2:PW τ F b d t v al take=some b'):OpS P F F.n o b x b' x':=by
 unfold PW at h2
 obtain⟨hc,h2⟩:=aJ h2
 simp only[Bool.and_eq_true]at hc
 obtain⟨c1,c2⟩:=hc
 unfold oT at h1
 split at h1
 ·-- an object's cells
  rename_i i ob p hi hv
  split at h1<;>try cases h1
  rename_i cells hcells
  rw[hi,KP hA c2 hv]at h2
  simp only at h2
  cases al with
  | true=>
   simp only[cond_true]at h1 h2
   obtain⟨hs,h1⟩:=aJ h1
   obtain⟨hk,h2⟩:=aJ h2
   simp only[Bool.and_eq_true]at hs hk
   obtain⟨e1,rfl⟩:=bW h1
   cases h2
   obtain⟨e,he⟩:=Iy hs.1
   obtain⟨es,hes⟩:=OQ hs.2
   exact OpS.put0 hA e1 (fun g0 w0=>Gs hT hd (cJ c1) ho hi he (by rw[oZ c2]; exact hv) (by rw[JS hk.1]; exact hcells) hes hk.2)
  | false=>
   simp only[cond_false]at h1 h2
   split at h1<;>try cases h1
   rename_i r hr
   obtain⟨e1,rfl⟩:=bW h1
   obtain⟨hk,h2⟩:=aJ h2
   cases h2
   have hl: ∀j∈MY F b d ob p take, ∃y,r.leaf 0 j=some y:=fun j hj=>by
    unfold MY at hj
    cases take with
    | false=>simp at hj
    | true=>
     simp only[cond_true]at hj
     have hj:=(List.mem_filter.1 hj).1
     obtain⟨⟨k,j'⟩,hm,rfl⟩:=List.mem_map.1 hj
     obtain⟨y,hy⟩:=qU e1 hm
     obtain⟨rfl,_⟩:=yE hr hy
     exact⟨y,hy⟩
   refine OpS.put hA e1 (fun g0 w0=> ?_) (fun m hm=> ?_)
   ·exact QD (st:=b.S F.n x) hT (MY F b d ob p take) hd (cJ c1) ho hi (by rw[oZ c2]; exact hv) (by rw[JS hk]; exact hcells) hr hl
   ·obtain⟨j,hj,rfl⟩:=List.mem_map.1 hm
    obtain⟨y,hy⟩:=hl j hj
    obtain⟨_,hy2⟩:=yE hr hy
    exact⟨⟨hk,rfl,y,by simp only[D.at,atL,hcells,Option.bind_some]; rw[List.getElem?_drop]at hy2; exact hy2⟩,0,j,rfl,y,hy⟩
 ·-- cells that are read
  rename_i i xs hi hv
  split at h1<;>try cases h1
  rename_i r hr
  obtain⟨e1,rfl⟩:=bW h1
  obtain⟨ys,hs⟩:=sh_cp hA c2 hv
  rw[hi,hs]at h2
  obtain⟨hk,h2⟩:=aJ h2
  cases h2
  refine OpS.put0 hA e1 (fun g0 w0=> ?_)
  have:=II (g0:=g0) (w0:=w0) (st:=b.S F.n x) hT hd (cJ c1) ho hi (by rw[oZ c2]; exact hv) (by rw[qF]; simpa using hk) hr
  rw[qF]at this
  exact this
 ·-- a place's cells
  rename_i i l p n j hi hv
  split at h1<;>try cases h1
  rename_i es hnav
  split at h1<;>try cases h1
  rename_i row hrow
  obtain⟨tv,p',i',rfl,hs⟩:=Qq hA c2 hv
  rw[hi,hs]at h2
  obtain⟨ha,h2⟩:=aJ h2
  obtain⟨a1,a2,a3,a4⟩:=wF hA c2 ha (.inr ⟨p,n,j,hv⟩)
  simp only[Option.bind_eq_some_iff]at hnav
  obtain⟨x0,hx0,hnav⟩:=hnav
  cases al with
  | true=>
   simp only[cond_true]at h1 h2
   obtain⟨hs,h1⟩:=aJ h1
   simp only[Bool.and_eq_true]at hs
   obtain⟨e1,rfl⟩:=bW h1
   cases h2
   obtain⟨e,he⟩:=Iy hs.1
   obtain⟨es',hes⟩:=OQ hs.2
   exact OpS.put0 hA e1 (fun g0 w0=>yT hT hd (cJ c1) ho hi he (by rw[qL c2]; exact hv) a1 a3 a2 (by rw[MQ a4]; exact hx0) hnav hrow hes)
  | false=>
   simp only[cond_false]at h1 h2
   split at h1<;>try cases h1
   rename_i r hr
   obtain⟨e1,rfl⟩:=bW h1
   cases h2
   exact OpS.put0 hA e1 (fun g0 w0=>Gr hT hd (cJ c1) ho hi (by rw[qL c2]; exact hv) a1 a3 (by rw[MQ a4]; exact hx0) hnav hrow hr)
 ·cases h1

/-! ### objects -/
def MZ(d:Nat):V→Bool
 | .one (.ptr o p)=>Nat.beq o d&&Nat.beq p 0
 | _=>false
theorem Iz{d:Nat}{v:V}(h:MZ d v=true):v= .one (.ptr d 0):=by
 unfold MZ at h
 split at h
 ·simp only[Bool.and_eq_true]at h
  rw[Nat.eq_of_beq_eq_true h.1,Nat.eq_of_beq_eq_true h.2]
 ·cases h

def zY(τ:TypeId→Option TI)(F:FA)(x:D)(d:Nat)(t:TypeId):Option D:=match τ t with
 | some i=>bif eU i.zero (F.obOf d)then some ((x.put d (.one (.ptr d 0))).setO d i.zero)else none
 | none=>none
def Ka(τ:TypeId→Option TI)(F:FA)(b:B)(d:Nat)(t:TypeId):Option B:=match τ t with
 | some i=>bif Nat.blt d F.n&&MZ d (F.shOf d)then some ((b.alloc F d (Ax i.zero)).nrm F)else none
 | none=>none

theorem Qe(hT:bJ P τ)(hA:Ag F b x){t:TypeId}(hd:o.dst=some d)(ho:o.op= .alloc t)(h1:zY τ F x d t=some x')(h2:Ka τ F b d t=some b'):OpS P F F.n o b x b' x':=by
 unfold Ka at h2
 unfold zY at h1
 split at h2<;>try cases h2
 rename_i i hi
 rw[hi]at h1
 obtain⟨hc,h2⟩:=aJ h2
 simp only[Bool.and_eq_true]at hc
 obtain⟨e1,h1⟩:=aJ h1
 cases h1; cases h2
 have hs:=Iz hc.2
 exact OpS.fin (hA.alloc hs e1) (fun g0 w0=>OH hT hd (cJ hc.1) ho hi) (Gg hA (Low.self _ _ _) e1 (fun _=>cZ _))

def Mr(F:FA)(x:D)(d:Nat)(v:Operand):Option D:=match v with
 | .tmp t=>(match aV (x.sl t)with
  | some xs=>bif eU xs (F.obOf d)then some ((x.put d (.one (.ptr d 0))).setO d xs)else none
  | none=>none)
 | _=>none
def boxM(F:FA)(b:B)(d t:Nat):List Nat:=(range' 0 (F.obOf d).length).filter fun j=>(b.kd (.s t 0 j)).hold
def cBox(F:FA)(b:B)(d:Nat)(v:Operand):Option B:=match v with
 | .tmp t=>bif Nat.blt d F.n&&MZ d (F.shOf d)&&b.has t&&sO F d t then
   some (((b.alloc F d (fun j=>(b.kd (.s t 0 j)).cp)).mvs F ((boxM F b d t).map fun j=>(.s t 0 j, .oc d j))).nrm F)else none
 | _=>none

theorem box_S(hA:Ag F b x){ty:TypeId}{v:Operand}(hd:o.dst=some d)(ho:o.op= .box ty v)(h1:Mr F x d v=some x')(h2:cBox F b d v=some b'):OpS P F F.n o b x b' x':=by
 cases v with
 | tmp t=>
  simp only[cBox]at h2
  obtain⟨hc,h2⟩:=aJ h2
  simp only[Bool.and_eq_true]at hc
  obtain⟨⟨⟨c1,c2⟩,c3⟩,c4⟩:=hc
  cases h2
  simp only[Mr]at h1
  split at h1<;>try cases h1
  rename_i xs hxs
  obtain⟨e1,h1⟩:=aJ h1
  cases h1
  have hs:=Iz c2
  have hne:t≠d:=fun e=>by subst e; simp [sO,Nat.beq_refl]at c4
  have hM: ∀j∈boxM F b d t,j<xs.length:=fun j hj=>by
   have:=(nW.1 (List.mem_filter.1 hj).1).2
   rw[wD e1]; omega
  refine OpS.fin ((hA.alloc hs e1).mvs _) (fun g0 w0=>VE (boxM F b d t) hd (cJ c1) ho (by rw[qL c3]; exact hxs) hne hM) (HV (hA.alloc hs e1) (Gg hA (Low.self _ _ _) e1 (fun _=>cZ _)) (fun m hm=> ?_))
  obtain⟨j,hj,rfl⟩:=List.mem_map.1 hm
  have hlt:=hM j hj
  refine⟨⟨?_,xs[j], ?_⟩, ?_,xs[j], ?_⟩
  ·show(b.alloc F d _).has t=true
   rw[BX,cL hne,c4,c3]; rfl
  ·simp only[D.at,atL,D.setO,D.put,if_neg hne]
   rw[yJ hxs j,List.getElem?_eq_getElem hlt]
  ·show(b.alloc F d _).hasO d=true
   rw[yL,Nat.beq_refl]; rfl
  ·simp only[D.at,atL,D.setO,if_true,Option.bind_some]
   exact List.getElem?_eq_getElem hlt
 | _=>cases h2

def rV(F:FA)(x:D)(i:TI)(ob p:Nat)(xs:List T):Option D:=match x.ob ob with
 | some cells=>bif Nat.beq xs.length i.size&&Nat.ble (p+xs.length) cells.length&&eU (cells.take p++xs++cells.drop (p+xs.length)) (F.obOf ob)then some (x.setO ob (cells.take p++xs++cells.drop (p+xs.length)))else none
 | none=>none
def Fd(F:FA)(b:B):Operand→List (Nat×Nat)
 | .tmp t=>((mF (F.shOf t)).filter fun m=>Nat.beq m.1 0&&(b.kd (.s t 0 m.2)).hold).map fun m=>(t,m.2)
 | _=> []
def Au(F:FA)(b:B)(i:TI)(ob p:Nat)(v y:Operand):Option B:=
 bif dX b v&&dX b y&&b.hasO ob then
  some (((b.write F ob p i.size (Ew b y 0)).mvs F ((Fd F b y).map fun m=>(.s m.1 0 m.2, .oc ob (p+m.2)))).nrm F)else none

theorem Pe(hT:bJ P τ)(hA:Ag F b x){t:TypeId}{v y:Operand}{i:TI}{ob p:Nat}{xs:List T}(hd:o.dst=none)(ho:o.op= .store t v y)(hi:τ t=some i)(hv:ev x.sl v= .one (.ptr ob p))(hy:aV (ev x.sl y)=some xs)
  (h1:rV F x i ob p xs=some x')(h2:Au F b i ob p v y=some b'):OpS P F F.n o b x b' x':=by
 unfold Au at h2
 obtain⟨hc,h2⟩:=aJ h2
 simp only[Bool.and_eq_true]at hc
 obtain⟨⟨c1,c2⟩,c3⟩:=hc
 cases h2
 unfold rV at h1
 split at h1<;>try cases h1
 rename_i cells hcells
 obtain⟨hq,h1⟩:=aJ h1
 simp only[Bool.and_eq_true]at hq
 obtain⟨⟨q1,q2⟩,q3⟩:=hq
 cases h1
 have hsz:=Nat.eq_of_beq_eq_true q1
 have hle:=Nat.le_of_ble_eq_true q2
 have hM: ∀m∈Fd F b y,m.2<xs.length∧y= .tmp m.1∧ ∃t,(x.sl m.1).leaf 0 m.2=some t:=fun m hm=>by
  cases y with
  | tmp t'=>
   simp only[Fd,List.mem_map]at hm
   obtain⟨⟨k,j⟩,hm,rfl⟩:=hm
   have hm:=List.mem_filter.1 hm
   simp only[Bool.and_eq_true]at hm
   have hk0:=Nat.eq_of_beq_eq_true hm.2.1
   subst hk0
   have hj:x.sl t'≠ .tup []:=fun e=>by have hy:aV (x.sl t')=some xs:=hy; rw[e]at hy; simp [aV]at hy
   obtain⟨u,hu⟩:=qU (hA.fits c2 hj) hm.1
   refine⟨?_,rfl,u,hu⟩
   have hu':(ev x.sl (.tmp t')).leaf 0 j=some u:=hu
   rw[yJ hy]at hu'
   exact cD hu'
  | _=>simp [Fd]at hm
 have h3:=La hA (Low.self F.n b x) (p:=p) (xs:=xs) (κ:=Ew b y 0) hcells hle
 have hAw:=hA.write (o:=ob) (p:=p) (m:=xs.length) (κ:=Ew b y 0) q3
 rw[←hsz]
 refine OpS.fin (hAw.mvs _) (fun g0 w0=> ?_) (HV hAw h3 (fun m hm=> ?_))
 ·have:=NG (P:=P) (g0:=g0) (w0:=w0) (st:=b.S F.n x) hT (Fd F b y) hd ho hi (by rw[oZ c1]; exact hv) (by rw[JS c3]; exact hcells) (by rw[oZ c2]; exact hy) hsz hle (fun m hm=>by
   obtain⟨a1,a2,_⟩:=hM m hm
   exact⟨a1,a2⟩)
  rw[qF]at this
  exact this
 ·obtain⟨m',hm',rfl⟩:=List.mem_map.1 hm
  obtain⟨a1,rfl,u,a3⟩:=hM m' hm'
  refine⟨⟨?_,u,a3⟩, ?_, ?_⟩
  ·show(b.write F ob p xs.length _).has m'.1=true
   rw[vR,hA.leaf_root c2 a3]
   exact(Bool.and_eq_true _ _).mpr ⟨rfl,c2⟩
  ·show(b.write F ob p xs.length _).hasO ob=true
   rw[sZ]; exact c3
  ·refine⟨xs[m'.2], ?_⟩
   simp only[D.at,atL,D.setO,if_true,Option.bind_some]
   rw[oQ cells xs p hle,if_pos ⟨by omega,by omega⟩,Nat.add_sub_cancel_left]
   exact List.getElem?_eq_getElem a1
end
end Go.Own

/- The single steps: slices and structs made. -/
namespace Go.Own
open Go.RowKit

section
variable {P:Program} {τ:TypeId→Option TI} {F:FA} {o:Oper} {b b':B} {x x':D} {d:Nat}

/-- Kinds turned, then a slot filled. -/
theorem OpS.setPut{n:Nat}{s1:St}{b1:B}(hA:Ag F b1 x)(h1:Low n b1 x s1){r:V}{κ:Nat→Nat→K}(hr:Own.fits r (F.shOf d)=true)(h: ∀g0 w0,nY P g0 w0 o (b.S n x) (s1.put d r κ)):OpS P F n o b x ((b1.put F d κ).nrm F) (x.put d r):=
 OpS.fin (hA.put (.inr hr)) h (HT hA h1 (.inr hr) (fun _ _ _ _=>cZ _) (fun _ _ _=>cZ _) (fun _ h=>h))

def B.killV(F:FA)(b:B):B:=b.setf F (fun _=>false) (fun _ q=>if q= .V then .D else q)

theorem BN{n:Nat}(hA:Ag F b x):Low n (b.killV F) x (b.S n x).killV:=
 jU hA (Low.self n b x) rfl (fun _ _ _=>cZ _) (fun _ _ _ hf=>hf)

def B.lowO(F:FA)(b:B)(l:Loc):B:=if l.place then b.setf F (fun m=>decide (m=l)) (fun m q=>if m=l then .D else q)else b

theorem Ag.lowO(hA:Ag F b x)(l:Loc):Ag F (b.lowO F l) x:=by
 unfold B.lowO
 split
 ·exact hA.setf _ _
 ·exact hA

theorem Iw{n:Nat}{s:St}(hA:Ag F b x)(h:Low n b x s)(l:Loc):Low n (b.lowO F l) x (s.lowO l):=by
 unfold B.lowO St.lowO
 by_cases hp:l.place=true
 ·rw[if_pos hp,if_pos hp]
  refine jU hA h (by simp [Ne.symm (Loc.place_ne hp).1]) (fun m _ hl=> ?_) (fun i _ hi hf=> ?_)
  ·by_cases e:m=l
   ·rw[if_pos e,if_pos e]; rfl
   ·rw[if_neg e,if_neg e]; exact hl
  ·by_cases e:Loc.s i 0 0=l
   ·rw[if_pos e]at hf; exact absurd rfl hf
   ·rw[if_neg e]at hf ⊢; exact hi hf
 ·rw[if_neg hp,if_neg hp]; exact h

/-! ### append -/
def wS(τ:TypeId→Option TI)(u:TypeId)(e:TypeId):Bool:=match tk τ u with | some (.sl e')=>Nat.beq e' e | some .str=>true | _=>false
theorem JX{u e:TypeId}(h:wS τ u e=true):tk τ u=some (.sl e)∨tk τ u=some .str:=by
 unfold wS at h
 split at h
 ·rename_i e' h1; left; rw[h1,Nat.eq_of_beq_eq_true h]
 ·rename_i h1; exact .inr h1
 ·cases h

/-- What append asks of the data. -/
def Mg(ei:TI)(es1 es2:List (List T)):Bool:=es1.all (fun e=>Nat.beq e.length ei.size)&&es2.all (fun e=>eU e ei.zero)&&Nat.ble (es1.length+es2.length) maxLen&&Nat.ble ((es1.length+es2.length)*ei.bytes) 140737488355328

def qH(τ:TypeId→Option TI)(F:FA)(x:D)(d:Nat)(t u:TypeId)(v y:Operand):Option D:=
 match tk τ t with
 | some (.sl e)=>(match τ e,ev x.sl v,Ih (ev x.sl y)with
  | some ei, .one (.c (.sl es1)),some es2=>bif wS τ u e&&Mg ei es1 es2 then pU F x d (.one (.c (.sl (es1++es2))))else none
  | _,_,_=>none)
 | _=>none

def Jx(b:B):Operand→K
 | .tmp t=>b.kd (.s t 0 0)
 | .const v=>gF (bG v) 0 0
 | _=> .S
def sM(b:B):Operand→Loc
 | .tmp t=>if(b.kd (.s t 0 0)).hold then .s t 0 0 else .none
 | _=> .none
def sndB(F:FA)(b:B)(zero:List T)(f:Bool)(y:Operand):Bool:=
 match pT F y with
 | .one (.c (.str _))=>true
 | _=>match Jx b y with
  | .D=>false
  | .V=>nR zero
  | .F=>nR zero|| !f
  | .A s=>(s == zero.length)&&(nR zero|| !f)
  | .U s=>s == zero.length&& !(s == 0)
  | .S=>false
  | .N=>true

def Hf(τ:TypeId→Option TI)(F:FA)(b:B)(d:Nat)(t:TypeId)(v y:Operand):Option B:=
 match tk τ t with
 | some (.sl e)=>(match τ e with
  | some ei=>bif Nat.blt d F.n&&dX b v&&dX b y&&(Jx b v).app ei.size&&(!(mem d F.dp)||(Jx b v).deep)&&sndB F b ei.zero (mem d F.dp) y&&(!((sM b y).place)|| !(decide (sM b y=sM b v)))then
    some (((((b.killV F).lowO F (sM b v)).lowO F (sM b y)).put F d (fun _ _=>bif mem d F.dp then .U ei.size else .A ei.size)).nrm F)else none
  | none=>none)
 | _=>none

theorem EW{n:Nat}{v:Operand}:JN (b.S n x) v=Jx b v:=by cases v<;>rfl
theorem vU{n:Nat}{v:Operand}:gR (b.S n x) v=sM b v:=by cases v<;>rfl

theorem Ph(hA:Ag F b x){n:Nat}{zero:List T}{f:Bool}{y:Operand}{es:List (List T)}(hk:dX b y=true)(hy:Ih (ev x.sl y)=some es)(h:sndB F b zero f y=true):Hw (b.S n x) zero f y=true:=by
 have hw: ∃z,ev x.sl y= .one (.c z):=by
  unfold Ih at hy
  split at hy
  ·rename_i e; exact⟨_,e⟩
  ·rename_i e; exact⟨_,e⟩
  ·cases hy
 obtain⟨z,hz⟩:=hw
 have hs: ∃z',pT F y= .one (.c z')∧tO z z'=true:=by
  rcases Cc hA hk hz (by simp)with hf | ⟨_,hs⟩
  ·cases hs:pT F y with
   | tup ws=>rw[hs]at hf; simp [Own.fits]at hf
   | one w=>
    rw[hs]at hf
    cases w<;>simp [Own.fits,bZ]at hf
    exact⟨_,rfl,hf⟩
  ·exact⟨z,hs,by cases z<;>simp [tO]⟩
 obtain⟨z',hs,hc⟩:=hs
 unfold Hw
 rw[oZ hk,hz,EW]
 unfold sndB at h
 rw[hs]at h
 cases z with
 | str s=>rfl
 | sl es'=>
  cases z'<;>simp [tO]at hc
  simp only at h ⊢
  revert h
  cases Jx b y<;>simp
 | int k m=>rw[hz]at hy; simp [Ih]at hy
 | bool m=>rw[hz]at hy; simp [Ih]at hy

theorem OG(hT:bJ P τ)(hA:Ag F b x){t u:TypeId}{v y:Operand}(hd:o.dst=some d)(ho:o.op= .call { callee:= .builtin .append,args:= #[v,y],argTypes:= #[t,u] })
  (h1:qH τ F x d t u v y=some x')(h2:Hf τ F b d t v y=some b'):OpS P F F.n o b x b' x':=by
 unfold qH at h1
 split at h1<;>try cases h1
 rename_i e he
 split at h1<;>try cases h1
 rename_i ei es1 es2 hei hv hy
 obtain⟨hq,h1⟩:=aJ h1
 simp only[Bool.and_eq_true]at hq
 obtain⟨q1,q2⟩:=hq
 obtain⟨e1,rfl⟩:=bW h1
 unfold Hf at h2
 rw[he]at h2
 simp only[hei]at h2
 obtain⟨hc,h2⟩:=aJ h2
 simp only[Bool.and_eq_true]at hc
 obtain⟨⟨⟨⟨⟨⟨c1,c2⟩,c3⟩,c4⟩,c5⟩,c6⟩,c7⟩:=hc
 cases h2
 simp only[Mg,Bool.and_eq_true]at q2
 obtain⟨⟨⟨a1,a2⟩,a3⟩,a4⟩:=q2
 have hA0:Ag F (b.killV F) x:=hA.setf _ _
 have hA1:=hA0.lowO (F:=F) (sM b v)
 refine OpS.setPut (hA1.lowO (sM b y)) (Iw hA1 (Iw hA0 (BN (n:=F.n) hA) (sM b v)) (sM b y)) e1 (fun g0 w0=> ?_)
 have:=MI (P:=P) (g0:=g0) (w0:=w0) (st:=b.S F.n x) hT (mem d F.dp) hd (cJ c1) ho he (JX q1) hei (by rw[oZ c2]; exact hv) (by rw[EW]; exact c4)
  (fun hf=>by rw[EW]; rw[hf]at c5; simpa using c5) (by rw[oZ c3]; exact hy) (Ph hA c3 hy c6) (fun hp=>by
   rw[vU]at hp ⊢
   rw[vU]
   rw[hp]at c7
   simpa using c7) (fun e' he'=>Nat.eq_of_beq_eq_true (List.all_eq_true.1 a1 e' he')) (fun e' he'=>List.all_eq_true.1 a2 e' he') (Nat.le_of_ble_eq_true a3) (Nat.le_of_ble_eq_true a4)
 rw[vU,vU]at this
 cases hm:mem d F.dp with
 | true=>rw[hm]at this; exact this
 | false=>rw[hm]at this; exact this

/-! ### literals -/
def sH:List V→Option (List (List T))
 | []=>some []
 | v::r=>match aV v,sH r with
  | some xs,some xss=>some (xs::xss)
  | _,_=>none
theorem Bp: ∀ {l:List V} {es:List (List T)},sH l=some es→l.map aV=es.map some
 | [],es,h=>by cases h; rfl
 | v::r,es,h=>by
  unfold sH at h
  split at h<;>try cases h
  rename_i xs xss h1 h2
  simp [h1,Bp h2]

def wT:Nat→List (Nat×Operand)→Bool
 | _,[]=>true
 | i,p::r=>Nat.beq p.1 i&&wT (i+1) r
theorem Dr: ∀ {l:List (Nat×Operand)} {i:Nat},wT i l=true→l=((l.map (·.2)).zipIdx i).map fun p=>(p.2,p.1)
 | [],i,_=>rfl
 | p::r,i,h=>by
  simp only[wT,Bool.and_eq_true]at h
  simp only[List.map_cons,List.zipIdx_cons]
  have:=Nat.eq_of_beq_eq_true h.1
  rw[←Dr h.2, ←this]

def Sb(t:Nat)(l:List Operand):Bool:=l.all (Fi t)
def oP:List Operand→Bool
 | []=>true
 | .tmp t::r=>Sb t r&&oP r
 | _::r=>oP r
theorem Is{t:Nat}: ∀ {l:List Operand} {i:Nat},Sb t l=true→l[i]? ≠some (.tmp t):=by
 intro l i h e
 have:=List.all_eq_true.1 h _ (List.mem_of_getElem? e)
 simp [Fi,Nat.beq_refl]at this
theorem Bk: ∀ {l:List Operand},oP l=true→ ∀(i i' t:Nat),l[i]? =some (Operand.tmp t)→l[i']? =some (Operand.tmp t)→i=i'
 | [],_,_,_,_,h,_=>by simp at h
 | p::r,h,i,i',t,h1,h2=>by
  have hr:oP r=true:=by
   cases p with
   | tmp t'=>simp only[oP,Bool.and_eq_true]at h; exact h.2
   | _=>exact h
  cases i with
  | zero=>
   cases i' with
   | zero=>rfl
   | succ i'=>
    exfalso
    simp only[List.getElem?_cons_zero,Option.some.injEq]at h1
    subst h1
    simp only[oP,Bool.and_eq_true]at h
    simp only[List.getElem?_cons_succ]at h2
    exact Is h.1 h2
  | succ i=>
   cases i' with
   | zero=>
    exfalso
    simp only[List.getElem?_cons_zero,Option.some.injEq]at h2
    subst h2
    simp only[oP,Bool.and_eq_true]at h
    simp only[List.getElem?_cons_succ]at h1
    exact Is h.1 h1
   | succ i'=>
    simp only[List.getElem?_cons_succ]at h1 h2
    rw[Bk hr i i' t h1 h2]

def KL(τ:TypeId→Option TI)(F:FA)(x:D)(d:Nat)(t:TypeId)(n:Nat)(parts:Array (Nat×Operand)):Option D:=
 match tk τ t with
 | some (.sl e)=>(match τ e,sH ((parts.toList.map (·.2)).map (ev x.sl))with
  | some ei,some es=>bif wT 0 parts.toList&&Nat.beq n parts.toList.length&&es.all (fun e=>Nat.beq e.length ei.size)&&Nat.ble (n*ei.size) 16777216 then pU F x d (.one (.c (.sl es)))else none
  | _,_=>none)
 | _=>none
def Hh(b:B):Operand→Nat→K
 | .tmp t,j=>b.kd (.s t 0 j)
 | .const v,j=>gF (bG v) 0 j
 | _,_=> .D
def B.lowT(F:FA)(b:B)(ps:List Operand):B:=b.setf F (cN ps) (fun m q=>if cN ps m=true∧q.hold=true then .D else q)
def cLit(τ:TypeId→Option TI)(F:FA)(b:B)(d:Nat)(t:TypeId)(parts:Array (Nat×Operand)):Option B:=
 match tk τ t with
 | some (.sl e)=>(match τ e with
  | some ei=>bif Nat.blt d F.n&&(parts.toList.map (·.2)).all (dX b)&&oP (parts.toList.map (·.2))&&(parts.toList.map (·.2)).all (fun v=>(range' 0 ei.size).all fun j=>(Hh b v j).part (mem d F.dp))then
    some (((b.lowT F (parts.toList.map (·.2))).put F d (fun _ _=>bif mem d F.dp then .U ei.size else .A ei.size)).nrm F)else none
  | none=>none)
 | _=>none

theorem Nb{n:Nat}(hA:Ag F b x)(ps:List Operand):Low n (b.lowT F ps) x ((b.S n x).lowT ps):=
 jU hA (Low.self n b x) rfl (fun _ _ _=>cZ _) (fun _ _ _ hf=>hf)

theorem lit_S(hT:bJ P τ)(hA:Ag F b x){t:TypeId}{n:Nat}{parts:Array (Nat×Operand)}(hd:o.dst=some d)(ho:o.op= .buildSlice t n parts)
  (h1:KL τ F x d t n parts=some x')(h2:cLit τ F b d t parts=some b'):OpS P F F.n o b x b' x':=by
 unfold KL at h1
 split at h1<;>try cases h1
 rename_i e he
 split at h1<;>try cases h1
 rename_i ei es hei hes
 obtain⟨hq,h1⟩:=aJ h1
 simp only[Bool.and_eq_true]at hq
 obtain⟨⟨⟨q1,q2⟩,q3⟩,q4⟩:=hq
 obtain⟨e1,rfl⟩:=bW h1
 unfold cLit at h2
 rw[he]at h2
 simp only[hei]at h2
 obtain⟨hc,h2⟩:=aJ h2
 simp only[Bool.and_eq_true]at hc
 obtain⟨⟨⟨c1,c2⟩,c3⟩,c4⟩:=hc
 cases h2
 have hps:(parts.toList.map (·.2)).map (fun v=>aV (ev (b.S F.n x).sl v))=es.map some:=by
  rw[←Bp hes]
  have key: ∀ps:List Operand,ps.all (dX b)=true→ps.map (fun v=>aV (ev (b.S F.n x).sl v))=(ps.map (ev x.sl)).map aV:=fun ps h=>by
   rw[List.map_map]
   refine List.map_congr_left fun v hv=> ?_
   simp only[Function.comp]
   rw[oZ (List.all_eq_true.1 h v hv)]
  exact key _ c2
 refine OpS.setPut (hA.setf _ _) (Nb (n:=F.n) hA _) e1 (fun g0 w0=> ?_)
 have:=TM (P:=P) (g0:=g0) (w0:=w0) (st:=b.S F.n x) hT (mem d F.dp) hd (cJ c1) ho (Dr q1) (by rw[List.length_map]; exact Nat.eq_of_beq_eq_true q2) he hei hps
  (fun e' he'=>Nat.eq_of_beq_eq_true (List.all_eq_true.1 q3 e' he')) (Nat.le_of_ble_eq_true q4) (Bk c3) (fun v hv j hj=>by
   have h:=List.all_eq_true.1 (List.all_eq_true.1 c4 v hv) j (nW.2 ⟨Nat.zero_le _,by omega⟩)
   have e:Cd (b.S F.n x) v j=Hh b v j:=by cases v<;>rfl
   rw[e]; exact h)
 cases hm:mem d F.dp with
 | true=>rw[hm]at this; exact this
 | false=>rw[hm]at this; exact this

/-! ### make -/
def Cj(τ:TypeId→Option TI)(F:FA)(x:D)(d:Nat)(t:TypeId)(v y:Operand):Option D:=
 match tk τ t with
 | some (.sl e)=>(match τ e,ev x.sl v,ev x.sl y with
  | some ei, .one (.c (.int _ n)), .one (.c (.int _ n'))=>if n=n'∧0≤n∧n≤maxLen∧ei.bytes*n≤281474976710656 then pU F x d (.one (.c (.sl (List.replicate n.toNat ei.zero))))else none
  | _,_,_=>none)
 | _=>none
def PV(τ:TypeId→Option TI)(F:FA)(b:B)(d:Nat)(t:TypeId)(v y:Operand):Option B:=
 match tk τ t with
 | some (.sl e)=>(match τ e with
  | some ei=>bif Nat.blt d F.n&&dX b v&&dX b y then some ((b.put F d (fun _ _=> .U ei.size)).nrm F)else none
  | none=>none)
 | _=>none

theorem TJ(hT:bJ P τ)(hA:Ag F b x){t:TypeId}{v y:Operand}(hd:o.dst=some d)(ho:o.op= .makeSlice t v y)
  (h1:Cj τ F x d t v y=some x')(h2:PV τ F b d t v y=some b'):OpS P F F.n o b x b' x':=by
 unfold Cj at h1
 split at h1<;>try cases h1
 rename_i e he
 split at h1<;>try cases h1
 rename_i ei k n k' n' hei hv hy
 split at h1<;>try cases h1
 rename_i hq
 obtain⟨rfl,q1,q2,q3⟩:=hq
 obtain⟨e1,rfl⟩:=bW h1
 unfold PV at h2
 rw[he]at h2
 simp only[hei]at h2
 obtain⟨hc,h2⟩:=aJ h2
 simp only[Bool.and_eq_true]at hc
 obtain⟨⟨c1,c2⟩,c3⟩:=hc
 cases h2
 exact OpS.put0 hA e1 (fun g0 w0=>Pz hT hd (cJ c1) ho he hei (by rw[oZ c2]; exact hv) (by rw[oZ c3]; exact hy) q1 q2 q3)
end
end Go.Own

/- The single steps: structs; all of them. -/
namespace Go.Own
open Go.RowKit

section
variable {P:Program} {τ:TypeId→Option TI} {F:FA} {o:Oper} {b b':B} {x x':D} {d:Nat}

theorem EF(fs:List (Nat×Nat×Bool)): ∀(l:List (Nat×V)) {cs rs:List T},qE fs cs l=some rs→rs.length=cs.length
 | [],cs,rs,h=>by cases h; rfl
 | (i,v)::r,cs,rs,h=>by
  unfold qE at h
  split at h<;>try cases h
  rename_i off size _ xs h1 h2
  split at h<;>try cases h
  rename_i hq
  rw[EF fs r h]
  simp only[List.length_append,List.length_take,List.length_drop]
  omega

theorem Br(fs:List (Nat×Nat×Bool)): ∀(l:List (Nat×V)) {cs rs:List T},qE fs cs l=some rs→ ∀ {p i:Nat} {v:V},l[p]? =some (i,v)→ ∃off size bb xs,fs[i]? =some (off,size,bb)∧aV v=some xs∧xs.length=size∧off+size≤cs.length
 | [],cs,rs,h,p,i,v,hp=>by simp at hp
 | (i0,v0)::r,cs,rs,h,p,i,v,hp=>by
  unfold qE at h
  split at h<;>try cases h
  rename_i off size bb xs h1 h2
  split at h<;>try cases h
  rename_i hq
  cases p with
  | zero=>
   simp only[List.getElem?_cons_zero,Option.some.injEq,Prod.mk.injEq]at hp
   obtain⟨rfl,rfl⟩:=hp
   exact⟨off,size,bb,xs,h1,h2,hq.1,hq.2⟩
  | succ p=>
   simp only[List.getElem?_cons_succ]at hp
   obtain⟨off',size',bb',xs',e1,e2,e3,e4⟩:=Br fs r h hp
   refine⟨off',size',bb',xs',e1,e2,e3, ?_⟩
   simp only[List.length_append,List.length_take,List.length_drop]at e4
   omega

def Sc(fs:List (Nat×Nat×Bool))(k:Nat)(ps:List (Nat×Operand)):Bool:=ps.all fun p=>match fs[p.1]? with
 | some (off,size,_)=>Nat.blt k off||Nat.ble (off+size) k
 | none=>true
theorem No{fs:List (Nat×Nat×Bool)}{k:Nat}{ps:List (Nat×Operand)}(h:Sc fs k ps=true):zW fs k ps:=by
 intro p hp off size bb hf
 have:=List.all_eq_true.1 h p hp
 rw[hf]at this
 simp only[Bool.or_eq_true]at this
 rcases this with h | h
 ·exact .inl (Nat.le_of_ble_eq_true h)
 ·exact .inr (Nat.le_of_ble_eq_true h)

def uN(b:B)(d:Nat)(fs:List (Nat×Nat×Bool)):List (Nat×Operand)→List (Loc×Loc)
 | []=> []
 | (i, .tmp t)::r=>(match fs[i]? with
  | some (off,size,_)=>((range' 0 size).filter fun j=>(b.kd (.s t 0 j)).hold&&Sc fs (off+j) r&& !(Nat.beq t d)).map fun j=>(.s t 0 j, .s d 0 (off+j))
  | none=> [])++uN b d fs r
 | _::r=>uN b d fs r

theorem Ge(fs:List (Nat×Nat×Bool)): ∀ {l:List (Nat×Operand)} {m:Loc×Loc},m∈uN b d fs l→ ∃(p i off size j t:Nat) (bb:Bool),l[p]? =some (i,Operand.tmp t)∧fs[i]? =some (off,size,bb)∧j<size∧zW fs (off+j) (l.drop (p+1))∧m=(.s t 0 j, .s d 0 (off+j))∧t≠d
 | [],m,h=>by simp [uN]at h
 | (i,v)::r,m,h=>by
  have rest:m∈uN b d fs r→ ∃(p i' off size j t:Nat) (bb:Bool),((i,v)::r)[p]? =some (i',Operand.tmp t)∧fs[i']? =some (off,size,bb)∧j<size∧zW fs (off+j) (((i,v)::r).drop (p+1))∧m=(.s t 0 j, .s d 0 (off+j))∧t≠d:=fun h=>by
   obtain⟨p,i',off,size,j,t,bb,h1,h2⟩:=Ge fs h
   exact⟨p+1,i',off,size,j,t,bb,h1,h2⟩
  cases v with
  | tmp t=>
   simp only[uN,List.mem_append]at h
   rcases h with h | h
   ·split at h
    ·rename_i off size bb hf
     obtain⟨j,hj,rfl⟩:=List.mem_map.1 h
     have hj:=List.mem_filter.1 hj
     simp only[Bool.and_eq_true]at hj
     obtain⟨q1,⟨_,q2⟩,q3⟩:=hj
     exact⟨0,i,off,size,j,t,bb,rfl,hf,by have:=(nW.1 q1).2; omega,No q2,rfl,fun e=>by subst e; simp [Nat.beq_refl]at q3⟩
    ·simp at h
   ·exact rest h
  | _=>exact rest h

def uJ(τ:TypeId→Option TI)(F:FA)(x:D)(d:Nat)(t:TypeId)(parts:Array (Nat×Operand)):Option D:=
 match τ t with
 | some ti=>(match ti.kind with
  | .struct fs=>(match qE fs ti.zero (parts.toList.map fun p=>(p.1,ev x.sl p.2))with
   | some rs=>pU F x d (.one (.ag rs))
   | none=>none)
  | _=>none)
 | none=>none
def KZ(τ:TypeId→Option TI)(F:FA)(b:B)(d:Nat)(t:TypeId)(parts:Array (Nat×Operand)):Option B:=
 match τ t with
 | some ti=>(match ti.kind with
  | .struct fs=>bif Nat.blt d F.n&&parts.toList.all (fun p=>dX b p.2)then
    some (((b.put F d (fun _=>AA fs (Ax ti.zero) (parts.toList.map fun p=>(p.1,Ew b p.2 0)))).mvs F (uN b d fs parts.toList)).nrm F)else none
  | _=>none)
 | none=>none

theorem Qa(hT:bJ P τ)(hA:Ag F b x){t:TypeId}{parts:Array (Nat×Operand)}(hd:o.dst=some d)(ho:o.op= .build t parts)
  (h1:uJ τ F x d t parts=some x')(h2:KZ τ F b d t parts=some b'):OpS P F F.n o b x b' x':=by
 unfold uJ at h1
 split at h1<;>try cases h1
 rename_i ti hti
 split at h1<;>try cases h1
 rename_i fs hfs
 split at h1<;>try cases h1
 rename_i rs hrs
 obtain⟨e1,rfl⟩:=bW h1
 unfold KZ at h2
 rw[hti]at h2
 simp only[hfs]at h2
 obtain⟨hc,h2⟩:=aJ h2
 simp only[Bool.and_eq_true]at hc
 obtain⟨c1,c2⟩:=hc
 cases h2
 have hk: ∀p∈parts.toList,dX b p.2=true:=fun p hp=>List.all_eq_true.1 c2 p hp
 have hmap:parts.toList.map (fun p=>(p.1,ev (b.S F.n x).sl p.2))=parts.toList.map (fun p=>(p.1,ev x.sl p.2)):=List.map_congr_left fun p hp=>by rw[oZ (hk p hp)]
 have hM: ∀m∈uN b d fs parts.toList, ∃(p i off size j t':Nat) (bb:Bool),parts.toList[p]? =some (i,Operand.tmp t')∧fs[i]? =some (off,size,bb)∧j<size∧zW fs (off+j) (parts.toList.drop (p+1))∧m=(.s t' 0 j, .s d 0 (off+j))∧t'≠d∧(∃y,(x.sl t').leaf 0 j=some y)∧b.has t'=true∧off+j<rs.length:=fun m hm=>by
  obtain⟨p,i,off,size,j,t',bb,h1,h2,h3,h4,h5,h6⟩:=Ge fs hm
  have hp:(parts.toList.map fun p=>(p.1,ev x.sl p.2))[p]? =some (i,x.sl t'):=by rw[List.getElem?_map,h1]; rfl
  obtain⟨off',size',bb',xs,e1,e2,e3,e4⟩:=Br fs _ hrs hp
  rw[h2]at e1
  cases e1
  refine⟨p,i,off,size,j,t',bb,h1,h2,h3,h4,h5,h6,⟨xs[j], ?_⟩,hk _ (bE h1), ?_⟩
  ·rw[yJ e2 j]; exact List.getElem?_eq_getElem (by omega)
  ·rw[EF fs _ hrs]; omega
 refine OpS.put hA e1 (fun g0 w0=> ?_) (fun m hm=> ?_)
 ·have:=OC (P:=P) (g0:=g0) (w0:=w0) (st:=b.S F.n x) hT (uN b d fs parts.toList) hd (cJ c1) ho hti hfs (by rw[hmap]; exact hrs) (fun m hm=>by
   obtain⟨p,i,off,size,j,t',bb,h1,h2,h3,h4,h5,h6,⟨y,h7⟩,h8,_⟩:=hM m hm
   exact⟨p,i,off,size,j,t',bb,h1,h2,h3,h4,h5,h6,y,by rw[St.at_s,qL h8]; exact h7⟩)
  have e:(parts.toList.map fun p=>(p.1,opK (b.S F.n x) p.2 0))=parts.toList.map fun p=>(p.1,Ew b p.2 0):=List.map_congr_left fun p _=>by rw[qF]
  rw[e]at this
  exact this
 ·obtain⟨p,i,off,size,j,t',bb,h1,h2,h3,h4,rfl,h6,⟨y,h7⟩,h8,h9⟩:=hM m hm
  exact⟨⟨h8,by simp [aS,h6],y,h7⟩,0,off+j,rfl,rs[off+j],List.getElem?_eq_getElem h9⟩

end
end Go.Own

/- What is owned, changed inside. -/
namespace Go.Own
open Go.RowKit

/-- The datum at a path, another. -/
def eT:T→List (Nat×Nat)→T→T
 | _,[],y=>y
 | .sl es,(i,j)::p,y=> .sl (es.set i ((es.getD i []).set j (eT ((es.getD i []).getD j (.sl [])) p y)))
 | x,_::_,_=>x

theorem Hd{α:Type}{l:List α}{i:Nat}{x d:α}(h:l[i]? =some x):l.getD i d=x:=by simp [List.getD,h]

theorem Dp{es:List (List T)}{i j:Nat}{row:List T}{c:T}{p:List (Nat×Nat)}{y:T}(h1:es[i]? =some row)(h2:row[j]? =some c):eT (.sl es) ((i,j)::p) y= .sl (es.set i (row.set j (eT c p y))):=by
 simp only[eT,Hd h1,Hd h2]

theorem jT{α:Type}{l:List α}{i:Nat}{y:α}(k:Nat)(h:i<l.length):(l.set i y)[k]? =if k=i then some y else l[k]? :=by
 rw[List.getElem?_set]
 by_cases e:i=k
 ·subst e; simp [h]
 ·rw[if_neg e,if_neg (Ne.symm e)]

/-- The slice at a path, parted from the rest: and put together again. -/
theorem Ow.part{w:World}{p:List (Nat×Nat)}: ∀ {Z:Nat→Prop} {t:Option Nat} {F:Nat→Prop} {v:Value} {x:T} {v':Value} {x':T},Ow Z true w t F v x→Pl w v x p v' x'→
  ∃Fp:Nat→Prop,(∀b,Fp b→F b)∧Ow Z true w (if p=[]then t else none) Fp v' x'∧
   ∀(Z':Nat→Prop) (w':World) (N Gd:Nat→Prop) (y:T),(∀b,F b→ ¬ Fp b→Gd b∧w'.heap[b]? =w.heap[b]?)→(∀b,N b→Gd b)→(∀b,N b→F b→Fp b)→Ow Z' true w' (if p=[]then t else none) N v' y→Ow Z' true w' t Gd v (eT x p y):=by
 induction p with
 | nil=>
  intro Z t F v x v' x' h hp
  cases hp
  refine⟨F,fun _ h=>h,by simpa using h,fun Z' w' N Gd y _ h2 _ h4=> ?_⟩
  have h4:Ow Z' true w' t N v y:=by simpa using h4
  have:eT x [] y=y:=by cases x<;>rfl
  rw[this]
  exact h4.mono (fun e=>e) (fun e=>by cases e) (fun b hb=>⟨h2 b hb,rfl⟩)
 | cons ij p ih=>
  intro Z t F v x v' x' h hp
  cases hp with
  | cons b off len cap es e c y0 i j p v' x' he hy hc hp=>
   classical
   cases h with
   | nil t F a=>simp at he
   | frz F v x hd h=>cases hd
   | sl t F b len cap s arr ty es own cs ht hb hh hl hcl hcap hs ha hm hr=>
    have e1:=hs i e he
    have hcell:arr[i*s+j]? =some (cs i j):=hm i e j y0 he hy
    rw[bU w b _ arr ty (0,0) hh,Nat.zero_add,e1,hcell]at hc
    cases hc
    obtain⟨Fp,q1,q2,q3⟩:=ih (hr i e j y0 he hy) hp
    refine⟨Fp,fun k hk=>(q1 k hk).1, ?_,fun Z' w' N Gd y h1 h2 h3 h4=> ?_⟩
    ·rw[if_neg (by simp)]
     by_cases e:p=[]
     ·rw[if_pos e]at q2; exact q2
     ·rw[if_neg e]at q2; exact q2
    rw[if_neg (by simp)]at h4
    have hjlt:j<e.length:=cD hy
    have hilt:i<es.length:=cD he
    have hnb: ¬ Fp b:=fun hk=>(q1 b hk).2.1 rfl
    have hNb: ∀k,N k→k≠b:=fun k hk e=>by subst e; exact hnb (h3 k hk hb)
    have hkeep:=h1 b hb hnb
    rw[Dp he hy]
    have hsub:=q3 Z' w' N (fun k=>Gd k∧k≠b∧(if N k then(i,j)else own k)=(i,j)) y (fun k hk hn=>by
     obtain⟨g1,g2⟩:=h1 k hk.1 hn
     refine⟨⟨g1,hk.2.1, ?_⟩,g2⟩
     have: ¬ N k:=fun hN=>hn (h3 k hN hk.1)
     rw[if_neg this]; exact hk.2.2) (fun k hk=>⟨h2 k hk,hNb k hk,by rw[if_pos hk]⟩) (fun k hN hk=>h3 k hN hk.1) (by
      by_cases e:p=[]
      ·rw[if_pos e]; exact h4
      ·rw[if_neg e]; exact h4)
    refine .sl t Gd b len cap s arr ty _ (fun k=>if N k then(i,j)else own k) cs ht hkeep.1 (hkeep.2.trans hh) (by simpa using hl) hcl hcap (fun i' e' he'=> ?_) ha (fun i' e' j' x he' hx=> ?_) (fun i' e' j' x he' hx=> ?_)
    ·rw[jT i' hilt]at he'
     by_cases ei:i'=i
     ·rw[if_pos ei]at he'; cases he'; simpa using e1
     ·rw[if_neg ei]at he'; exact hs i' e' he'
    ·rw[jT i' hilt]at he'
     by_cases ei:i'=i
     ·rw[if_pos ei]at he'; cases he'
      rw[jT j' hjlt]at hx
      by_cases ej:j'=j
      ·rw[ei,ej]; exact hcell
      ·rw[if_neg ej]at hx; rw[ei]; exact hm i e j' x he hx
     ·rw[if_neg ei]at he'; exact hm i' e' j' x he' hx
    ·have other: ∀e0 x0,es[i']? =some e0→e0[j']? =some x0→(i',j')≠(i,j)→Ow Z' true w' none (fun k=>Gd k∧k≠b∧(if N k then(i,j)else own k)=(i',j')) (cs i' j') x0:=fun e0 x0 h5 h6 hne=>
      (hr i' e0 j' x0 h5 h6).mono (fun e=>e) (fun e=>by cases e) (fun k hk=>by
       have hnp: ¬ Fp k:=fun hp=>hne (by rw[←hk.2.2,(q1 k hp).2.2])
       obtain⟨g1,g2⟩:=h1 k hk.1 hnp
       refine⟨⟨g1,hk.2.1, ?_⟩,g2⟩
       have: ¬ N k:=fun hN=>hnp (h3 k hN hk.1)
       rw[if_neg this]; exact hk.2.2)
     rw[jT i' hilt]at he'
     by_cases ei:i'=i
     ·rw[if_pos ei]at he'; cases he'
      rw[jT j' hjlt]at hx
      by_cases ej:j'=j
      ·rw[if_pos ej]at hx; cases hx
       rw[ei,ej]; exact hsub
      ·rw[if_neg ej]at hx
       subst ei
       exact other e x he hx (by simp [ej])
     ·rw[if_neg ei]at he'
      exact other e' x he' hx (by simp [ei])

/-- Some cells of an element, others. -/
theorem Ow.cells{Z Z':Nat→Prop}{deep:Bool}{w w':World}{t:Option Nat}{F:Nat→Prop}{b off len cap:Nat}{es:List (List T)}(h:Ow Z deep w t F (.slice (some ⟨b,off,none⟩) len cap) (.sl es))(hne: ¬ (deep=false∧t=none))
  {i j:Nat}{row ys:List T}{vs:List Value}{N:Nat→Prop}{ownN:Nat→Nat}{arr arr':Array Value}{ty:TypeId}(hrow:es[i]? =some row)(hle:j+ys.length≤row.length)(hlen:vs.length=ys.length)
  (hh:w.heap[b]? =some (.cells arr ty (0,0)))(hh':w'.heap[b]? =some (.cells arr' ty (0,0)))(hsz:arr'.size=arr.size)(harr: ∀k,arr'[k]? =if off+i*row.length+j≤k∧k<off+i*row.length+j+ys.length then vs[k - (off+i*row.length+j)]? else arr[k]?)
  (hZ:deep=false→ ∀k,Z k→Z' k∧w'.heap[k]? =w.heap[k]?)(hF: ∀k,F k→k≠b→w'.heap[k]? =w.heap[k]?)(hN: ∀k,N k→ ¬ F k)
  (hnew: ∀(c:Nat) y,ys[c]? =some y→ ∃u,vs[c]? =some u∧Ow Z' deep w' none (fun k=>N k∧ownN k=c) u y):
  Ow Z' deep w' t (fun k=>F k∨N k) (.slice (some ⟨b,off,none⟩) len cap) (.sl (es.set i (row.take j++ys++row.drop (j+ys.length)))):=by
 cases h with
 | nil t F a=>simp at hrow
 | frz F v x hd h=>exact absurd ⟨hd,rfl⟩ hne
 | sl t F b len cap s arr0 ty0 es own cs ht hb hh0 hl hcl hcap hs ha hm hr=>
  rw[hh]at hh0
  cases hh0
  have hilt:i<es.length:=cD hrow
  have e1:=hs i row hrow
  have hseg:=oQ row ys j hle
  simp only[Nat.zero_add,e1]at harr
  classical
  have hlt: ∀(i':Nat) e' (j':Nat) x,es[i']? =some e'→e'[j']? =some x→j'<s:=fun i' e' j' x h1 h2=>by rw[←hs i' e' h1]; exact cD h2
  have hnl: ∀i' j',j'<s→(i'*s+j'=i*s+j'∧i'=i)∨ ¬ (i*s+j≤i'*s+j'∧i'*s+j'<i*s+j+ys.length):=by
   intro i' j' hj'
   rcases Nat.lt_trichotomy i' i with h | h | h
   ·right
    have:(i'+1)*s≤i*s:=Nat.mul_le_mul_right s h
    rw[Nat.succ_mul]at this
    omega
   ·left; subst h; exact⟨rfl,rfl⟩
   ·right
    have:(i+1)*s≤i'*s:=Nat.mul_le_mul_right s h
    rw[Nat.succ_mul]at this
    rw[e1]at hle
    omega
  refine .sl t _ b len cap s arr' ty _ (fun k=>if N k then(i,j+ownN k)else own k) (fun i' j'=>if i'=i∧j≤j'∧j'<j+ys.length then vs.getD (j' - j) undef else cs i' j') ht (.inl hb) hh' (by simpa using hl) hcl hcap (fun i' e' he'=> ?_) (by rw[hsz]; exact ha) (fun i' e' j' x he' hx=> ?_) (fun i' e' j' x he' hx=> ?_)
  ·rw[jT i' hilt]at he'
   by_cases ei:i'=i
   ·rw[if_pos ei]at he'; cases he'
    simp only[List.length_append,List.length_take,List.length_drop]; omega
   ·rw[if_neg ei]at he'; exact hs i' e' he'
  ·rw[jT i' hilt]at he'
   by_cases ei:i'=i
   ·rw[if_pos ei]at he'; cases he'
    rw[hseg j']at hx
    subst ei
    rw[harr]
    by_cases ej:j≤j'∧j'<j+ys.length
    ·rw[if_pos ej]at hx
     rw[if_pos ⟨by omega,by omega⟩]
     simp only[ej,and_self,if_true]
     have:j' - j<vs.length:=by omega
     rw[show i'*s+j' - (i'*s+j)=j' - j by omega]
     simp [List.getD,List.getElem?_eq_getElem this]
    ·rw[if_neg ej]at hx
     rw[if_neg (by omega)]
     simp only[ej,and_false,if_false]
     exact hm i' row j' x hrow hx
   ·rw[if_neg ei]at he'
    have hj':=hlt i' e' j' x he' hx
    rw[harr]
    rw[if_neg (by rcases hnl i' j' hj' with h | h; exact absurd h.2 ei; exact h)]
    simp only[ei,false_and,if_false]
    exact hm i' e' j' x he' hx
  ·have keep: ∀e0 x0,es[i']? =some e0→e0[j']? =some x0→Ow Z' deep w' none (fun k=>(F k∨N k)∧k≠b∧(if N k then(i,j+ownN k)else own k)=(i',j')) (cs i' j') x0:=fun e0 x0 h5 h6=>
    (hr i' e0 j' x0 h5 h6).mono (fun e=>e) (fun e=>hZ e) (fun k hk=>by
     refine⟨⟨.inl hk.1,hk.2.1, ?_⟩,hF k hk.1 hk.2.1⟩
     have: ¬ N k:=fun h=>hN k h hk.1
     rw[if_neg this]; exact hk.2.2)
   rw[jT i' hilt]at he'
   by_cases ei:i'=i
   ·rw[if_pos ei]at he'; cases he'
    rw[hseg j']at hx
    subst ei
    by_cases ej:j≤j'∧j'<j+ys.length
    ·rw[if_pos ej]at hx
     simp only[ej,and_self,if_true]
     obtain⟨u,hu,ho⟩:=hnew _ _ hx
     have:vs.getD (j' - j) undef=u:=Hd hu
     rw[this]
     refine ho.mono (fun e=>e) (fun e k hk=>⟨hk,rfl⟩) (fun k hk=>⟨⟨.inr hk.1,fun e=>by subst e; exact hN k hk.1 hb, ?_⟩,rfl⟩)
     rw[if_pos hk.1,hk.2,Nat.add_sub_cancel' ej.1]
    ·rw[if_neg ej]at hx
     simp only[ej,and_false,if_false]
     exact keep row x hrow hx
   ·rw[if_neg ei]at he'
    simp only[ei,false_and,if_false]
    exact keep e' x he' hx
end Go.Own

/- A place's datum, changed inside. -/
namespace Go.Own
open Go.RowKit

def W.setLeaf:W→Nat→T→W
  | .c _,0,z=> .c z
  | .ag xs,j,z=> .ag (xs.set j z)
  | w,_,_=>w
def V.setLeaf:V→Nat→Nat→T→V
  | .one w,0,j,z=> .one (w.setLeaf j z)
  | .tup ws,k,j,z=> .tup (match ws[k]? with | some w=>ws.set k (w.setLeaf j z) | none=>ws)
  | v,_,_,_=>v

def mM(sl:Nat→V)(l:Loc)(z:T)(i:Nat):V:=match l with
  | .s i' k j=>if i=i' then(sl i).setLeaf k j z else sl i
  | _=>sl i
def rB(ob:Qo)(l:Loc)(z:T)(o:Nat):Option (List T):=match l with
  | .oc o' j=>if o=o' then(ob o).map (·.set j z)else ob o
  | _=>ob o

/-- The slice that a place holds, itself. -/
def Gi:V→Bool
  | .one (.al _ [])=>true
  | _=>false
/-- Place l's datum another; what lies in it known no more. -/
def St.upd(st:St)(l:Loc)(z:T):St:=
  { n:=st.n
    sl:=mM st.sl l z
    ob:=rB st.ob l z
    fl:=fun m=>match m with
      | .s i k j=>if k=0∧j=0∧aG (st.sl i)=l∧Gi (st.sl i)=false then .D else st.fl (.s i k j)
      | m=>st.fl m }

theorem W.setLeaf_leaf{w:W}{j:Nat}{z t:T}(h:w.leaf j=some t)(j':Nat):(w.setLeaf j z).leaf j'=if j'=j then some z else w.leaf j':=by
  cases w with
  | c y=>
    cases j with
    | zero=>cases j'<;>simp [W.setLeaf,W.leaf]
    | succ j=>simp [W.leaf]at h
  | ag xs=>
    simp only[W.setLeaf,W.leaf]
    exact jT j' (cD h)
  | _=>simp [W.leaf]at h

theorem V.setLeaf_leaf{v:V}{k j:Nat}{z t:T}(h:v.leaf k j=some t)(k' j':Nat):(v.setLeaf k j z).leaf k' j'=if k'=k∧j'=j then some z else v.leaf k' j':=by
  cases v with
  | one w=>
    cases k with
    | succ k=>simp [V.leaf]at h
    | zero=>
      cases k' with
      | succ k'=>simp [V.setLeaf,V.leaf]
      | zero=>simp only[V.setLeaf,V.leaf,true_and]; exact W.setLeaf_leaf h j'
  | tup ws=>
    simp only[V.leaf,Option.bind_eq_some_iff]at h
    obtain⟨w,hw,h⟩:=h
    simp only[V.setLeaf,hw,V.leaf]
    rw[jT k' (cD hw)]
    by_cases e:k'=k
    · subst e
      rw[if_pos rfl,hw]
      simp only[Option.bind_some,true_and]
      exact W.setLeaf_leaf h j'
    · rw[if_neg e]; simp [e]

theorem V.setLeaf_root{v:V}{k j:Nat}{z t:T}(h:v.leaf k j=some t):aG (v.setLeaf k j z)= .none∧aG v= .none:=by
  cases v with
  | tup ws=>exact⟨rfl,rfl⟩
  | one w=>
    cases k with
    | succ k=>simp [V.leaf]at h
    | zero=>
      cases w with
      | c y=>cases j<;>exact⟨rfl,rfl⟩
      | ag xs=>exact⟨rfl,rfl⟩
      | _=>simp [V.leaf,W.leaf]at h

theorem xR{st:St}{l m:Loc}{z t:T}(h:st.at l=some t):(st.upd l z).at m=if m=l then some z else st.at m:=by
  cases m with
  | s i k j=>
    show((mM st.sl l z) i).leaf k j=_
    cases l with
    | s i' k' j'=>
      simp only[mM]
      by_cases e:i=i'
      · subst e
        rw[if_pos rfl]
        rw[V.setLeaf_leaf (by exact h)]
        by_cases e2:k=k'∧j=j'
        · rw[if_pos e2,if_pos (by rw[e2.1,e2.2])]
        · rw[if_neg e2,if_neg (by simpa using e2)]; rfl
      · rw[if_neg e,if_neg (by simp [e])]; rfl
    | oc o' j'=>rfl
    | _=>simp [St.at,atL]at h
  | oc o j=>
    show((rB st.ob l z) o).bind (·[j]?)=_
    cases l with
    | oc o' j'=>
      simp only[rB]
      by_cases e:o=o'
      · subst e
        rw[if_pos rfl]
        simp only[St.at,atL,Option.bind_eq_some_iff]at h
        obtain⟨cells,hc,hj⟩:=h
        rw[hc]
        simp only[Option.map_some,Option.bind_some]
        rw[jT j (cD hj)]
        by_cases e2:j=j'
        · subst e2; simp
        · rw[if_neg e2,if_neg (by simp [e2])]; simp only[St.at,atL,hc,Option.bind_some]
      · rw[if_neg e,if_neg (by simp [e])]; rfl
    | s i' k' j'=>rfl
    | _=>simp [St.at,atL]at h
  | _=>cases l<;>first | rfl | (simp [St.at,atL]at h)

theorem OO{st:St}{l m:Loc}{z t:T}(hl:l≠ .none)(hm:st.at m=some t):(st.upd l z).fl m=st.fl m:=by
  cases m with
  | s i k j=>
    simp only[St.upd]
    rw[if_neg]
    rintro ⟨rfl,rfl,h,_⟩
    rw[tU hm]at h
    exact hl h.symm
  | _=>rfl

theorem bS.upd{g0:G}{w0:World}{st:St}{a:Act}{g:G}{w:World}(h:bS g0 w0 st a g w){g':G}{w':World}{X:Loc→Prop}(hC:xP g w g' w' X st)(hβ: ∀o,g'.β o=g.β o){l:Loc}{x0 z:T}{v0:Value}
    (hat:st.at l=some x0)(hv:vAt a.tmps g.β w l=some v0)(hX: ∀m x,(st.fl m).hold=true→st.at m=some x→m≠l→ ¬ X m)(hnew:LF g' w' (st.fl l) l v0 z):bS g0 w0 (st.upd l z) a g' w':=by
  have hlp:=eF hat
  have hln:=(Loc.place_ne hlp).1
  have hobj: ∀o b,g.own b= .obj o→g'.own b= .obj o∧w'.heap[b]? =w.heap[b]? :=fun o b hb=>by
    have hlt:b<w.heap.size:=h.ok.own b (by rw[hb]; simp)
    obtain⟨e1,e2⟩:=hC.evo.keep b hlt (fun hx=>(hC.X _ hx).2 o hb)
    exact⟨e1.trans hb,e2⟩
  have hvn:mC v0:=by
    obtain⟨v,e1,e2,_⟩:=h.get hat
    rw[hv]at e1; cases e1; exact e2
  have hlf: ∀m x v,st.at m=some x→m≠l→LF g w (st.fl m) m v x→LF g' w' (st.fl m) m v x:=fun m x v hm hne hf=>hC.lf h.ok (Loc.place_ne (eF hm)).1 (fun hk=>hX m x hk hm hne) hf
  have hcp: ∀i k xs b off,(st.sl i).comp k=some (.cp xs)→CpR g w (st.fl (.s i k 0)) b off xs→CpR g' w' (st.fl (.s i k 0)) b off xs:=fun i k xs b off hc hr=>by
    rcases hC.V with hV | hV
    · exact hr.evo hC.evo hC.none (.inr (.inr hV))
    · have:=hV (.s i k 0)
      cases hk:st.fl (.s i k 0)with
      | D=>trivial
      | F=>rw[hk]at hr; exact hr.evo hC.evo hC.none (.inr (.inl rfl))
      | V=>exact absurd hk this
      | _=>rw[hk]at hr; exact hr.elim
  have hother: ∀i,aG (st.sl i)≠l→(∀k j,(st.upd l z).fl (.s i k j)=st.fl (.s i k j)):=fun i hr k j=>by
    simp only[St.upd]
    rw[if_neg (fun e=>hr e.2.2.1)]
  -- slots none of whose cells is l
  have hrv: ∀i,(∀k j,Loc.s i k j≠l)→RV g' w' (fun k j=>(st.upd l z).fl (.s i k j)) (fun k j=> .s i k j) (a.tmps.getD i undef) (st.sl i):=fun i hi=>by
    by_cases hr:aG (st.sl i)=l
    · have:=h.slots i
      exact(Qg (by rw[hr]; exact hln)).mp (by
        have:RV g' w' (fun k j=>st.fl (.s i k j)) (fun k j=> .s i k j) (a.tmps.getD i undef) (st.sl i):=by
          cases hs:st.sl i with
          | tup ws=>rw[hs]at hr; exact absurd hr.symm hln
          | one y=>rw[hs]at hr; cases y<;>first | trivial | exact absurd hr.symm hln
        exact this)
    · have e:(fun k j=>(st.upd l z).fl (.s i k j))=fun k j=>st.fl (.s i k j):=by funext k j; exact hother i hr k j
      rw[e]
      have hs:=h.slots i
      have key:=hs.map (g':=g) (w':=w) (κ':=fun k j=>st.fl (.s i k j)) (l':=fun k j=> .s i k j) (fun _=>rfl) (fun _ _ _ _ _ _ _ hf=>hf) (fun _ _ _ _ _ hc=>hc)
      exact RV.map hβ (fun k j t u hj hu hn hf=>hlf (.s i k j) t u hj (hi k j) hf) (fun k xs hx b off hc=>hcp i k xs b off hx hc) hs
  refine⟨h.framed.trans hC.framed,hC.ok,h.size,h.defers,fun i=> ?_,fun o cells hc=> ?_,fun i hi hf=> ?_,fun o ho=>(hβ o).trans (h.bp o ho),h.nle⟩
  · show RV g' w' (fun k j=>(st.upd l z).fl (.s i k j)) (fun k j=> .s i k j) (a.tmps.getD i undef) (mM st.sl l z i)
    cases l with
    | s i' k' j'=>
      by_cases e:i=i'
      · subst e
        have hs:=h.slots i
        have hleaf:(st.sl i).leaf k' j'=some x0:=hat
        have hroot:=(V.setLeaf_root (z:=z) hleaf).2
        have efl:(fun k j=>(st.upd (.s i k' j') z).fl (.s i k j))=fun k j=>st.fl (.s i k j):=by funext k j; exact hother i (by rw[hroot]; simp) k j
        rw[efl]
        simp only[mM,if_true]
        -- cell by cell
        have hcell: ∀(k j:Nat) t u,(st.sl i).leaf k j=some t→mC u→LF g w (st.fl (.s i k j)) (.s i k j) u t→(k,j)≠(k',j')→LF g' w' (st.fl (.s i k j)) (.s i k j) u t:=fun k j t u h1 h2 h3 h4=>hlf (.s i k j) t u h1 (by simpa using h4) h3
        have hW: ∀(k:Nat) (y:W) (u:Value),(st.sl i).comp k=some y→RW g w (fun j=>st.fl (.s i k j)) (fun j=> .s i k j) u y→(k=k'→Er u j'=some v0∧y.leaf j'=some x0)→(∀j,(st.sl i).leaf k j=y.leaf j)→
            RW g' w' (fun j=>st.fl (.s i k j)) (fun j=> .s i k j) u (if k=k' then y.setLeaf j' z else y):=by
          intro k y u hy hr hkk hlv
          by_cases ek:k=k'
          · subst ek
            rw[if_pos rfl]
            obtain⟨q1,q2⟩:=hkk rfl
            cases y with
            | c t0=>
              cases j' with
              | succ j'=>simp [W.leaf]at q2
              | zero=>
                have hu:u=v0:=by
                  have:=(iZ hr.1).1
                  rw[this]at q1; exact Option.some.inj q1
                subst hu
                exact⟨hvn,hnew⟩
            | ag xs=>
              obtain⟨cs,rfl,c1,c2⟩:=hr
              refine⟨cs,rfl,by simpa using c1,fun j t ht=> ?_⟩
              have hlt:j'<xs.length:=cD q2
              rw[jT j hlt]at ht
              by_cases ej:j=j'
              · subst ej
                rw[if_pos rfl]at ht; cases ht
                exact⟨v0,q1,hvn,hnew⟩
              · rw[if_neg ej]at ht
                obtain⟨c,d1,d2,d3⟩:=c2 j t ht
                exact⟨c,d1,d2,hcell k j t c (by rw[hlv]; exact ht) d2 d3 (by simp [ej])⟩
            | _=>simp [W.leaf]at q2
          · rw[if_neg ek]
            cases y with
            | c t0=>exact⟨hr.1,hcell k 0 t0 u (by rw[hlv]; rfl) hr.1 hr.2 (by simp [ek])⟩
            | ag xs=>
              obtain⟨cs,rfl,c1,c2⟩:=hr
              refine⟨cs,rfl,c1,fun j t ht=> ?_⟩
              obtain⟨c,d1,d2,d3⟩:=c2 j t ht
              exact⟨c,d1,d2,hcell k j t c (by rw[hlv]; exact ht) d2 d3 (by simp [ek])⟩
            | ptr o off=>simp only[RW]at hr ⊢; rw[hβ]; exact hr
            | cp xs=>
              obtain⟨b,off,c1,c2⟩:=hr
              exact⟨b,off,c1,hcp i k xs b off hy c2⟩
            | nilp=>exact hr
            | ifc b=>exact hr
            | fn f caps=>simp only[RW]at hr ⊢; simp only[hβ]; exact hr
            | _=>trivial
        cases hsl:st.sl i with
        | one y=>
          rw[hsl]at hs hleaf
          cases k' with
          | succ k'=>simp [V.leaf]at hleaf
          | zero=>
            have:=hW 0 y (a.tmps.getD i undef) (by rw[hsl]; rfl) hs (fun _=>by
              obtain⟨u,hu,hu2,_,_⟩:=RW.leaf (show RW g w (fun j=>st.fl (.s i 0 j)) (fun j=> .s i 0 j) (a.tmps.getD i undef) y from hs) hleaf
              have hv':pK (a.tmps.getD i undef) 0 j'=some v0:=hv
              rw[hu2]at hv'
              cases hv'
              exact⟨hu,hleaf⟩) (fun j=>by rw[hsl]; rfl)
            rw[if_pos rfl]at this
            exact this
        | tup ws=>
          rw[hsl]at hs hleaf
          obtain⟨vs,e1,e2,e3⟩:=hs
          simp only[V.leaf,Option.bind_eq_some_iff]at hleaf
          obtain⟨y0,hy0,hleaf⟩:=hleaf
          simp only[V.setLeaf,hy0]
          refine⟨vs,e1,by simpa using e2,fun k y hy=> ?_⟩
          rw[jT k (cD hy0)]at hy
          by_cases ek:k=k'
          · subst ek
            rw[if_pos rfl]at hy; cases hy
            obtain⟨u,hu,hr⟩:=e3 k y0 hy0
            refine⟨u,hu, ?_⟩
            have:=hW k y0 u (by rw[hsl]; exact hy0) hr (fun _=>by
              obtain⟨u2,hu2,_,_,_⟩:=RW.leaf hr hleaf
              have hv':pK (a.tmps.getD i undef) k j'=some v0:=hv
              rw[e1]at hv'
              simp only[pK,hu,Option.bind_some,hu2]at hv'
              cases hv'
              exact⟨hu2,hleaf⟩) (fun j=>by rw[hsl]; simp [V.leaf,hy0])
            simpa using this
          · rw[if_neg ek]at hy
            obtain⟨u,hu,hr⟩:=e3 k y hy
            refine⟨u,hu, ?_⟩
            have:=hW k y u (by rw[hsl]; exact hy) hr (fun e=>absurd e ek) (fun j=>by rw[hsl]; simp [V.leaf,hy])
            simpa [ek]using this
      · simp only[mM,if_neg e]
        exact hrv i (fun k j=>by simp [e])
    | oc o' j'=>exact hrv i (fun k j=>by simp)
    | _=>simp [St.at,atL]at hat
  · have hc':rB st.ob l z o=some cells:=hc
    have plain:st.ob o=some cells→(∀j,Loc.oc o j≠l)→ ∃arr ty,w'.heap[g'.β o]? =some (.cells arr ty (0,0))∧arr.size=cells.length∧g'.own (g'.β o)= .obj o∧ ∀(j:Nat) x,cells[j]? =some x→ ∃c,arr[j]? =some c∧mC c∧LF g' w' ((st.upd l z).fl (.oc o j)) (.oc o j) c x:=fun hc hne=>by
      obtain⟨arr,ty,r1,r2,r3,r4⟩:=h.obs o cells hc
      obtain⟨e1,e2⟩:=hobj o _ r3
      rw[hβ]
      refine⟨arr,ty,e2.trans r1,r2,e1,fun j x hx=> ?_⟩
      obtain⟨c,d1,d2,d3⟩:=r4 j x hx
      exact⟨c,d1,d2,hlf (.oc o j) x c (by rw[St.at_oc,hc]; exact hx) (hne j) d3⟩
    cases l with
    | oc o' j'=>
      simp only[rB]at hc'
      by_cases e:o=o'
      · subst e
        rw[if_pos rfl,Option.map_eq_some_iff]at hc'
        obtain⟨cells0,hc0,rfl⟩:=hc'
        obtain⟨arr,ty,r1,r2,r3,r4⟩:=h.obs o cells0 hc0
        obtain⟨e1,e2⟩:=hobj o _ r3
        have hat':cells0[j']? =some x0:=by rw[St.at_oc,hc0]at hat; exact hat
        rw[hβ]
        refine⟨arr,ty,e2.trans r1,by simpa using r2,e1,fun j x hx=> ?_⟩
        rw[jT j (cD hat')]at hx
        by_cases ej:j=j'
        · subst ej
          rw[if_pos rfl]at hx; cases hx
          refine⟨v0, ?_,hvn,hnew⟩
          have hv':w.cell? ⟨g.β o,j,none⟩=some v0:=hv
          rw[bU w _ j _ _ _ r1]at hv'
          exact hv'
        · rw[if_neg ej]at hx
          obtain⟨c,d1,d2,d3⟩:=r4 j x hx
          exact⟨c,d1,d2,hlf (.oc o j) x c (by rw[St.at_oc,hc0]; exact hx) (by simp [ej]) d3⟩
      · rw[if_neg e]at hc'
        exact plain hc' (fun j=>by simp [e])
    | s i' k' j'=>exact plain hc' (fun j=>by simp)
    | _=>simp [St.at,atL]at hat
  · have hsl:aG ((st.upd l z).sl i)=aG (st.sl i)∧(aG (st.sl i)≠ .none→(st.upd l z).sl i=st.sl i):=by
      show aG (mM st.sl l z i)=_∧(_→mM st.sl l z i=_)
      cases l with
      | s i' k' j'=>
        simp only[mM]
        by_cases e:i=i'
        · subst e
          rw[if_pos rfl]
          obtain⟨q1,q2⟩:=V.setLeaf_root (z:=z) (show(st.sl i).leaf k' j'=some x0 from hat)
          exact⟨q1.trans q2.symm,fun hne=>absurd q2 hne⟩
        · rw[if_neg e]; exact⟨rfl,fun _=>rfl⟩
      | _=>exact⟨rfl,fun _=>rfl⟩
    rw[hsl.1]at hi
    rw[hsl.2 hi]
    by_cases etop:aG (st.sl i)=l
    · have ht:Gi (st.sl i)=true:=by
        cases ht:Gi (st.sl i)with
        | true=>rfl
        | false=>exfalso; apply hf; simp [St.upd,etop,ht]
      have hf1:st.fl (.s i 0 0)≠ .D:=fun e2=>hf (by
        simp only[St.upd]
        rw[if_neg (by rw[ht]; simp)]; exact e2)
      obtain⟨p1,p2⟩:=h.pls i hi hf1
      rw[etop]at p1 ⊢
      refine⟨by rw[OO hln hat]; exact p1, ?_⟩
      have hv':vAt a.tmps g'.β w' l=some v0:=by
        cases l with
        | oc o j=>
          have hat2:=hat
          simp only[St.at,atL,Option.bind_eq_some_iff]at hat2
          obtain⟨cells,hc,hj⟩:=hat2
          obtain⟨arr,ty,r1,r2,r3,r4⟩:=h.obs o cells hc
          obtain⟨e1,e2⟩:=hobj o _ r3
          have hv2:w.cell? ⟨g.β o,j,none⟩=some v0:=hv
          show w'.cell? ⟨g'.β o,j,none⟩=some v0
          rw[hβ,bV e2]; exact hv2
        | _=>exact hv
      cases hs:st.sl i with
      | tup ws=>rw[hs]at ht; cases ht
      | one y=>
        rw[hs]at ht p2 etop
        cases y with
        | al l' p=>
          cases p with
          | cons a p=>cases ht
          | nil=>
            have:l'=l:=etop
            subst this
            obtain⟨v1,x1,x',e1,e2,e3⟩:=p2
            rw[hv]at e1
            have e4:=Option.some.inj e1
            subst e4
            cases e3
            exact⟨_,z,z,hv',by rw[xR hat,if_pos rfl], .nil _ _⟩
        | _=>cases ht
    have hf1:aG (st.sl i)≠l∧st.fl (.s i 0 0)≠ .D:=⟨etop,by rw[hother i etop]at hf; exact hf⟩
    obtain⟨p1,p2⟩:=h.pls i hi hf1.2
    obtain⟨t,ht⟩:=p2.root hi
    have hXr:=hX _ t p1 ht hf1.1
    refine⟨by rw[OO hln ht]; exact p1, ?_⟩
    have hβ':g'.β=g.β:=funext hβ
    refine p2.congr ?_ (by rw[xR hat,if_neg hf1.1]) (fun v1 x1 p v' x' e1 e2 hp=>h.pl_evo hC.evo hC.none p1 hXr e1 e2 hp)
    rw[hβ']
    generalize hr:aG (st.sl i)=m at*
    cases m with
    | oc o j=>
      simp only[vAt]
      simp only[St.at,atL,Option.bind_eq_some_iff]at ht
      obtain⟨cells',hc',_⟩:=ht
      obtain⟨arr',ty',k1,k2,k3,k4⟩:=h.obs o cells' hc'
      exact bV (hobj o _ k3).2
    | _=>rfl
end Go.Own

/- A store into what lies in a place. -/
namespace Go.Own
open Go.RowKit

theorem Ng{st:St}{l:Loc}{x:T}(hx:st.at l=some x):st.killV.fl l=if st.fl l= .V then .D else st.fl l:=tT (f:=fun m=>if st.fl m= .V then .D else st.fl m) rfl hx

section
variable {P:Program} {τ:TypeId→Option TI} {g0:G} {w0:World} {o:Oper} {st:St} {d:Nat}

/-- May the slice at path p of a place of this kind be turned; whether what is laid in has to be the holder's. -/
def K.turn(f:Bool)(p:List (Nat×Nat)):K→Bool
 | .A _=> !f&&p.isEmpty
 | .U _=>f
 | _=>false

theorem Jc(hT:bJ P τ){t:TypeId}{tx:Nat}{y:Operand}{i:TI}{l:Loc}{p:List (Nat×Nat)}{n j:Nat}{x0:T}{es:List (List T)}{row xs:List T}(f:Bool)(hd:o.dst=none)(ho:o.op= .store t (.tmp tx) y)(hi:τ t=some i)
  (hx:st.sl tx= .one (.pp l p n j))(hln:l≠ .none)(hk:st.fl (.s tx 0 0)≠ .D∧st.fl (.s tx 0 0)≠ .V)(hat:st.at l=some x0)(hnav:nav x0 p=some (.sl es))(hrow:es[n]? =some row)(hy:aV (ev st.sl y)=some xs)(hsz:xs.length=i.size)(hle:j+xs.length≤row.length)
  (hkl:(st.fl l).turn f p=true)(hyk: ∀c,c<xs.length→(Cd st y c).part f=true)(hyl:cN [y] l=false):
  nY P g0 w0 o st ((st.killV.lowT [y]).upd l (eT x0 p (.sl (es.set n (row.take j++xs++row.drop (j+xs.length)))))):=by
 intro a w ⟨g,hs⟩
 obtain⟨hhold,v0,b,off,len,cap,hv0,hpl,hptr,_⟩:=hs.ppCell hx hln hk.1 hat hnav hrow
 have hlp:=eF hat
 have hnV:st.fl l≠ .V:=by intro e; rw[e]at hkl; simp [K.turn]at hkl
 -- the root's holder
 obtain⟨v0',e1,hvn,hlf⟩:=hs.get hat
 rw[hv0]at e1
 cases e1
 -- what lies at the path
 have hroot: ∃t0,Ow (frz g w) f w t0 (fun k=>g.own k=l) v0 x0∧((∃s,st.fl l= .A s∧t0=some s∧f=false∧p=[])∨ ∃s,st.fl l= .U s∧t0=gE s∧f=true):=by
  cases hκ:st.fl l with
  | A s=>
   rw[hκ]at hkl hlf
   simp only[K.turn,Bool.and_eq_true,Bool.not_eq_true']at hkl
   have hp:p=[]:=by simpa using hkl.2
   refine⟨some s, ?_, .inl ⟨s,rfl,rfl,hkl.1,hp⟩⟩
   rw[hkl.1]; exact hlf
  | U s=>
   rw[hκ]at hkl hlf
   have hf:f=true:=hkl
   refine⟨gE s, ?_, .inr ⟨s,rfl,rfl,hf⟩⟩
   rw[hf]; exact hlf
  | _=>rw[hκ]at hkl; simp [K.turn]at hkl
 obtain⟨t0,hOw,hcase⟩:=hroot
 -- parts
 have hpart: ∃(Fp:Nat→Prop) (t':Option Nat),(∀k,Fp k→g.own k=l)∧Ow (frz g w) f w t' Fp (.slice (some ⟨b,off,none⟩) len cap) (.sl es)∧ ¬ (f=false∧t'=none)∧
   ∀(Z':Nat→Prop) (w':World) (N Gd:Nat→Prop) (y:T),(∀k,g.own k=l→ ¬ Fp k→Gd k∧w'.heap[k]? =w.heap[k]?)→(∀k,N k→Gd k)→(∀k,N k→g.own k=l→Fp k)→Ow Z' f w' t' N (.slice (some ⟨b,off,none⟩) len cap) y→Ow Z' f w' t0 Gd v0 (eT x0 p y):=by
  rcases hcase with⟨s,_,ht0,hf,hp⟩ | ⟨s,_,ht0,hf⟩
  ·subst hp
   cases hpl
   subst ht0
   refine⟨fun k=>g.own k=l,some s,fun _ h=>h,hOw,by simp,fun Z' w' N Gd y _ h2 _ h4=> ?_⟩
   have:eT (.sl es) [] y=y:=rfl
   rw[this]
   exact h4.mono (fun e=>e) (fun _ k hk=>⟨hk,rfl⟩) (fun k hk=>⟨h2 k hk,rfl⟩)
  ·subst hf
   obtain⟨Fp,q1,q2,q3⟩:=Ow.part hOw hpl
   exact⟨Fp,_,q1,q2,by simp,q3⟩
 obtain⟨Fp,t',q1,q2,q3,q4⟩:=hpart
 -- the slice's own block
 have hblk: ∃arr ty s',w.heap[b]? =some (.cells arr ty (0,0))∧arr.size=cap*s'∧off=0∧len≤cap∧es.length=len∧row.length=s'∧Fp b:=by
  cases q2 with
  | nil t F a=>simp at hrow
  | frz F v x hd h=>exact absurd ⟨hd,rfl⟩ q3
  | sl t F b len cap s arr ty es own cs ht hb hh hl hcl hcap hs ha hm hr=>exact⟨arr,ty,s,hh,ha,rfl,hcl,hl,hs n row hrow,hb⟩
 obtain⟨arr,ty,s',hh,hasz,hoff,hlc,hel,hrl,hFb⟩:=hblk
 have hbl:g.own b=l:=q1 b hFb
 obtain⟨k1,k2,k3,k4,_⟩:=iR (hs.ev_rv y (fun _ _=> .none)) hy
 obtain⟨info,_,_,r1,_,r3,_⟩:=hT.get hi
 have hnlt:n<es.length:=cD hrow
 have hroom:off+n*row.length+j+xs.length≤arr.size:=by
  rw[hasz,hoff,hrl]
  have h1:(n+1)*s'≤cap*s':=Nat.mul_le_mul_right s' (by omega)
  rw[Nat.succ_mul]at h1
  omega
 have hone: ∀v∈(a.eval y).cells.toList,v.oneCell'=true:=fun v hv=>by
  obtain⟨c,hc⟩:=List.getElem?_of_mem hv
  have hcl:c<xs.length:=by have:=cD hc; simp only[Array.length_toList]at this; omega
  obtain⟨u,u1,u2,_⟩:=k2 c xs[c] (List.getElem?_eq_getElem hcl)
  rw[Array.getElem?_toList]at hc
  rw[hc]at u1
  cases u1
  exact pB u2
 have hcl:(a.eval y).cells.toList.length=xs.length:=by simpa using k1
 obtain⟨w',s1,s2,s3,s4,s5,s6,s7⟩:=mA (P:=P) (p:=off+n*row.length+j) hh (a.eval y).cells.toList (by rw[hcl]; exact hroom) hone
 have hv:(execOp a.eval o).run P w= .ok .skip w':=by
  obtain⟨dst,op,ty',pos,after,guard⟩:=o
  simp only at ho
  subst ho
  have hne: ¬ (a.eval y).cells.size≠info.size:=by rw[k1,r3,hsz]; simp
  have e1:a.eval (.tmp tx)= .pointer (some ⟨b,off+n*row.length+j,none⟩):=hptr
  simp only[execOp,Instr.storeAt,e1,Instr.sureAddr,Sem.run_bind,Sem.run_pure,Result.andThen_ok,storeVar,sizeOf,typeInfo,run_program,r1,if_neg hne,s1]
 refine⟨_,_,hv, .inr ⟨rfl, ?_⟩⟩
 rw[hd]
 -- the ghost behind it
 let g':G:= { β:=g.β,own:=fun k=>if cN [y] (g.own k)=true then l else g.own k }
 have hplace:=Loc.place_ne hlp
 have hgn: ∀k,cN [y] (g.own k)=false→g'.own k=g.own k:=fun k hk=>by show(if _ then _ else _)=_; rw[if_neg (by rw[hk]; simp)]
 have hgl: ∀k,cN [y] (g.own k)=true→g'.own k=l:=fun k hk=>by show(if _ then _ else _)=_; rw[if_pos hk]
 have hforT: ∀m,cN [y] m=true→ ¬ nQ m∧ ∀o,m≠ .obj o:=fun m hm=>by
  have:=Loc.place_ne (zN hm)
  exact⟨fun h=>h.elim this.1 this.2.1,this.2.2⟩
 have hZ: ∀k,frz g w k→frz g' w' k∧w'.heap[k]? =w.heap[k]? :=fun k hk=>by
  refine⟨⟨by rw[s4]; exact hk.1, ?_⟩,s3 k (fun e=>by rw[e]at hk; exact hln (hbl.symm.trans hk.2))⟩
  rw[hgn k (by rw[hk.2]; rfl)]; exact hk.2
 have hs1:=hs.killV.lowT [y]
 have hC:xP g w g' w' (fun m=>m=l∨cN [y] m=true) (st.killV.lowT [y]):=by
  refine⟨⟨by rw[s4]; exact Nat.le_refl _,fun k _ hX=>⟨hgn k (by simpa using fun h=>hX (.inr h)),s3 k (fun e=>hX (.inl (by rw[e]; exact hbl)))⟩⟩,fun m hm=> ?_, .inr (fun m=> ?_),s5,s6,s7,⟨fun k hk=> ?_⟩⟩
  ·rcases hm with rfl | hm
   ·exact⟨fun h=>h.elim hplace.1 hplace.2.1,hplace.2.2⟩
   ·exact hforT m hm
  ·refine oO (fun m=> ?_) m
   split
   ·simp
   ·exact pO st m
  ·rw[s4]
   by_cases e:cN [y] (g.own k)=true
   ·exact hs.ok.own k (fun e2=>by rw[e2]at e; simp [cN]at e)
   ·rw[hgn k (by simpa using e)]at hk; exact hs.ok.own k hk
 have hat1:(st.killV.lowT [y]).at l=some x0:=hat
 have hfl1:(st.killV.lowT [y]).fl l=st.fl l:=by
  rw[HZ (st:=st.killV) hat,Ng hat,if_neg hnV,if_neg (by rw[hyl]; simp)]
 have hres:bS g0 w0 ((st.killV.lowT [y]).upd l (eT x0 p (.sl (es.set n (row.take j++xs++row.drop (j+xs.length)))))) a g' w':=by
  refine hs1.upd hC (fun _=>rfl) hat1 hv0 (fun m x hm hmx hne hX=> ?_) ?_
  ·rcases hX with e | e
   ·exact hne e
   ·rw[HZ (st:=st.killV) (x:=x) hmx,e]at hm
    split at hm
    ·simp [K.hold]at hm
    ·rename_i h; simp [hm]at h
  ·rw[hfl1]
   -- the parts put together
   have hcells:=Ow.cells (Z':=frz g' w') (w':=w') (N:=fun k=>cN [y] (g.own k)=true) (ownN:=fun k=>match g.own k with | .s _ _ c=>c | _=>0) (vs:=(a.eval y).cells.toList) (ys:=xs) (j:=j) q2 q3 hrow hle hcl hh s2 (by
     simp only[List.size_toArray,List.length_append,List.length_take,List.length_drop,Array.length_toList]
     rw[hcl]at*
     omega) (fun k=>by
     have:=oQ arr.toList (a.eval y).cells.toList (off+n*row.length+j) (by rw[hcl]; simpa using hroom) k
     rw[hcl]at this
     rw[hcl]
     simpa using this) (fun _=>hZ) (fun k _ hne=>s3 k hne) (fun k hN hF=>by
     have:=q1 k hF
     rw[this,hyl]at hN; cases hN) (fun c z hz=>by
     obtain⟨u,u1,u2,u3⟩:=k2 c z hz
     have hclt:c<xs.length:=cD hz
     refine⟨u,by rw[Array.getElem?_toList]; exact u1, ?_⟩
     -- what the part's place owes
     have hq:LF g w (Cd st y c) (match y with | .tmp ty=> .s ty 0 c | _=> .none) u z:=by
      cases y with
      | tmp ty=>
       obtain⟨m1,m2,_⟩:=iR (hs.slots ty) hy
       obtain⟨u',v1,_,v3⟩:=m2 c z hz
       have:a.eval (.tmp ty)=a.tmps.getD ty undef:=rfl
       rw[this,v1]at u1
       cases u1
       exact v3
      | const v=>
       obtain⟨m1,m2,_⟩:=iR (sA g w (fun _ _=> .none) v) hy
       obtain⟨u',v1,_,v3⟩:=m2 c z hz
       have:a.eval (.const v)=v:=rfl
       rw[this,v1]at u1
       cases u1
       exact v3
      | func f=>simp [ev,aV]at hy
      | global n=>simp [ev,aV]at hy
     refine LF.part (g':=g') (w':=w') hq (hyk c hclt) hZ (fun hh k hk=> ?_)
     cases y with
     | tmp ty=>
      simp only at hk
      have hin:cN [Operand.tmp ty] (g.own k)=true:=by rw[hk]; simp [cN,uU]
      refine⟨⟨hin,by rw[hk]⟩,s3 k (fun e=> ?_)⟩
      rw[e,hbl]at hin
      rw[hyl]at hin; cases hin
     | const v=>
      exfalso
      have hh':(gF (bG v) 0 c).hold=true:=hh
      unfold gF at hh'
      split at hh'
      ·split at hh'<;>cases hh'
      ·cases hh'
     | func f=>simp [ev,aV]at hy
     | global n=>simp [ev,aV]at hy)
   have hfull:=q4 (frz g' w') w' (fun k=>Fp k∨cN [y] (g.own k)=true) (fun k=>g'.own k=l) _ (fun k hk hn=>⟨by rw[hgn k (by rw[hk]; exact hyl)]; exact hk,s3 k (fun e=>hn (by rw[e]; exact hFb))⟩)
    (fun k hk=>by
     rcases hk with h | h
     ·rw[hgn k (by rw[q1 k h]; exact hyl)]; exact q1 k h
     ·exact hgl k h) (fun k hk hl2=>by
     rcases hk with h | h
     ·exact h
     ·rw[hl2,hyl]at h; cases h) hcells
   rcases hcase with⟨s,hκ,ht0,hf,_⟩ | ⟨s,hκ,ht0,hf⟩
   ·rw[hκ]; subst hf; subst ht0; exact hfull
   ·rw[hκ]; subst hf; subst ht0; exact hfull
 exact⟨g',hres⟩
end
end Go.Own

/- A store into what lies in a place, told without the data. -/
namespace Go.Own
open Go.RowKit

def D.upd(x:D)(l:Loc)(z:T):D:= { sl:=mM x.sl l z,ob:=rB x.ob l z }

theorem BT: ∀ {xs ys:List T} {j:Nat} {t z:T},eU xs ys=true→xs[j]? =some t→(∀u,tO t u=tO z u)→eU (xs.set j z) ys=true
 | [],ys,j,t,z,_,h,_=>by simp at h
 | x::xs,[],j,t,z,h,_,_=>by simp [eU]at h
 | x::xs,y::ys,0,t,z,h,h2,h3=>by
  simp only[List.getElem?_cons_zero,Option.some.injEq]at h2
  subst h2
  simp only[eU,Bool.and_eq_true,List.set_cons_zero]at h ⊢
  exact⟨by rw[←h3]; exact h.1,h.2⟩
 | x::xs,y::ys,j+1,t,z,h,h2,h3=>by
  simp only[List.getElem?_cons_succ]at h2
  simp only[eU,Bool.and_eq_true,List.set_cons_succ]at h ⊢
  exact⟨h.1,BT h.2 h2 h3⟩

theorem GY{w s:W}{j:Nat}{t z:T}(h:bZ w s=true)(hl:w.leaf j=some t)(hc: ∀u,tO t u=tO z u):bZ (w.setLeaf j z) s=true:=by
 cases w with
 | c y=>
  cases j with
  | succ j=>simp [W.leaf]at hl
  | zero=>
   simp only[W.leaf,Option.some.injEq]at hl
   subst hl
   cases s<;>simp [bZ]at h
   simp only[W.setLeaf,bZ]
   rw[←hc]; exact h
 | ag xs=>
  cases s<;>simp [bZ]at h
  simp only[W.setLeaf,bZ]
  exact BT h hl hc
 | _=>simp [W.leaf]at hl

theorem ED: ∀ {ws ss:List W} {k j:Nat} {w:W} {t z:T},lG ws ss=true→ws[k]? =some w→w.leaf j=some t→(∀u,tO t u=tO z u)→lG (ws.set k (w.setLeaf j z)) ss=true
 | [],_,k,j,w,t,z,_,h,_,_=>by simp at h
 | x::xs,[],k,j,w,t,z,h,_,_,_=>by simp [lG]at h
 | x::xs,y::ys,0,j,w,t,z,h,h2,h3,h4=>by
  simp only[List.getElem?_cons_zero,Option.some.injEq]at h2
  subst h2
  simp only[lG,Bool.and_eq_true,List.set_cons_zero]at h ⊢
  exact⟨GY h.1 h3 h4,h.2⟩
 | x::xs,y::ys,k+1,j,w,t,z,h,h2,h3,h4=>by
  simp only[List.getElem?_cons_succ]at h2
  simp only[lG,Bool.and_eq_true,List.set_cons_succ]at h ⊢
  exact⟨h.1,ED h.2 h2 h3 h4⟩

theorem Nt{v s:V}{k j:Nat}{t z:T}(h:fits v s=true)(hl:v.leaf k j=some t)(hc: ∀u,tO t u=tO z u):fits (v.setLeaf k j z) s=true:=by
 cases v with
 | one w=>
  cases k with
  | succ k=>simp [V.leaf]at hl
  | zero=>
   cases s with
   | tup ss=>simp [fits]at h
   | one y=>exact GY h hl hc
 | tup ws=>
  cases s with
  | one y=>simp [fits]at h
  | tup ss=>
   simp only[V.leaf,Option.bind_eq_some_iff]at hl
   obtain⟨w,hw,hl⟩:=hl
   simp only[V.setLeaf,hw,fits]
   exact ED h hw hl hc

theorem Dq{x:T}{p:List (Nat×Nat)}{es es':List (List T)}(h:nav x p=some (.sl es))(u:T):tO x u=tO (eT x p (.sl es')) u:=by
 cases p with
 | nil=>
  have h':x= .sl es:=by cases x<;>simp [nav]at h; rw[h]
  subst h'
  cases u<;>rfl
 | cons ij p=>
  obtain⟨i,j⟩:=ij
  cases x with
  | sl es0=>cases u<;>rfl
  | _=>simp [nav]at h

section
variable {P:Program} {τ:TypeId→Option TI} {F:FA} {o:Oper} {b b':B} {x x':D} {d:Nat}

theorem Ag.upd(hA:Ag F b x){l:Loc}{t z:T}(hL:b.hasL l=true)(hat:x.at l=some t)(hc: ∀u,tO t u=tO z u):Ag F b (x.upd l z):=by
 refine⟨fun i hi=> ?_,fun o ho=> ?_⟩
 ·show mM x.sl l z i=_∨Own.fits (mM x.sl l z i) _=true
  cases l with
  | s i' k j=>
   simp only[mM]
   by_cases e:i=i'
   ·subst e
    rw[if_pos rfl]
    have hl:(x.sl i).leaf k j=some t:=hat
    rcases hA.sl i hi with e2 | e2
    ·rw[e2]at hl; cases k<;>simp [V.leaf,W.leaf]at hl
    ·exact .inr (Nt e2 hl hc)
   ·rw[if_neg e]; exact hA.sl i hi
  | _=>exact hA.sl i hi
 ·show ∃cs,rB x.ob l z o=some cs∧_
  cases l with
  | oc o' j=>
   simp only[rB]
   by_cases e:o=o'
   ·subst e
    rw[if_pos rfl]
    obtain⟨cs,h1,h2⟩:=hA.ob o ho
    have hl:cs[j]? =some t:=by simp only[D.at,atL,h1,Option.bind_some]at hat; exact hat
    exact⟨cs.set j z,by rw[h1]; rfl,BT h2 hl hc⟩
   ·rw[if_neg e]; exact hA.ob o ho
  | _=>exact hA.ob o ho

theorem Ns{v s:V}(h:fits v s=true):Gi v=Gi s:=by
 cases v with
 | tup ws=>cases s<;>first | rfl | simp [fits]at h
 | one x=>
  cases s with
  | tup ws=>simp [fits]at h
  | one y=>
   cases x<;>cases y<;>simp [fits,bZ]at h<;>try rfl
   rename_i l p l' p'
   cases p<;>cases p'<;>first | rfl | simp at h
def lZ(F:FA)(l:Loc)(i:Nat):Bool:= !(decide (aG (F.shOf i)=l))||Gi (F.shOf i)

theorem HO{n:Nat}{s:St}(hA:Ag F b x)(h:Low n b x s){l:Loc}{t z:T}(hL:b.hasL l=true)(hat:x.at l=some t)(hln:l≠ .none):Low n (b.filt (lZ F l)) (x.upd l z) (s.upd l z):=by
 have hhas: ∀i,(b.filt (lZ F l)).has i=true→b.has i=true∧lZ F l i=true:=fun i hi=>by rw[fG]at hi; simpa [and_comm]using hi
 have hroot: ∀i,(b.filt (lZ F l)).has i=true→aG (s.sl i)≠l∨Gi (s.sl i)=true:=fun i hi=>by
  obtain⟨h1,h2⟩:=hhas i hi
  rw[h.sl i h1]
  rcases hA.sl i h1 with e | e
  ·rw[e]; exact .inl (Ne.symm hln)
  ·rw[cV e,Ns e]; simpa [lZ]using h2
 have hfl: ∀i k j,(b.filt (lZ F l)).has i=true→(s.upd l z).fl (.s i k j)=s.fl (.s i k j):=fun i k j hi=>by
  simp only[St.upd]
  rw[if_neg (fun e=>(hroot i hi).elim (fun h=>h e.2.2.1) (fun h=>by rw[e.2.2.2]at h; cases h))]
 have hkd: ∀i k j,(b.filt (lZ F l)).has i=true→(b.filt (lZ F l)).kd (.s i k j)=b.kd (.s i k j):=fun i k j hi=>fM (hhas i hi).2
 have hsl: ∀i,b.has i=true→mM s.sl l z i=mM x.sl l z i:=fun i hi=>by
  cases l with
  | s i' k j=>simp only[mM,h.sl i hi]
  | _=>exact h.sl i hi
 have hleaf: ∀i k j t',(x.upd l z).at (.s i k j)=some t'→ ∃t'',x.at (.s i k j)=some t'':=fun i k j t' ht=>by
  have ht:(mM x.sl l z i).leaf k j=some t':=ht
  cases l with
  | s i' k' j'=>
   simp only[mM]at ht
   by_cases e:i=i'
   ·subst e
    rw[if_pos rfl,V.setLeaf_leaf (show(x.sl i).leaf k' j'=some t from hat)]at ht
    by_cases e2:k=k'∧j=j'
    ·obtain⟨rfl,rfl⟩:=e2; exact⟨t,hat⟩
    ·rw[if_neg e2]at ht; exact⟨t',ht⟩
   ·rw[if_neg e]at ht; exact⟨t',ht⟩
  | _=>exact⟨t',ht⟩
 refine⟨h.n,fun i hi=>hsl i (hhas i hi).1,fun o ho=> ?_,fun m t' hm ht=> ?_,fun i k xs hi hx=> ?_,fun i hi hr hf=> ?_⟩
 ·show rB s.ob l z o=rB x.ob l z o
  cases l with
  | oc o' j=>simp only[rB,h.ob o ho]
  | _=>exact h.ob o ho
 ·cases m with
  | s i k j=>
   obtain⟨t'',h2⟩:=hleaf i k j t' ht
   rw[hfl i k j hm,hkd i k j hm]
   exact h.fl (.s i k j) t'' (hhas i hm).1 h2
  | oc o j=>
   have: ∃t'',x.at (.oc o j)=some t'':=by
    have ht:(rB x.ob l z o).bind (·[j]?)=some t':=ht
    cases l with
    | oc o' j'=>
     simp only[rB]at ht
     by_cases e:o=o'
     ·subst e
      rw[if_pos rfl]at ht
      simp only[Option.bind_eq_some_iff,Option.map_eq_some_iff]at ht
      obtain⟨_,⟨cs,h1,rfl⟩,h2⟩:=ht
      have hlt:=cD h2
      rw[List.length_set]at hlt
      exact⟨cs[j],by simp only[D.at,atL,h1,Option.bind_some]; exact List.getElem?_eq_getElem hlt⟩
     ·rw[if_neg e]at ht; exact⟨t',ht⟩
    | _=>exact⟨t',ht⟩
   obtain⟨t'',h2⟩:=this
   exact h.fl (.oc o j) t'' hm h2
  | _=>cases hm
 ·rw[hfl i k 0 hi,hkd i k 0 hi]
  refine h.cp i k xs (hhas i hi).1 ?_
  have hx:(mM x.sl l z i).comp k=some (.cp xs):=hx
  cases l with
  | s i' k' j'=>
   simp only[mM]at hx
   by_cases e:i=i'
   ·subst e
    rw[if_pos rfl]at hx
    have hl:(x.sl i).leaf k' j'=some t:=hat
    cases hv:x.sl i with
    | one w=>
     rw[hv]at hx hl
     cases k' with
     | succ k'=>simp [V.leaf]at hl
     | zero=>
      cases k with
      | succ k=>simp [V.setLeaf,V.comp]at hx
      | zero=>
       cases w with
       | c y=>cases j'<;>simp [V.setLeaf,W.setLeaf,V.comp]at hx
       | ag ys=>simp [V.setLeaf,W.setLeaf,V.comp]at hx
       | _=>simp [V.leaf,W.leaf]at hl
    | tup ws=>
     rw[hv]at hx hl
     simp only[V.leaf,Option.bind_eq_some_iff]at hl
     obtain⟨w,hw,hl⟩:=hl
     simp only[V.setLeaf,hw,V.comp]at hx ⊢
     rw[jT k (cD hw)]at hx
     by_cases e:k=k'
     ·rw[if_pos e]at hx
      cases w with
      | c y=>cases j'<;>simp [W.setLeaf]at hx
      | ag ys=>simp [W.setLeaf]at hx
      | _=>simp [W.leaf]at hl
     ·rw[if_neg e]at hx; exact hx
   ·rw[if_neg e]at hx; exact hx
  | _=>exact hx
 ·rw[hfl i 0 0 hi]
  rw[hkd i 0 0 hi]at hf
  refine h.al i (hhas i hi).1 ?_ hf
  have hr:aG (mM x.sl l z i)≠ .none:=hr
  cases l with
  | s i' k' j'=>
   simp only[mM]at hr
   by_cases e:i=i'
   ·subst e
    rw[if_pos rfl,(V.setLeaf_root (show(x.sl i).leaf k' j'=some t from hat)).1]at hr
    exact absurd rfl hr
   ·rw[if_neg e]at hr; exact hr
  | _=>exact hr

/-! ### the store -/
def wW(F:FA)(x:D)(i:TI)(l:Loc)(p:List (Nat×Nat))(n j:Nat)(xs:List T):Option D:=match x.at l with
 | some x0=>(match nav x0 p with
  | some (.sl es)=>(match es[n]? with
   | some row=>bif Nat.beq xs.length i.size&&Nat.ble (j+xs.length) row.length then some (x.upd l (eT x0 p (.sl (es.set n (row.take j++xs++row.drop (j+xs.length))))))else none
   | none=>none)
  | _=>none)
 | none=>none
def isU:K→Bool
 | .U _=>true
 | _=>false
def At(F:FA)(b:B)(i:TI)(l:Loc)(p:List (Nat×Nat))(tx:Nat)(y:Operand):Option B:=
 bif b.has tx&&dX b y&&Cz F b F.n (.tmp tx)&& !(decide (b.kd (.s tx 0 0)= .V))&&(b.kd l).turn (isU (b.kd l)) p&&(range' 0 i.size).all (fun c=>(Hh b y c).part (isU (b.kd l)))&& !(cN [y] l)&&If F b tx then
  some ((((b.killV F).lowT F [y]).filt (lZ F l)).nrm F)else none

theorem Mz{κ:K}{f:Bool}{p p':List (Nat×Nat)}(h:κ.turn f p'=true)(hl:p.length=p'.length):κ.turn f p=true:=by
 cases κ with
 | A s=>
  simp only[K.turn,Bool.and_eq_true]at h ⊢
  refine⟨h.1, ?_⟩
  cases p with
  | nil=>rfl
  | cons a p=>cases p' with
   | nil=>simp at hl
   | cons a' p'=>simp at h
 | _=>exact h

theorem NH(hT:bJ P τ)(hA:Ag F b x){t:TypeId}{tx:Nat}{y:Operand}{i:TI}{l:Loc}{p p':List (Nat×Nat)}{n n' j:Nat}{xs:List T}(hd:o.dst=none)(ho:o.op= .store t (.tmp tx) y)(hi:τ t=some i)(hv:x.sl tx= .one (.pp l p n j))(hs:F.shOf tx= .one (.pp l p' n' j))(hpl:p.length=p'.length)
  (hy:aV (ev x.sl y)=some xs)(h1:wW F x i l p n j xs=some x')(h2:At F b i l p' tx y=some b'):OpS P F F.n o b x b' x':=by
 unfold At at h2
 obtain⟨hc,h2⟩:=aJ h2
 simp only[Bool.and_eq_true]at hc
 obtain⟨⟨⟨⟨⟨⟨⟨c1,c2⟩,c3⟩,c4⟩,c5⟩,c6⟩,c7⟩,c8⟩:=hc
 cases h2
 unfold wW at h1
 split at h1<;>try cases h1
 rename_i x0 hat
 split at h1<;>try cases h1
 rename_i es hnav
 split at h1<;>try cases h1
 rename_i row hrow
 obtain⟨hq,h1⟩:=aJ h1
 simp only[Bool.and_eq_true]at hq
 cases h1
 obtain⟨a1,a2,a3,a4⟩:=wF (d:=F.n) hA c1 c3 (.inr ⟨p,n,j,hv⟩)
 have c4':b.kd (.s tx 0 0)≠ .V:=by simpa using c4
 have hsz:=Nat.eq_of_beq_eq_true hq.1
 have hA1:Ag F (b.killV F) x:=hA.setf _ _
 have hA2:Ag F ((b.killV F).lowT F [y]) x:=hA1.setf _ _
 have hL:((b.killV F).lowT F [y]).hasL l=true:=by
  have hr: ∀i k j,l= .s i k j→aG (F.shOf i)= .none:=fun i k j e=>by
   subst e
   exact hA.leaf_root a4 hat
  cases l with
  | s i k j=>
   show((b.killV F).lowT F [y]).has i=true
   have hi:b.has i=true:=a4
   unfold B.lowT B.killV
   rw[sF,sF,hr i k j rfl,hi]
   rfl
  | oc o j=>
   show((b.killV F).lowT F [y]).hasO o=true
   unfold B.lowT B.killV
   rw[gK,gK]; exact a4
  | _=>cases a4
 have hlow:Low F.n ((b.killV F).lowT F [y]) x ((b.S F.n x).killV.lowT [y]):=by
  have h0:=BN (n:=F.n) hA
  have hkd: ∀m,(b.killV F).hasL m=true→(b.killV F).kd m= .D∨(b.killV F).kd m=(b.S F.n x).killV.fl m:=fun m hm=>by
   have e:(b.S F.n x).killV.fl m=if b.kd m= .V then .D else b.kd m:=by
    cases m with
    | s i k j=>simp only[St.killV,St.setf]; rw[if_neg (by simp)]; rfl
    | _=>rfl
   rw[e]
   have hg:(b.killV F).get m=(b.get m).map fun q=>if q= .V then .D else q:=AD hm
   unfold B.kd
   rw[hg]
   cases b.get m with
   | none=>exact .inl rfl
   | some q=>exact .inr rfl
  have hm1: ∀i,(b.killV F).has i=true→(b.killV F).hasL (.s i 0 0)=true:=fun i h=>h
  refine jU hA1 h0 rfl (fun m hm hl=> ?_) (fun i hi hk hf=> ?_)
  ·rcases hkd m hm with e | e
   ·rw[e]; simp only[K.hold,Bool.false_eq_true,and_false,if_false]; exact Fo _
   ·rw[e]; exact cZ _
  ·rcases hkd (.s i 0 0) hi with e | e
   ·rw[e]at hf; simp [K.hold]at hf
   ·rw[e]at hf; exact hf
 refine OpS.fin ((hA2.upd hL hat (Dq hnav)).filt _) (fun g0 w0=> ?_) (HO hA2 hlow hL hat a1)
 exact Jc hT (isU (b.kd l)) hd ho hi (by rw[qL c1]; exact hv) a1 ⟨a3,c4'⟩ (by rw[MQ a4]; exact hat) hnav hrow (by rw[oZ c2]; exact hy) hsz (Nat.le_of_ble_eq_true hq.2)
  (Mz c5 hpl) (fun c hc=>by
   have h:=List.all_eq_true.1 c6 c (nW.2 ⟨Nat.zero_le _,by omega⟩)
   have e:Cd (b.S F.n x) y c=Hh b y c:=by cases y<;>rfl
   rw[e]; exact h) (by simpa using c7)
end
end Go.Own

/- All single steps. -/
namespace Go.Own
open Go.RowKit

section
variable {P:Program} {τ:TypeId→Option TI} {F:FA} {o:Oper} {b b':B} {x x':D} {d:Nat}

/-! ### all of them -/
/-- An operation that is no call of a function, on data. -/
def dOp(τ:TypeId→Option TI)(F:FA)(x:D)(o:Oper):Option D:=
 match o.dst with
 | some d=>(match o.op with
  | .assign v=>uX F x d v
  | .move v=>bif mem d F.al then rC F x d v else uX F x d v
  | .extract v k=>nL F x d k v
  | .pick c y z=>Ch F x d c y z
  | .fieldAddr s v f=>uI τ F x d s v f
  | .nilCheck v=>KK F x d v
  | .makeFunc (.func f) first caps=>bif first.isEmpty then BA F x d f caps else none
  | .indexAddr t v i=>oW τ F x d t v i
  | .load t v=>oT τ F x d t v (mem d F.al)
  | .alloc t=>zY τ F x d t
  | .box _ v=>Mr F x d v
  | .buildSlice t n parts=>KL τ F x d t n parts
  | .makeSlice t v y=>Cj τ F x d t v y
  | .build t parts=>uJ τ F x d t parts
  | .call c=>(match c.callee,c.args.toList,c.argTypes.toList with
   | .builtin .append,[v,y],[t,u]=>qH τ F x d t u v y
   | _,_,_=>nS τ F x d o.op)
  | op=>nS τ F x d op)
 | none=>(match o.op with
  | .store t v y=>(match τ t,ev x.sl v,aV (ev x.sl y)with
   | some i, .one (.ptr ob p),some xs=>rV F x i ob p xs
   | some i, .one (.pp l p n j),some xs=>wW F x i l p n j xs
   | _,_,_=>none)
  | _=>none)

/-- The same, without the data. -/
def cOp(τ:TypeId→Option TI)(F:FA)(b:B)(o:Oper):Option B:=
 match o.dst with
 | some d=>(match o.op with
  | .assign v=>PU F b d true v
  | .move v=>bif mem d F.al then Kb F b d v else PU F b d (mem d F.tk) v
  | .extract v k=>Ej F b d k v
  | .pick c y z=>Se F b d c y z
  | .fieldAddr _ v _=>Ol F b d v
  | .nilCheck v=>cNil F b d v
  | .makeFunc (.func _) _ caps=>Sf F b d caps
  | .indexAddr _ v i=>KY F b d v i
  | .load t v=>PW τ F b d t v (mem d F.al) (mem d F.tk)
  | .alloc t=>Ka τ F b d t
  | .box _ v=>cBox F b d v
  | .buildSlice t _ parts=>cLit τ F b d t parts
  | .makeSlice t v y=>PV τ F b d t v y
  | .build t parts=>KZ τ F b d t parts
  | .call c=>(match c.callee,c.args.toList,c.argTypes.toList with
   | .builtin .append,[v,y],[t,_]=>Hf τ F b d t v y
   | _,_,_=>KD F b d o.op)
  | op=>KD F b d op)
 | none=>(match o.op with
  | .store t v y=>(match τ t,pT F v with
   | some i, .one (.ptr ob p)=>Au F b i ob p v y
   | some i, .one (.pp l p _ _)=>(match v with | .tmp tx=>At F b i l p tx y | _=>none)
   | _,_=>none)
  | _=>none)

theorem op_S(hT:bJ P τ)(hA:Ag F b x)(h1:dOp τ F x o=some x')(h2:cOp τ F b o=some b'):OpS P F F.n o b x b' x':=by
 unfold dOp at h1
 unfold cOp at h2
 cases hd:o.dst with
 | none=>
  rw[hd]at h1 h2
  simp only at h1 h2
  split at h1<;>try cases h1
  rename_i t v y ho
  rw[ho]at h2
  split at h1<;>try cases h1
  ·rename_i i ob p xs hi hv hy
   simp only[hi]at h2
   have hk:dX b v=true:=by
    split at h2<;>try cases h2
    ·unfold Au at h2
     obtain⟨hc,_⟩:=aJ h2
     simp only[Bool.and_eq_true]at hc
     exact hc.1.1
    ·split at h2<;>try cases h2
     unfold At at h2
     obtain⟨hc,_⟩:=aJ h2
     simp only[Bool.and_eq_true]at hc
     exact hc.1.1.1.1.1.1.1
   rw[KP hA hk hv]at h2
   exact Pe hT hA hd ho hi hv hy h1 h2
  ·rename_i i l p n j xs hi hv hy
   simp only[hi]at h2
   have hk:dX b v=true:=by
    split at h2<;>try cases h2
    ·unfold Au at h2
     obtain⟨hc,_⟩:=aJ h2
     simp only[Bool.and_eq_true]at hc
     exact hc.1.1
    ·split at h2<;>try cases h2
     unfold At at h2
     obtain⟨hc,_⟩:=aJ h2
     simp only[Bool.and_eq_true]at hc
     exact hc.1.1.1.1.1.1.1
   obtain⟨tv,p',n',rfl,hs⟩:=Qq hA hk hv
   rw[hs]at h2
   simp only at h2
   have hpl:p.length=p'.length:=by
    have hv':x.sl tv= .one (.pp l p n j):=hv
    have hf:=hA.fits (t:=tv) hk (by rw[hv']; simp)
    have hs':F.shOf tv= .one (.pp l p' n' j):=hs
    rw[hv',hs']at hf
    simp only[Own.fits,bZ,Bool.and_eq_true]at hf
    exact Nat.eq_of_beq_eq_true hf.1.2
   exact NH hT hA hd ho hi hv hs hpl hy h1 h2
 | some d=>
  rw[hd]at h1 h2
  simp only at h1 h2
  cases ho:o.op with
  | assign v=>rw[ho]at h1 h2; exact Od hA hd (.inl ho) h1 h2
  | move v=>
   rw[ho]at h1 h2
   simp only at h1 h2
   cases hm:mem d F.al with
   | true=>rw[hm]at h1 h2; exact Qf hA hd ho h1 h2
   | false=>rw[hm]at h1 h2; exact Od hA hd (.inr ho) h1 h2
  | extract v k=>rw[ho]at h1 h2; exact Lz hA hd ho h1 h2
  | pick c y z=>rw[ho]at h1 h2; exact TB hA hd ho h1 h2
  | fieldAddr s v f=>rw[ho]at h1 h2; exact QP hT hA hd ho h1 h2
  | nilCheck v=>rw[ho]at h1 h2; exact nil_S hA hd ho h1 h2
  | makeFunc fn first caps=>
   rw[ho]at h1 h2
   cases fn with
   | func f=>
    simp only at h1 h2
    obtain⟨hf,h1⟩:=aJ h1
    have:first= #[]:=by simpa using hf
    subst this
    exact TQ hA hd ho h1 h2
   | _=>simp only[nS,kM]at h1; cases h1
  | indexAddr t v i=>rw[ho]at h1 h2; exact QJ hT hA hd ho h1 h2
  | load t v=>rw[ho]at h1 h2; exact TL hT hA hd ho h1 h2
  | alloc t=>rw[ho]at h1 h2; exact Qe hT hA hd ho h1 h2
  | box t v=>rw[ho]at h1 h2; exact box_S hA hd ho h1 h2
  | buildSlice t n parts=>rw[ho]at h1 h2; exact lit_S hT hA hd ho h1 h2
  | makeSlice t v y=>rw[ho]at h1 h2; exact TJ hT hA hd ho h1 h2
  | build t parts=>rw[ho]at h1 h2; exact Qa hT hA hd ho h1 h2
  | call c=>
   rw[ho]at h1 h2
   simp only at h1 h2
   split at h1
   ·rename_i v y t u e1 e2 e3
    simp only[e1,e2,e3]at h2
    refine OG hT hA hd ?_ h1 h2
    obtain⟨cal,args,tys⟩:=c
    simp only at e1 e2 e3
    subst e1
    rw[ho]
    congr 2
    ·exact Array.ext' e2
    ·exact Array.ext' e3
   ·rename_i hn
    have h2':KD F b d (.call c)=some b':=by
     split at h2
     ·rename_i v y t u e1 e2 e3; exact absurd e3 (hn v y t u e1 e2)
     ·exact h2
    exact OW hT hA hd (by rw[ho]; exact h1) (by rw[ho]; exact h2')
  | _=>rw[ho]at h1 h2; exact OW hT hA hd (by rw[ho]; exact h1) (by rw[ho]; exact h2)
/-! ### shut to turning -/
def B.freeze(F:FA)(b:B)(l:Loc):B:=b.setf F (fun m=>decide (m=l)) (fun m q=>if m=l then .F else q)
def B.frz(F:FA)(b:B):List Loc→B
 | []=>b
 | l::r=>(bif l.place&&(b.kd l).hold then(b.freeze F l).nrm F else b).frz F r

theorem Nn{n:Nat}(hA:Ag F b x){l:Loc}(hp:l.place=true)(hk:(b.kd l).hold=true):Ag F ((b.freeze F l).nrm F) x∧ ∀ {g0:G} {w0:World} {a:Act} {w:World},Sim g0 w0 (b.S n x) a w→Sim g0 w0 (((b.freeze F l).nrm F).S n x) a w:=by
 have hA1:Ag F (b.freeze F l) x:=hA.setf _ _
 refine⟨hA1.nrm,fun {g0 w0 a w} hs=> ?_⟩
 obtain⟨g,hs⟩:=hs
 have h1:=hs.freeze hp (by show b.kd l≠ .D∧b.kd l≠ .V; constructor<;>(intro e; rw[e]at hk; simp [K.hold]at hk))
 exact⟨_,h1.relax ((jU hA (Low.self n b x) (by simp [Ne.symm (Loc.place_ne hp).1]) (fun m _ _=>cZ _) (fun i _ _ hf=>hf)).le hA1)⟩

theorem PR{n:Nat}: ∀(L:List Loc) {b:B},Ag F b x→Ag F (b.frz F L) x∧ ∀ {g0:G} {w0:World} {a:Act} {w:World},Sim g0 w0 (b.S n x) a w→Sim g0 w0 ((b.frz F L).S n x) a w
 | [],b,hA=>⟨hA,fun hs=>hs⟩
 | l::r,b,hA=>by
  show Ag F ((bif l.place&&(b.kd l).hold then(b.freeze F l).nrm F else b).frz F r) x∧ ∀ {g0:G} {w0:World} {a:Act} {w:World},_→Sim g0 w0 (((bif l.place&&(b.kd l).hold then(b.freeze F l).nrm F else b).frz F r).S n x) a w
  cases hc:(l.place&&(b.kd l).hold)with
  | true=>
   simp only[Bool.and_eq_true]at hc
   obtain⟨h1,h2⟩:=Nn (n:=n) hA hc.1 hc.2
   obtain⟨h3,h4⟩:=PR (n:=n) r h1
   exact⟨h3,fun hs=>h4 (h2 hs)⟩
  | false=>exact PR r hA
end
end Go.Own

/- Into a call. -/
namespace Go.Own
open Go.RowKit

def DA(vs:List V)(ob:List (List T)):D:= { sl:=fun i=>vs.getD i (.one .junk),ob:=fun o=>if par≤o then ob[o - par]? else none }
def DR(r:V)(io:Option T)(ob:List (List T))(nw:Option (List T)):D:=
  { sl:=fun i=>match i with | 0=>r | 1=>(match io with | some t=> .one (.c t) | none=> .one .junk) | _=> .one .junk
    ob:=fun o=>if par≤o then ob[o - par]? else if o=0 then nw else none }

/-- A function's kinds: what goes in, what comes out; io: the value that is turned in place; ext: what it shares is shut to turning. -/
structure Sg where
  bi:B
  bo:B
  np:Nat
  io:Option Nat:=none
  ext:Bool:=true
  no:Nat:=0

def oX(P:Program)(n:Result Next)(R:Value→World→Prop):Prop:=
  match n with
  | .ok (.value v) w=>R v w
  | .ok (.enter f args) w=>Calls P f args w (fun e w'=> ∃v,e= .returned v∧R v w')
  | _=>False

/-- The function's contract. -/
def TC(P:Program)(f:FuncId)(sg:Sg)(vs:List V)(ob:List (List T))(r:V)(io:Option T)(ob':List (List T))(nw:Option (List T)):Prop:=
  ∀g w (us:Array Value),bS g w (sg.bi.S sg.np (DA vs ob)) ⟨us,[]⟩ g w→oX P ((callFunc f us).run P w) (fun u w'=> ∃g',bS g w (sg.bo.S 2 (DR r io ob' nw)) ⟨#[u,us.getD (sg.io.getD 0) undef],[]⟩ g' w')

/-! ### names -/
def nG(os:List Nat)(o:Nat):Option Nat:=if o∈os then some (par+os.idxOf o)else none
def KH(os:List Nat)(o:Nat):Option Nat:=if par≤o then os[o - par]? else none

def zZ(ρ:Nat→Option Nat):List (Nat×Nat)→Option (List (Nat×Nat))
  | []=>some []
  | c::r=>(ρ c.1).bind fun o=>(zZ ρ r).map fun r'=>(o,c.2)::r'

def W.to(ρ:Nat→Option Nat):W→W
  | .ptr o off=>((ρ o).map fun o'=>W.ptr o' off).getD .junk
  | .fn f caps=>((zZ ρ caps).map fun c=>W.fn f c).getD .junk
  | .al _ _=> .junk
  | .pp _ _ _ _=> .junk
  | w=>w
def V.to(ρ:Nat→Option Nat):V→V
  | .one w=> .one (w.to ρ)
  | .tup ws=> .tup (ws.map (W.to ρ))

theorem LT{g g':G}{ρ:Nat→Option Nat}(hβ: ∀o o',ρ o=some o'→g'.β o'=g.β o): ∀ {l l':List (Nat×Nat)},zZ ρ l=some l'→
    l.map (fun c=>Value.pointer (some ⟨g.β c.1,c.2,none⟩))=l'.map (fun c=>Value.pointer (some ⟨g'.β c.1,c.2,none⟩))
  | [],l',h=>by simp only[zZ,Option.some.injEq]at h; subst h; rfl
  | c::r,l',h=>by
    simp only[zZ,Option.bind_eq_some_iff,Option.map_eq_some_iff]at h
    obtain⟨o,ho,r',hr,rfl⟩:=h
    simp only[List.map_cons,LT hβ hr,hβ _ _ ho]

theorem V.to_root{ρ:Nat→Option Nat}{x:V}:aG (x.to ρ)= .none:=by
  cases x with
  | tup ws=>rfl
  | one w=>cases w with
    | ptr o off=>simp only[V.to,W.to]; cases ρ o<;>rfl
    | fn f caps=>simp only[V.to,W.to]; cases zZ ρ caps<;>rfl
    | _=>rfl

/-- A value under other names, its cells' kinds others. -/
theorem RW.to{g g':G}{w w':World}{κ κ':Nat→K}{l l':Nat→Loc}{v:Value}{x:W}{ρ:Nat→Option Nat}(hβ: ∀o o',ρ o=some o'→g'.β o'=g.β o)
    (hleaf: ∀j t u,x.leaf j=some t→Er v j=some u→mC u→LF g w (κ j) (l j) u t→LF g' w' (κ' j) (l' j) u t)(hcp: ∀xs,x= .cp xs→ ∀b off,CpR g w (κ 0) b off xs→CpR g' w' (κ' 0) b off xs)
    (h:RW g w κ l v x):RW g' w' κ' l' v (x.to ρ):=by
  cases x with
  | junk=>trivial
  | c y=>exact⟨h.1,hleaf 0 y v rfl (iZ h.1).1 h.1 h.2⟩
  | ag xs=>
    obtain⟨cs,rfl,h2,h3⟩:=h
    refine⟨cs,rfl,h2,fun j x hx=> ?_⟩
    obtain⟨c,c1,c2,c3⟩:=h3 j x hx
    exact⟨c,c1,c2,hleaf j x c hx c1 c2 c3⟩
  | ptr o off=>
    simp only[W.to]
    cases hρ:ρ o with
    | none=>trivial
    | some o'=>
      show v=_
      rw[hβ o o' hρ]; exact h
  | cp xs=>
    obtain⟨b,off,h1,h2⟩:=h
    exact⟨b,off,h1,hcp xs rfl b off h2⟩
  | pp _ _ _ _=>trivial
  | al _ _=>trivial
  | nilp=>exact h
  | ifc b=>exact h
  | fn f caps=>
    simp only[W.to]
    cases hρ:zZ ρ caps with
    | none=>trivial
    | some c=>
      show v=_
      rw[←LT hβ hρ]; exact h

theorem RV.to{g g':G}{w w':World}{κ κ':Nat→Nat→K}{l l':Nat→Nat→Loc}{v:Value}{x:V}{ρ:Nat→Option Nat}(hβ: ∀o o',ρ o=some o'→g'.β o'=g.β o)
    (hleaf: ∀k j t u,x.leaf k j=some t→pK v k j=some u→mC u→LF g w (κ k j) (l k j) u t→LF g' w' (κ' k j) (l' k j) u t)(hcp: ∀k xs,x.comp k=some (.cp xs)→ ∀b off,CpR g w (κ k 0) b off xs→CpR g' w' (κ' k 0) b off xs)
    (h:RV g w κ l v x):RV g' w' κ' l' v (x.to ρ):=by
  cases x with
  | one y=>
    refine RW.to (κ:=κ 0) (l:=l 0) hβ (fun j t u h1 h2 h3 h4=>hleaf 0 j t u h1 ?_ h3 h4) (fun xs e b off hc=>hcp 0 xs (by rw[e]; rfl) b off hc) h
    obtain⟨u2,q1,q2,_⟩:=RW.leaf (show RW g w (κ 0) (l 0) v y from h) h1
    rw[h2]at q1; cases q1; exact q2
  | tup ws=>
    obtain⟨vs,rfl,h2,h3⟩:=h
    refine⟨vs,rfl,by simpa using h2,fun k x hx=> ?_⟩
    rw[List.getElem?_map]at hx
    obtain⟨y,hy,rfl⟩:=Option.map_eq_some_iff.1 hx
    obtain⟨u,hu,hR⟩:=h3 k y hy
    exact⟨u,hu,RW.to (κ:=κ k) (l:=l k) hβ (fun j t u' h1 h2 h4 h5=>hleaf k j t u' (by simp [V.leaf,hy,h1]) (by simp [pK,hu,h2]) h4 h5) (fun xs e b off hc=>hcp k xs (by simp only[V.comp]; rw[hy,e]) b off hc) hR⟩

/-! ### into a call -/
/-- The place among the callee's values that takes slot t's blocks. -/
def Ck(xs:List Operand)(t:Nat):Option Nat:=if xs.any (uU t)then some (xs.findIdx (uU t))else none

def pJ(ext:Bool):Loc:=if ext then .ext else .none
def gT(sg:Sg)(xs:List Operand)(os:List Nat):Loc→Loc
  | .s t k j=>match Ck xs t with | some i=>if(sg.bi.kd (.s i k j)).hold then .s i k j else pJ sg.ext | none=>pJ sg.ext
  | .obj o=>match nG os o with | some i=> .obj i | none=> .ext
  | .oc o j=>match nG os o with | some i=>if(sg.bi.kd (.oc i j)).hold then .oc i j else pJ sg.ext | none=>pJ sg.ext
  | .none=> .none
  | .ext=>pJ sg.ext

open Classical in
/-- The ghost of a call: Fp the blocks that are turned in place. -/
noncomputable def G.into (g:G) (sg:Sg) (xs:List Operand) (os:List Nat) (Fp:Nat→Prop):G:=
  { β:=fun oc=>((KH os oc).map g.β).getD 0,own:=fun b=>if Fp b then .s (sg.io.getD 0) 0 0 else gT sg xs os (g.own b) }

theorem Ir{os:List Nat}(hn:os.Nodup){oc o:Nat}(h:KH os oc=some o):nG os o=some oc∧par≤oc∧os[oc - par]? =some o:=by
  simp only[KH]at h
  split at h
  · rename_i hp
    have hm:o∈os:=List.mem_of_getElem? h
    have hlt:oc - par<os.length:=cD h
    have:os.idxOf o=oc - par:=by
      rw[List.getElem?_eq_getElem hlt]at h
      have h:=Option.some.inj h
      subst h
      exact hn.idxOf_getElem _ hlt
    refine⟨?_,hp,h⟩
    simp only[nG,if_pos hm,this]
    exact congrArg some (Nat.add_sub_of_le hp)
  · cases h

theorem Ee{os:List Nat}{oc o:Nat}(h:nG os o=some oc):KH os oc=some o:=by
  simp only[nG]at h
  split at h
  · rename_i hm
    have h:=Option.some.inj h
    have h1:par≤oc:=by rw[←h]; exact Nat.le_add_right _ _
    have h2:oc - par=os.idxOf o:=by rw[←h]; exact Nat.add_sub_cancel_left _ _
    simp only[KH]
    rw[if_pos h1,h2]
    rw[List.getElem?_eq_getElem (List.idxOf_lt_length_of_mem hm)]
    simp
  · cases h

/-- May a place of kind c be handed in where kind q is wanted: take: it goes along. -/
def K.hand(ext:Bool)(c q:K):Bool:=match q with
  | .D=>true
  | .F=>if ext then c.cp.lo .F else !(decide (c= .D))
  | .V=> !(decide (c= .D))
  | .S=>c.lo .S
  | .N=>c.lo .N
  | q=>ext&&c.lo q

theorem BE(ext:Bool)(o:Nat):pJ ext≠ .obj o:=by unfold pJ; split<;>simp

/-- What a place owes the caller and what the callee's place owes. -/
theorem LF.hand{g gi:G}{w:World}{ext:Bool}{c q:K}{l l':Loc}{v:Value}{x:T}(hok:GOk g w)(hl:l.place=true)(h:LF g w c l v x)(hh:c.hand ext q=true)
    (hZ: ∀b,g.own b= .none→gi.own b= .none)(hN:ext=false→ ∀b,(∀o,g.own b≠ .obj o)→gi.own b= .none)(hA: ∀b,(∀o,g.own b≠ .obj o)→ ∀o,gi.own b≠ .obj o)(hm:q.hold=true→ ∀b,g.own b=l→gi.own b=l'):LF gi w q l' v x:=by
  have hfrz: ∀b,frz g w b→frz gi w b:=fun b hb=>⟨hb.1,hZ b hb.2⟩
  have hall: ∀b,all g w b→all gi w b:=fun b hb=>⟨hb.1,hA b hb.2⟩
  have hrd:c≠ .D→Rd (all g w) w v x:=fun hc=>h.rd hok hl hc
  have hhold:q.hold=true→c.lo q=true→LF gi w q l' v x:=fun hq hlo=>(h.lo hok hl hlo).moved (hm hq) hZ hall
  cases q with
  | D=>exact fun hs=>(LF.scal (g':=gi) (w':=w) (κ':= .D) (l':=l') h hs (by simp)) hs
  | F=>
    simp only[K.hand]at hh
    cases ext with
    | true=>
      simp only[if_true]at hh
      have:LF g w .F l v x:=(h.cp hok hl (l':=l)).lo hok hl hh
      exact Rd.weaken hfrz this
    | false=>
      have hc:c≠ .D:=by simpa using hh
      exact Rd.weaken (fun b hb=>⟨hb.1,hN rfl b hb.2⟩) (hrd hc)
  | V=>
    have hc:c≠ .D:=by simpa [K.hand]using hh
    exact Rd.weaken hall (hrd hc)
  | S=>
    have:=h.lo hok hl (κ':= .S) hh
    exact this
  | N=>
    have:=h.lo hok hl (κ':= .N) hh
    exact this
  | A n=>
    simp only[K.hand,Bool.and_eq_true]at hh
    exact hhold rfl hh.2
  | U n=>
    simp only[K.hand,Bool.and_eq_true]at hh
    exact hhold rfl hh.2

theorem CpR.hand{g gi:G}{w:World}{ext:Bool}{c q:K}{b off:Nat}{xs:List T}(h:CpR g w c b off xs)(hh:c.hand ext q=true)
    (hZ: ∀b,g.own b= .none→gi.own b= .none)(hN:ext=false→ ∀b,(∀o,g.own b≠ .obj o)→gi.own b= .none)(hA: ∀b,(∀o,g.own b≠ .obj o)→ ∀o,gi.own b≠ .obj o)(hq:q= .D∨q= .F∨q= .V):CpR gi w q b off xs:=by
  have hfrz: ∀b,frz g w b→frz gi w b:=fun b hb=>⟨hb.1,hZ b hb.2⟩
  have hall: ∀b,all g w b→all gi w b:=fun b hb=>⟨hb.1,hA b hb.2⟩
  rcases hq with rfl | rfl | rfl
  · trivial
  · simp only[K.hand]at hh
    cases ext with
    | true=>
      simp only[if_true]at hh
      cases c with
      | F=>exact⟨hfrz _ h.1,fun j x hx=>by obtain⟨c,h1,h2⟩:=h.2 j x hx; exact⟨c,h1,h2.weaken hfrz⟩⟩
      | D=>simp [K.cp,K.lo]at hh
      | V=>simp [K.cp,K.lo]at hh
      | _=>exact h.elim
    | false=>
      have hc:c≠ .D:=by simpa using hh
      have h':=h.toV hc
      have hw: ∀b,all g w b→frz gi w b:=fun b hb=>⟨hb.1,hN rfl b hb.2⟩
      exact⟨hw _ h'.1,fun j x hx=>by obtain⟨c,h1,h2⟩:=h'.2 j x hx; exact⟨c,h1,h2.weaken hw⟩⟩
  · have hc:c≠ .D:=by simpa [K.hand]using hh
    have h':=h.toV hc
    exact⟨hall _ h'.1,fun j x hx=>by obtain⟨c,h1,h2⟩:=h'.2 j x hx; exact⟨c,h1,h2.weaken hall⟩⟩
end Go.Own

/- Into a call: the callee's state. -/
namespace Go.Own
open Go.RowKit

/-- What an argument has to be. -/
def Ie(st:St)(sg:Sg)(xs:List Operand)(i:Nat):Operand→Prop
 | .tmp t=>match st.sl t with
  | .one (.al l _)=>l≠ .none∧st.fl (.s t 0 0)≠ .D∧K.V.hand sg.ext (sg.bi.kd (.s i 0 0))=true
  | .one (.pp _ _ _ _)=>True
  | _=>(∀k j,(st.fl (.s t k j)).hand sg.ext (sg.bi.kd (.s i k j))=true∧((sg.bi.kd (.s i k j)).hold=true→Ck xs t=some i))∧ ∀k zs,(st.sl t).comp k=some (.cp zs)→sg.bi.kd (.s i k 0)= .D∨sg.bi.kd (.s i k 0)= .F∨sg.bi.kd (.s i k 0)= .V
 | .const c=> ∀k j,(gF (bG c) k j).hand sg.ext (sg.bi.kd (.s i k j))=true
 | _=>True

theorem MD(c:Value)(k:Nat)(xs:List T):(bG c).comp k≠some (.cp xs):=by
 have key: ∀w,(∀ys,w≠W.cp ys)→(V.one w).comp k≠some (.cp xs):=fun w hw=>by
  cases k with
  | zero=>simp only[V.comp]; intro e; exact hw xs (Option.some.inj e)
  | succ k=>simp [V.comp]
 unfold bG
 (repeat' split)<;>exact key _ (by simp)

theorem gV{g:G}{sg:Sg}{xs:List Operand}{os:List Nat}{Fp:Nat→Prop}{b:Nat}(h: ¬ Fp b):(g.into sg xs os Fp).own b=gT sg xs os (g.own b):=by
 simp only[G.into]; rw[if_neg h]

theorem Lw{sg:Sg}{xs:List Operand}{os:List Nat}(he:sg.ext=false)(hh: ∀l,(sg.bi.kd l).hold=false){l:Loc}(hl: ∀o,l≠ .obj o):gT sg xs os l= .none:=by
 have hr:pJ sg.ext= .none:=by rw[he]; rfl
 cases l with
 | obj o=>exact absurd rfl (hl o)
 | none=>rfl
 | ext=>exact hr
 | s t k j=>
  simp only[gT]
  split
  ·rw[if_neg (by rw[hh]; simp)]; exact hr
  ·exact hr
 | oc o j=>
  simp only[gT]
  split
  ·rw[if_neg (by rw[hh]; simp)]; exact hr
  ·exact hr

theorem Lv{sg:Sg}{xs:List Operand}{os:List Nat}{l:Loc}(hl: ∀o,l≠ .obj o)(o:Nat):gT sg xs os l≠ .obj o:=by
 cases l with
 | obj o=>exact absurd rfl (hl o)
 | none=>simp [gT]
 | ext=>exact BE _ _
 | s t k j=>
  simp only[gT]
  (repeat' split)<;>first | exact BE _ _ | simp
 | oc o j=>
  simp only[gT]
  (repeat' split)<;>first | exact BE _ _ | simp

theorem TP{ext:Bool}{q:K}(h:K.V.hand ext q=true):q.hold=false:=by
 cases q<;>first | rfl | (simp [K.hand,K.lo]at h)

theorem QL{ext:Bool}{c q:K}(hc:c= .S∨c= .N)(h:c.hand ext q=true):c.lo q=true:=by
 rcases hc with rfl | rfl<;>cases q<;>cases ext<;>simp_all [K.hand,K.lo,K.cp]

theorem bS.enter{g0:G}{w0:World}{st:St}{a:Act}{g:G}{w:World}(h:bS g0 w0 st a g w){sg:Sg}{xs:List Operand}{caps:List (Nat×Nat)}{os:List Nat}{Fp:Nat→Prop}{vs:List V}{ob:List (List T)}(hos:os.Nodup)(hnp:sg.np=vs.length)(hle:sg.np≤par)
  (hFp: ∀b,Fp b→(g.own b).place=true)(hno:sg.ext=false→(∀l,(sg.bi.kd l).hold=false)∧ ∀b, ¬ Fp b)
  (hFm: ∀t i k j,Ck xs t=some i→(sg.bi.kd (.s i k j)).hold=true→ ∀b,g.own b= .s t k j→ ¬ Fp b)(hFo: ∀o oc j,nG os o=some oc→(sg.bi.kd (.oc oc j)).hold=true→ ∀b,g.own b= .oc o j→ ¬ Fp b)
  (hvs:vs=xs.map (fun v=>(evR st v).to (nG os))++caps.map (fun c=>(V.one (.ptr c.1 c.2)).to (nG os)))(hob:ob.map some=os.map st.ob)
  (harg: ∀(i:Nat) v,xs[i]? =some v→sg.io≠some i→Ie st sg xs i v)(hobk: ∀o oc j,nG os o=some oc→(st.fl (.oc o j)).hand sg.ext (sg.bi.kd (.oc oc j))=true)
  (hio: ∀(i:Nat) v,xs[i]? =some v→sg.io=some i→RV (g.into sg xs os Fp) w (fun k j=>sg.bi.kd (.s i k j)) (fun k j=> .s i k j) (a.eval v) ((evR st v).to (nG os))):
  bS (g.into sg xs os Fp) w (sg.bi.S sg.np (DA vs ob)) ⟨(xs.map a.eval++caps.map fun c=>Value.pointer (some ⟨g.β c.1,c.2,none⟩)).toArray,[]⟩ (g.into sg xs os Fp) w:=by
 have hβ: ∀o o',nG os o=some o'→(g.into sg xs os Fp).β o'=g.β o:=fun o o' ho=>by simp [G.into,Ee ho]
 have hZ: ∀b,g.own b= .none→(g.into sg xs os Fp).own b= .none:=fun b hb=>by
  rw[gV (fun hf=>by have:=hFp b hf; rw[hb]at this; cases this),hb]; rfl
 have hN:sg.ext=false→ ∀b,(∀o,g.own b≠ .obj o)→(g.into sg xs os Fp).own b= .none:=fun he b hb=>by
  obtain⟨h1,h2⟩:=hno he
  rw[gV (h2 b)]
  exact Lw he h1 hb
 have hA: ∀b,(∀o,g.own b≠ .obj o)→ ∀o,(g.into sg xs os Fp).own b≠ .obj o:=fun b hb o=>by
  by_cases hf:Fp b
  ·simp only[G.into]; rw[if_pos hf]; simp
  ·rw[gV hf]; exact Lv hb o
 refine⟨oY.refl _ _,⟨fun b hb=>h.ok.own b (fun e=>hb (hZ b e))⟩, ?_,rfl,fun i=> ?_,fun oc cells hc=> ?_,fun i hi hf=> ?_,fun _ _=>rfl,hle⟩
 ·simp [B.S,hnp,hvs]
 ·show RV _ w (fun k j=>sg.bi.kd (.s i k j)) _ ((xs.map a.eval++caps.map fun c=>Value.pointer (some ⟨g.β c.1,c.2,none⟩)).toArray.getD i undef) (if sg.bi.has i=true then vs.getD i (.one .junk)else .one .junk)
  by_cases hhas:sg.bi.has i=true
  ·rw[if_pos hhas,hvs]
   simp only[Array.getD_eq_getD_getElem?,List.getElem?_toArray,List.getD_eq_getElem?_getD,List.getElem?_append,List.getElem?_map,List.length_map]
   split
   ·cases hx:xs[i]? with
    | none=>trivial
    | some v=>
     simp only[Option.map_some,Option.getD_some]
     by_cases hi:sg.io=some i
     ·exact hio i v hx hi
     ·have ha:=harg i v hx hi
      cases v with
      | tmp t=>
       have hs:=h.slots t
       simp only[Ie]at ha
       show RV _ w _ _ (a.tmps.getD t undef) ((vQ st.sl st.ob (st.sl t)).to (nG os))
       have plain:(∀l p,st.sl t≠ .one (.al l p))→((∀k j,(st.fl (.s t k j)).hand sg.ext (sg.bi.kd (.s i k j))=true∧((sg.bi.kd (.s i k j)).hold=true→Ck xs t=some i))∧ ∀k zs,(st.sl t).comp k=some (.cp zs)→sg.bi.kd (.s i k 0)= .D∨sg.bi.kd (.s i k 0)= .F∨sg.bi.kd (.s i k 0)= .V)→
         RV (g.into sg xs os Fp) w (fun k j=>sg.bi.kd (.s i k j)) (fun k j=> .s i k j) (a.tmps.getD t undef) ((vQ st.sl st.ob (st.sl t)).to (nG os)):=fun hna ha=>by
        have e:vQ st.sl st.ob (st.sl t)=st.sl t:=by
         cases hsl:st.sl t with
         | tup ws=>rfl
         | one y=>cases y<;>first | rfl | exact absurd hsl (hna _ _)
        rw[e]
        refine hs.to hβ (fun k j z u hz hu hn hf=> ?_) (fun k zs hz b off hc=>hc.hand (ext:=sg.ext) (ha.1 k 0).1 hZ hN hA (ha.2 k zs hz))
        refine hf.hand h.ok rfl (ha.1 k j).1 hZ hN hA (fun hq b hb=> ?_)
        have har:=(ha.1 k j).2 hq
        rw[gV (hFm t i k j har hq b hb),hb]
        simp only[gT,har]
        rw[if_pos hq]
       cases hsl:st.sl t with
       | tup ws=>rw[hsl]at ha plain; exact plain (by simp) ha
       | one y=>
        rw[hsl]at ha plain
        cases y with
        | al l p=>
         obtain⟨h1,h2,h3⟩:=ha
         have hp:=h.pls t (by rw[hsl]; exact h1) h2
         rw[hsl]at hp
         obtain⟨hk,v0,x0,x',e1,e2,e3⟩:=hp
         have e2':atL st.sl st.ob l=some x0:=e2
         have e:vQ st.sl st.ob (.one (.al l p))= .one (.c x'):=by simp [vQ,e2',e3.nav]
         rw[e]
         have hrd:=h.pl_rd hk e1 e2 e3
         refine⟨hrd.not_agg, ?_⟩
         have:LF g w .V (.s t 0 0) (a.tmps.getD t undef) x':=hrd
         refine this.hand h.ok rfl h3 hZ hN hA (fun hq=> ?_)
         exact absurd hq (by rw[TP h3]; simp)
        | pp l p a b=>trivial
        | _=>exact plain (by simp) ha
      | const c=>
       have hs:=sA g w (fun k j=>Loc.s i k j) c
       show RV _ w _ _ c ((vQ st.sl st.ob (bG c)).to (nG os))
       have e:vQ st.sl st.ob (bG c)=bG c:=by unfold bG; (repeat' split)<;>rfl
       rw[e]
       refine hs.to hβ (fun k j z u hz hu hn hf=> ?_) (fun k zs hz=>absurd hz (MD c k zs))
       have hq:=ha k j
       -- a constant owes nobody
       have hk:gF (bG c) k j= .S∨gF (bG c) k j= .N:=by
        unfold gF
        split
        ·split
         ·exact .inl rfl
         ·exact .inr rfl
        ·exact .inl rfl
       have h2:LF (g.into sg xs os Fp) w (gF (bG c) k j) (.s i k j) u z:=by
        rcases hk with e | e
        ·rw[e]at hf ⊢; exact hf
        ·rw[e]at hf ⊢; exact hf
       have hlo:(gF (bG c) k j).lo (sg.bi.kd (.s i k j))=true:=QL hk hq
       exact h2.lo ⟨fun b hb=>h.ok.own b (fun e=>hb (hZ b e))⟩ rfl hlo
      | func f=>rfl
      | global n=>trivial
   ·cases hx:caps[i - xs.length]? with
    | none=>trivial
    | some c=>
     simp only[Option.map_some,Option.getD_some]
     exact RV.to (g:=g) (w:=w) (κ:=fun _ _=> .D) (l:=fun _ _=> .none) (x:= .one (.ptr c.1 c.2)) hβ (fun k j t u hx=>by cases k<;>simp [V.leaf,W.leaf]at hx) (fun k xs hx=>by cases k<;>simp [V.comp]at hx) rfl
  ·rw[if_neg hhas]; trivial
 ·have hc':(if sg.bi.hasO oc=true then(DA vs ob).ob oc else none)=some cells:=hc
  split at hc'<;>try cases hc'
  simp only[DA]at hc'
  split at hc'<;>try cases hc'
  rename_i hhas hp
  have h1:(os.map st.ob)[oc - par]? =some (some cells):=by rw[←hob,List.getElem?_map,hc']; rfl
  rw[List.getElem?_map,Option.map_eq_some_iff]at h1
  obtain⟨o,ho,h1⟩:=h1
  have hout:KH os oc=some o:=by simp [KH,hp,ho]
  obtain⟨hinn,_,_⟩:=Ir hos hout
  obtain⟨arr,ty,k1,k2,k3,k4⟩:=h.obs o cells h1
  have hb:(g.into sg xs os Fp).β oc=g.β o:=by simp [G.into,hout]
  rw[hb]
  refine⟨arr,ty,k1,k2, ?_,fun j x hx=> ?_⟩
  ·rw[gV (fun hf=>by have:=hFp _ hf; rw[k3]at this; cases this),k3]
   simp only[gT,hinn]
  ·obtain⟨c,c1,c2,c3⟩:=k4 j x hx
   refine⟨c,c1,c2, ?_⟩
   show LF _ w (sg.bi.kd (.oc oc j)) _ c x
   refine c3.hand h.ok rfl (hobk o oc j hinn) hZ hN hA (fun hq b hb=> ?_)
   rw[gV (hFo o oc j hinn hq b hb),hb]
   simp only[gT,hinn]
   rw[if_pos hq]
 ·exfalso
  apply hi
  show aG (if sg.bi.has i=true then vs.getD i (.one .junk)else .one .junk)= .none
  split
  ·rw[hvs,List.getD_eq_getElem?_getD,List.getElem?_append]
   simp only[List.getElem?_map,List.length_map]
   split
   ·cases xs[i]? with
    | none=>rfl
    | some v=>exact V.to_root
   ·cases caps[i - xs.length]? with
    | none=>rfl
    | some c=>exact V.to_root (ρ:=nG os) (x:= .one (.ptr c.1 c.2))
  ·rfl
end Go.Own

/- Out of a call. -/
namespace Go.Own
open Go.RowKit

def Cf(nd:Option Nat)(v:V):V:=match nd with | some d=>v.kill d | none=>v

/-- Names behind a call: what was handed in, and one new object (0 to the callee). -/
def uZ(os:List Nat)(nd:Option Nat)(oc:Nat):Option Nat:=if par≤oc then os[oc - par]? else if oc=0 then nd else none
def oM(os:List Nat)(nd:Option Nat)(o:Nat):Option Nat:=if o∈os then some (par+os.idxOf o)else if nd=some o then some 0 else none

theorem EL: ¬ par≤0:=by unfold par; omega

theorem Nj{os:List Nat}{nd:Option Nat}{oc o:Nat}(h:oM os nd o=some oc):uZ os nd oc=some o:=by
  simp only[oM]at h
  split at h
  · rename_i hm
    have:=Ee (os:=os) (o:=o) (oc:=oc) (by simp only[nG]; rw[if_pos hm]; exact h)
    simp only[KH]at this
    simp only[uZ]
    split at this
    · rename_i hp; rw[if_pos hp]; exact this
    · cases this
  · split at h
    · rename_i h1
      have h:=Option.some.inj h
      subst h
      simp only[uZ]
      rw[if_neg EL]; simpa using h1
    · cases h

theorem BO{os:List Nat}{nd:Option Nat}{o:Nat}(h:oM os nd o=none):nG os o=none∧nd≠some o:=by
  simp only[oM]at h
  split at h
  · cases h
  · rename_i hm
    split at h
    · cases h
    · rename_i h1
      exact⟨by simp only[nG,if_neg hm],h1⟩

/-- A kind of the callee's to the caller. -/
def K.back(ext:Bool)(q:K):K:=match q with
  | .V=> .D
  | .F=>if ext then .F else .V
  | .A s=>if ext then .A s else .V
  | q=>q

def qZ(d nd:Option Nat)(os:List Nat):Loc→Bool
  | .s i _ _=>decide (d=some i)
  | .oc o _=>(oM os nd o).isSome
  | _=>false

/-- The state behind a call: d the slot of the result, nd the new object's name, os the objects handed in. -/
def St.call(st:St)(d nd:Option Nat)(os:List Nat)(ext:Bool)(bo:B)(y:D):St:=
  { n:=st.n
    sl:=fun i=>if d=some i then(y.sl 0).to (uZ os nd)else Cf nd (st.sl i)
    ob:=fun o=>match oM os nd o with | some oc=>(if bo.hasO oc then y.ob oc else none) | none=>st.ob o
    fl:=fun l=>match l with
      | .s i k j=>if d=some i then(bo.kd (.s 0 k j)).back ext else if k=0∧j=0∧qZ d nd os (aG (st.sl i))=true then .D else st.fl (.s i k j)
      | .oc o j=>match oM os nd o with | some oc=>(bo.kd (.oc oc j)).back ext | none=>st.fl (.oc o j)
      | l=>st.fl l }

def IT(d:Option Nat)(ρ:Nat→Option Nat)(iol:Loc):Loc→Loc
  | .s i k j=>if i=0 then(match d with | some d=> .s d k j | none=> .ext)else if i=1 then iol else .ext
  | .obj oc=>match ρ oc with | some o=> .obj o | none=> .ext
  | .oc oc j=>match ρ oc with | some o=> .oc o j | none=> .ext
  | .none=> .none
  | .ext=> .ext

def eG:Loc→Bool
  | .none=>true
  | .ext=>true
  | _=>false
theorem GU{l:Loc}:eG l=true↔nQ l:=by cases l<;>simp [eG,nQ]

/-- The ghost behind a call. -/
def G.back(g gc gc':G)(w:World)(d nd:Option Nat)(os:List Nat)(iol:Loc):G:=
  { β:=fun o=>if nd=some o then gc'.β 0 else g.β o
    own:=fun b=>if eG (gc'.own b)then(if b<w.heap.size∧eG (gc.own b)=true then g.own b else gc'.own b)else IT d (uZ os nd) iol (gc'.own b) }

theorem Jk{nd:Option Nat}{x:V}{k j:Nat}:(Cf nd x).leaf k j=x.leaf k j:=by
  cases nd with
  | none=>rfl
  | some d=>exact V.kill_leaf
theorem Jj{nd:Option Nat}{x:V}:aG (Cf nd x)=aG x:=by
  cases nd with
  | none=>rfl
  | some d=>exact V.kill_root

theorem mV(a:Act)(d:Option Nat)(u:Value)(i:Nat)(h:d≠some i):(a.put d u).tmps.getD i undef=a.tmps.getD i undef:=by
  cases d with
  | none=>rfl
  | some d=>
    simp only[Act.put,Array.getD_eq_getD_getElem?]
    rw[Array.getElem?_setIfInBounds_ne (fun e=>h (by rw[e]))]

/-- What a place of the callee's owes, to the caller. -/
theorem LF.back{g' gb:G}{w':World}{ext:Bool}{q:K}{l l':Loc}{v:Value}{x:T}(hok:GOk g' w')(hl:l.place=true)(hl':l'.place=true)(h:LF g' w' q l v x)(hm: ∀b,g'.own b=l→gb.own b=l')
    (hA: ∀b,frz g' w' b→all gb w' b)(hZ:ext=true→ ∀b,frz g' w' b→gb.own b= .none):LF gb w' (q.back ext) l' v x:=by
  have hD:LF gb w' .D l' v x:=fun hs=>LF.scal (g':=gb) (w':=w') (κ':= .D) (l':=l') h hs (by simp) hs
  have hF: ∀b,g'.own b=l→all gb w' b:=fun b hb=>⟨hok.own b (by rw[hb]; exact(Loc.place_ne hl).1),fun o=>by rw[hm b hb]; exact(Loc.place_ne hl').2.2 o⟩
  cases q with
  | D=>exact hD
  | V=>exact hD
  | F=>
    cases ext with
    | true=>exact Rd.weaken (fun b hb=>⟨hb.1,hZ rfl b hb⟩) h
    | false=>exact Rd.weaken hA h
  | A n=>
    cases ext with
    | true=>exact Ow.mono h id (fun _ b hb=>⟨⟨hb.1,hZ rfl b hb⟩,rfl⟩) (fun b hb=>⟨hm b hb,rfl⟩)
    | false=>exact Ow.rd h hF hA
  | U n=>exact Ow.mono h id (fun e=>by cases e) (fun b hb=>⟨hm b hb,rfl⟩)
  | S=>exact h
  | N=>exact h

theorem CpR.back{g' gb:G}{w':World}{ext:Bool}{q:K}{b off:Nat}{xs:List T}(h:CpR g' w' q b off xs)(hA: ∀b,frz g' w' b→all gb w' b)(hZ:ext=true→ ∀b,frz g' w' b→gb.own b= .none):CpR gb w' (q.back ext) b off xs:=by
  cases q with
  | D=>trivial
  | V=>trivial
  | F=>
    cases ext with
    | true=>exact⟨⟨h.1.1,hZ rfl _ h.1⟩,fun j x hx=>by obtain⟨c,h1,h2⟩:=h.2 j x hx; exact⟨c,h1,h2.weaken fun b hb=>⟨hb.1,hZ rfl b hb⟩⟩⟩
    | false=>exact⟨hA _ h.1,fun j x hx=>by obtain⟨c,h1,h2⟩:=h.2 j x hx; exact⟨c,h1,h2.weaken hA⟩⟩
  | A n=>exact h.elim
  | U n=>exact h.elim
  | S=>exact h.elim
  | N=>exact h.elim

theorem bS.leave{g0:G}{w0:World}{st:St}{a:Act}{g:G}{w:World}(hs:bS g0 w0 st a g w){sg:Sg}{xs:List Operand}{os:List Nat}{Fp:Nat→Prop}{g':G}{w':World}{y:D}{us:Array Value}{v:Value}{d nd:Option Nat}{iol:Loc}
    (hos:os.Nodup)(hd: ∀i,d=some i→i<st.n)(hnd: ∀o,nd=some o→o<par∧o ∉ os)(hFp: ∀b,Fp b→(g.own b).place=true)(hiol:iol≠ .none∧ ∀o,iol≠ .obj o)
    (hc:bS (g.into sg xs os Fp) w (sg.bo.S 2 y) ⟨us,[]⟩ g' w')(hv:us.getD 0 undef=v)(hb0:sg.bo.has 0=true)
    (hhold: ∀m x,(st.fl m).hold=true→st.at m=some x→eG (gT sg xs os m)=true∧ ∀b,g.own b=m→ ¬ Fp b)(hV:(∀m,st.fl m≠ .V)∨(∀l,(sg.bi.kd l).hold=false)∧ ∀b, ¬ Fp b):
    bS g0 w0 (st.call d nd os sg.ext sg.bo y) (a.put d v) (g.back (g.into sg xs os Fp) g' w d nd os iol) w':=by
  -- what is foreign to the callee is as it was
  have hfor: ∀b,b<w.heap.size→eG ((g.into sg xs os Fp).own b)=true→g'.own b=(g.into sg xs os Fp).own b∧(g.back (g.into sg xs os Fp) g' w d nd os iol).own b=g.own b∧w'.heap[b]? =w.heap[b]? :=fun b hb hf=>by
    obtain⟨h1,h2⟩:=hc.framed.evo.keep b hb (fun hx=>hx (GU.1 hf))
    refine⟨h1, ?_,h2⟩
    simp only[G.back]
    rw[h1,if_pos hf,if_pos ⟨hb,hf⟩]
  have hinto: ∀b,nQ (g.own b)→eG ((g.into sg xs os Fp).own b)=true∧(g.own b= .none→(g.into sg xs os Fp).own b= .none):=fun b hb=>by
    have hn: ¬ Fp b:=fun hf=>by
      have:=hFp b hf
      rcases hb with h | h<;>(rw[h]at this; cases this)
    rw[gV hn]
    rcases hb with h | h
    · rw[h]; exact⟨rfl,fun _=>rfl⟩
    · rw[h]
      refine⟨?_,fun e=>by cases e⟩
      simp only[gT,pJ]; split<;>rfl
  have hF:oY g w (g.back (g.into sg xs os Fp) g' w d nd os iol) w':=by
    refine⟨hc.framed.os,hc.framed.tape,hc.framed.output,hc.framed.evo.size,fun b hb hX=> ?_⟩
    have hf:nQ (g.own b):=Classical.not_not.1 hX
    obtain⟨_,h2,h3⟩:=hfor b hb (hinto b hf).1
    exact⟨h2,h3⟩
  have hobjn: ∀o,nG os o=none→ ∀b,g.own b= .obj o→eG ((g.into sg xs os Fp).own b)=true:=fun o ho b hb=>by
    have hn: ¬ Fp b:=fun hf=>by have:=hFp b hf; rw[hb]at this; cases this
    rw[gV hn,hb]
    simp only[gT,ho]; rfl
  have hback: ∀b,eG (g'.own b)=false→(g.back (g.into sg xs os Fp) g' w d nd os iol).own b=IT d (uZ os nd) iol (g'.own b):=fun b hb=>by
    simp only[G.back]; rw[if_neg (by rw[hb]; simp)]
  have hplace: ∀b l,g'.own b=l→l.place=true→(g.back (g.into sg xs os Fp) g' w d nd os iol).own b=IT d (uZ os nd) iol l:=fun b l hb hl=>by
    rw[←hb]
    exact hback b (by rw[hb]; cases l<;>simp_all [eG,Loc.place])
  -- what is shut to turning there
  have hfz: ∀b,frz g' w' b→all (g.back (g.into sg xs os Fp) g' w d nd os iol) w' b∧(sg.ext=true→(g.back (g.into sg xs os Fp) g' w d nd os iol).own b= .none):=fun b hb=>by
    have hf:eG (g'.own b)=true:=by rw[hb.2]; rfl
    have e:(g.back (g.into sg xs os Fp) g' w d nd os iol).own b=if b<w.heap.size∧eG ((g.into sg xs os Fp).own b)=true then g.own b else .none:=by
      simp only[G.back]; rw[if_pos hf,hb.2]
    by_cases ho:b<w.heap.size∧eG ((g.into sg xs os Fp).own b)=true
    · rw[if_pos ho]at e
      obtain⟨h1,_,_⟩:=hfor b ho.1 ho.2
      rw[hb.2]at h1
      have hn: ¬ Fp b:=fun hf=>by
        simp only[G.into]at h1
        rw[if_pos hf]at h1; cases h1
      rw[gV hn]at h1
      have hno: ∀o,g.own b≠ .obj o:=fun o eo=>by
        rw[eo]at h1
        simp only[gT]at h1
        split at h1<;>cases h1
      refine⟨⟨hb.1,fun o=>by rw[e]; exact hno o⟩,fun he=> ?_⟩
      rw[e]
      cases hg:g.own b with
      | none=>rfl
      | ext=>rw[hg]at h1; simp [gT,pJ,he]at h1
      | obj o=>exact absurd hg (hno o)
      | s t k j=>
        rw[hg]at h1
        simp only[gT,pJ,he]at h1
        (repeat' split at h1)<;>simp_all
      | oc o j=>
        rw[hg]at h1
        simp only[gT,pJ,he]at h1
        (repeat' split at h1)<;>simp_all
    · rw[if_neg ho]at e
      exact⟨⟨hb.1,fun o=>by rw[e]; simp⟩,fun _=>e⟩
  -- names
  have hβ1: ∀o,nd≠some o→(g.back (g.into sg xs os Fp) g' w d nd os iol).β o=g.β o:=fun o h=>by simp only[G.back,if_neg h]
  have hβ2: ∀oc o,uZ os nd oc=some o→(g.back (g.into sg xs os Fp) g' w d nd os iol).β o=g'.β oc:=by
    intro oc o h
    simp only[uZ]at h
    split at h
    · rename_i hp
      have hm:o∈os:=List.mem_of_getElem? h
      have h2:=hc.bp oc hp
      have h3:(g.into sg xs os Fp).β oc=g.β o:=by simp [G.into,KH,hp,h]
      rw[hβ1 o (fun e=>(hnd o e).2 hm),h2,h3]
    · split at h
      · rename_i h0
        subst h0
        simp only[G.back,if_pos h]
      · cases h
  -- a caller's place, as it was
  have hkeep: ∀m,m.place=true→(∀b,g.own b=m→eG ((g.into sg xs os Fp).own b)=true)→ ∀b,g.own b=m→(g.back (g.into sg xs os Fp) g' w d nd os iol).own b=m∧w'.heap[b]? =w.heap[b]? :=fun m hm h b hb=>by
    have hlt:b<w.heap.size:=hs.ok.own b (by rw[hb]; exact(Loc.place_ne hm).1)
    obtain⟨_,h2,h3⟩:=hfor b hlt (h b hb)
    exact⟨h2.trans hb,h3⟩
  have hZ: ∀b,frz g w b→frz (g.back (g.into sg xs os Fp) g' w d nd os iol) w' b∧w'.heap[b]? =w.heap[b]? :=fun b hb=>by
    obtain⟨_,h2,h3⟩:=hfor b hb.1 (hinto b (.inl hb.2)).1
    exact⟨⟨Nat.lt_of_lt_of_le hb.1 hc.framed.evo.size,h2.trans hb.2⟩,h3⟩
  have hVk:(∃m,st.fl m= .V)→ ∀b,all g w b→all (g.back (g.into sg xs os Fp) g' w d nd os iol) w' b∧w'.heap[b]? =w.heap[b]? :=fun⟨m,hm⟩ b hb=>by
    rcases hV with h | ⟨h1,h2⟩
    · exact absurd hm (h m)
    · have hf:eG ((g.into sg xs os Fp).own b)=true:=by
        rw[gV (h2 b)]
        cases hg:g.own b with
        | obj o=>exact absurd hg (hb.2 o)
        | none=>rfl
        | ext=>simp only[gT,pJ]; split<;>rfl
        | s t k j=>
          simp only[gT]
          have hr:eG (pJ sg.ext)=true:=by unfold pJ; split<;>rfl
          split
          · rw[if_neg (by rw[h1]; simp)]; exact hr
          · exact hr
        | oc o j=>
          simp only[gT]
          have hr:eG (pJ sg.ext)=true:=by unfold pJ; split<;>rfl
          split
          · rw[if_neg (by rw[h1]; simp)]; exact hr
          · exact hr
      obtain⟨_,q2,q3⟩:=hfor b hb.1 hf
      exact⟨⟨Nat.lt_of_lt_of_le hb.1 hc.framed.evo.size,fun o=>by rw[q2]; exact hb.2 o⟩,q3⟩
  have hlf: ∀m x u,st.at m=some x→LF g w (st.fl m) m u x→LF (g.back (g.into sg xs os Fp) g' w d nd os iol) w' (st.fl m) m u x:=fun m x u hm hf=>by
    have hmp:=eF hm
    have hown:(st.fl m).hold=true→ ∀b,g.own b=m→(g.back (g.into sg xs os Fp) g' w d nd os iol).own b=m∧w'.heap[b]? =w.heap[b]? :=fun hk=>by
      obtain⟨q1,q2⟩:=hhold m x hk hm
      exact hkeep m hmp (fun b hb=>by rw[gV (q2 b hb),hb]; exact q1)
    cases hκ:st.fl m with
    | D=>rw[hκ]at hf; exact fun hsc=>(hf hsc).scal hsc
    | V=>rw[hκ]at hf; exact Rd.mono (hVk ⟨m,hκ⟩) hf
    | F=>rw[hκ]at hf; exact Rd.mono hZ hf
    | A n=>rw[hκ]at hf; exact Ow.mono hf id (fun _=>hZ) (hown (by rw[hκ]; rfl))
    | U n=>rw[hκ]at hf; exact Ow.mono hf id (fun _=>hZ) (hown (by rw[hκ]; rfl))
    | S=>rw[hκ]at hf; exact⟨hf.1,hf.2.scal hf.1⟩
    | N=>rw[hκ]at hf; exact hf
  have hcpr: ∀i k zs b off,(st.sl i).comp k=some (.cp zs)→CpR g w (st.fl (.s i k 0)) b off zs→CpR (g.back (g.into sg xs os Fp) g' w d nd os iol) w' (st.fl (.s i k 0)) b off zs:=fun i k zs b off _ hr=>by
    have key: ∀ {Q Q':Nat→Prop},(∀b,Q b→Q' b∧w'.heap[b]? =w.heap[b]?)→(Q b∧ ∀(j:Nat) x,zs[j]? =some x→ ∃c,w.cell? ⟨b,off+j,none⟩=some c∧Rd Q w c x)→(Q' b∧ ∀(j:Nat) x,zs[j]? =some x→ ∃c,w'.cell? ⟨b,off+j,none⟩=some c∧Rd Q' w' c x):=by
      rintro Q Q' hq ⟨h1,h2⟩
      refine⟨(hq b h1).1,fun j x hx=> ?_⟩
      obtain⟨c,hc,hr⟩:=h2 j x hx
      exact⟨c,(bV (hq b h1).2).trans hc,hr.mono hq⟩
    cases hκ:st.fl (.s i k 0)with
    | D=>trivial
    | V=>rw[hκ]at hr; exact key (hVk ⟨_,hκ⟩) hr
    | F=>rw[hκ]at hr; exact key hZ hr
    | _=>rw[hκ]at hr; exact hr.elim
  have hput: ∀i,d=some i→(a.put d v).tmps.getD i undef=v:=by
    intro i e
    subst e
    have hlt:i<a.tmps.size:=by rw[hs.size]; exact hd i rfl
    rw[Act.put_getD a i v i hlt,if_pos rfl]
  have hβk: ∀o,nd≠some o→(g.back (g.into sg xs os Fp) g' w d nd os iol).β o=g.β o:=hβ1
  -- an object of the caller's own
  have hobj: ∀o,oM os nd o=none→ ∀cells,st.ob o=some cells→(g.back (g.into sg xs os Fp) g' w d nd os iol).own (g.β o)= .obj o∧w'.heap[g.β o]? =w.heap[g.β o]? :=fun o hi cells hcl=>by
    obtain⟨hi1,_⟩:=BO hi
    obtain⟨arr,ty,_,_,k3,_⟩:=hs.obs o cells hcl
    have hlt:g.β o<w.heap.size:=hs.ok.own _ (by rw[k3]; simp)
    obtain⟨_,q2,q3⟩:=hfor _ hlt (hobjn o hi1 _ k3)
    exact⟨q2.trans k3,q3⟩
  refine⟨hs.framed.trans hF,⟨fun b hb=> ?_⟩, ?_, ?_,fun i=> ?_,fun o cells hcl=> ?_,fun i hi hf=> ?_,fun o ho=>(hβ1 o (fun e=>by have:=(hnd o e).1; omega)).trans (hs.bp o ho),hs.nle⟩
  · by_cases hlt:b<w.heap.size
    · exact Nat.lt_of_lt_of_le hlt hc.framed.evo.size
    · refine hc.ok.own b (fun e=>hb ?_)
      simp only[G.back]
      rw[e,if_pos (show eG Loc.none=true from rfl),if_neg (fun h=>hlt h.1)]
  · cases d with
    | none=>exact hs.size
    | some d=>simp only[Act.put,Array.size_setIfInBounds]; exact hs.size
  · cases d<;>exact hs.defers
  · -- a slot
    show RV _ w' (fun k j=>if d=some i then(sg.bo.kd (.s 0 k j)).back sg.ext else if k=0∧j=0∧qZ d nd os (aG (st.sl i))=true then .D else st.fl (.s i k j)) _ ((a.put d v).tmps.getD i undef) (if d=some i then(y.sl 0).to (uZ os nd)else Cf nd (st.sl i))
    by_cases e:d=some i
    · simp only[if_pos e]
      rw[hput i e]
      have hr:=hc.slots 0
      have hr:RV g' w' (fun k j=>sg.bo.kd (.s 0 k j)) (fun k j=> .s 0 k j) (us.getD 0 undef) (y.sl 0):=by
        have h2:(sg.bo.S 2 y).sl 0=y.sl 0:=qL hb0
        rw[h2]at hr; exact hr
      rw[hv]at hr
      refine hr.to hβ2 (fun k j t u _ _ _ hf=> ?_) (fun k zs _ b off hq=>hq.back (fun b hb=>(hfz b hb).1) (fun he b hb=>(hfz b hb).2 he))
      refine hf.back hc.ok rfl rfl (fun b hb=> ?_) (fun b hb=>(hfz b hb).1) (fun he b hb=>(hfz b hb).2 he)
      rw[hplace b _ hb rfl]
      simp only[IT,if_true,e]
    · simp only[if_neg e]
      rw[mV a d v i e]
      have hs1:=hs.slots i
      have hfl: ∀k j t,(st.sl i).leaf k j=some t→(if k=0∧j=0∧qZ d nd os (aG (st.sl i))=true then K.D else st.fl (.s i k j))=st.fl (.s i k j):=fun k j t ht=>by
        rw[if_neg]
        rintro ⟨rfl,rfl,h3⟩
        rw[tU (st:=st) (i:=i) (x:=t) ht]at h3
        cases h3
      have hflc: ∀k zs,(st.sl i).comp k=some (.cp zs)→(if k=0∧0=0∧qZ d nd os (aG (st.sl i))=true then K.D else st.fl (.s i k 0))=st.fl (.s i k 0):=fun k zs hz=>by
        rw[if_neg]
        rintro ⟨rfl,_,h3⟩
        cases hsl:st.sl i with
        | one w=>rw[hsl]at hz h3; simp only[V.comp,Option.some.injEq]at hz; subst hz; cases h3
        | tup ws=>rw[hsl]at h3; cases h3
      have plain:(∀o o',o=o'→nd≠some o→(g.back (g.into sg xs os Fp) g' w d nd os iol).β o'=g.β o):=fun o o' e h=>by subst e; exact hβ1 o h
      rcases Option.eq_none_or_eq_some nd with hn | ⟨z,hn⟩
      · have ek:Cf nd (st.sl i)=st.sl i:=by rw[hn]; rfl
        rw[ek]
        exact hs1.map (fun o=>hβ1 o (by rw[hn]; simp)) (fun k j t u ht _ _ hf=>by rw[hfl k j t ht]; exact hlf (.s i k j) t u ht hf) (fun k zs hz b off hq=>by rw[hflc k zs hz]; exact hcpr i k zs b off hz hq)
      · have ek:Cf nd (st.sl i)=(st.sl i).kill z:=by rw[hn]; rfl
        rw[ek]
        exact RV.kill (fun o ho=>hβ1 o (by rw[hn]; simpa using Ne.symm ho)) (fun k j t u ht _ _ hf=>by rw[hfl k j t ht]; exact hlf (.s i k j) t u ht hf) (fun k zs hz b off hq=>by rw[hflc k zs hz]; exact hcpr i k zs b off hz hq) hs1
  · -- an object
    have hcl':(match oM os nd o with | some oc=>(if sg.bo.hasO oc then y.ob oc else none) | none=>st.ob o)=some cells:=hcl
    cases hi:oM os nd o with
    | some oc=>
      rw[hi]at hcl'
      have ho:=Nj hi
      obtain⟨arr,ty,k1,k2,k3,k4⟩:=hc.obs oc cells hcl'
      rw[hβ2 oc o ho]
      refine⟨arr,ty,k1,k2, ?_,fun j x hx=> ?_⟩
      · rw[hback _ (by rw[k3]; rfl),k3]; simp only[IT,ho]
      · obtain⟨c,c1,c2,c3⟩:=k4 j x hx
        refine⟨c,c1,c2, ?_⟩
        have e1:(st.call d nd os sg.ext sg.bo y).fl (.oc o j)=(sg.bo.kd (.oc oc j)).back sg.ext:=by simp only[St.call,hi]
        rw[e1]
        refine LF.back (l:= .oc oc j) hc.ok rfl rfl c3 (fun b hb=> ?_) (fun b hb=>(hfz b hb).1) (fun he b hb=>(hfz b hb).2 he)
        rw[hplace b _ hb rfl]; simp only[IT,ho]
    | none=>
      rw[hi]at hcl'
      have hcl':st.ob o=some cells:=hcl'
      obtain⟨hi1,hi2⟩:=BO hi
      obtain⟨arr,ty,k1,k2,k3,k4⟩:=hs.obs o cells hcl'
      obtain⟨m1,m2⟩:=hobj o hi cells hcl'
      rw[hβ1 o hi2]
      refine⟨arr,ty,m2.trans k1,k2,m1,fun j x hx=> ?_⟩
      obtain⟨c,c1,c2,c3⟩:=k4 j x hx
      refine⟨c,c1,c2, ?_⟩
      have e1:(st.call d nd os sg.ext sg.bo y).fl (.oc o j)=st.fl (.oc o j):=by simp only[St.call,hi]
      rw[e1]
      exact hlf (.oc o j) x c (by rw[St.at_oc,hcl']; exact hx) c3
  · -- a place's part
    have hsl:(st.call d nd os sg.ext sg.bo y).sl i=if d=some i then(y.sl 0).to (uZ os nd)else Cf nd (st.sl i):=rfl
    rw[hsl]at hi ⊢
    by_cases e:d=some i
    · rw[if_pos e]at hi; exact absurd V.to_root hi
    · rw[if_neg e]at hi ⊢
      rw[Jj]at hi ⊢
      have hfe:(st.call d nd os sg.ext sg.bo y).fl (.s i 0 0)=if qZ d nd os (aG (st.sl i))=true then .D else st.fl (.s i 0 0):=by simp only[St.call,if_neg e,true_and]
      rw[hfe]at hf
      have hri:qZ d nd os (aG (st.sl i))=false:=by
        cases h:qZ d nd os (aG (st.sl i))with
        | false=>rfl
        | true=>rw[h]at hf; exact absurd rfl hf
      rw[hri]at hf
      simp only[Bool.false_eq_true,if_false]at hf
      obtain⟨p1,p2⟩:=hs.pls i hi hf
      obtain⟨t,ht⟩:=p2.root hi
      rw[mV a d v i e]
      have hkill:Dm (st.call d nd os sg.ext sg.bo y) (a.put d v).tmps (g.back (g.into sg xs os Fp) g' w d nd os iol).β w' (a.tmps.getD i undef) (st.sl i)∧((st.call d nd os sg.ext sg.bo y).fl (aG (st.sl i))).hold=true:=by
        have hheap:=hlf
        have hpl: ∀v0 x0 p v' x',vAt a.tmps g.β w (aG (st.sl i))=some v0→st.at (aG (st.sl i))=some x0→Pl w v0 x0 p v' x'→Pl w' v0 x0 p v' x':=fun v0 x0 p v' x' e1 e2 hp=>by
          obtain⟨u,q1,_,q2⟩:=hs.get ht
          rw[e1]at q1; cases q1
          rw[ht]at e2; cases e2
          obtain⟨r1,r2⟩:=hhold _ t p1 ht
          have hown:=hkeep _ (eF ht) (fun b hb=>by rw[gV (r2 b hb),hb]; exact r1)
          generalize st.fl (aG (st.sl i))=κ at p1 q2
          cases κ with
          | A n=>exact Ow.pl q2 (fun b hb=>(hZ b hb).2) (fun b hb=>(hown b hb).2) hp
          | U n=>exact Ow.pl q2 (fun b hb=>(hZ b hb).2) (fun b hb=>(hown b hb).2) hp
          | _=>simp [K.hold]at p1
        generalize hr:aG (st.sl i)=m at*
        cases m with
        | s i' k j=>
          have hne:d≠some i':=by simpa [qZ]using hri
          have hflr:(st.call d nd os sg.ext sg.bo y).fl (.s i' k j)=st.fl (.s i' k j):=by
            simp only[St.call,if_neg hne]
            rw[if_neg]
            rintro ⟨rfl,rfl,h3⟩
            rw[tU ht]at h3; cases h3
          refine⟨p2.congr ?_ ?_ (by rw[hr]; exact hpl),by rw[hflr]; exact p1⟩
          · rw[hr]; simp only[vAt]; rw[mV a d v i' hne]
          · rw[hr]
            show((st.call d nd os sg.ext sg.bo y).sl i').leaf k j=(st.sl i').leaf k j
            simp only[St.call,if_neg hne,Jk]
        | oc o j=>
          have hin:oM os nd o=none:=by simpa [qZ]using hri
          obtain⟨_,hn2⟩:=BO hin
          have hflr:(st.call d nd os sg.ext sg.bo y).fl (.oc o j)=st.fl (.oc o j):=by simp only[St.call,hin]
          obtain⟨cells,hcl,_⟩: ∃cells,st.ob o=some cells∧True:=by
            rw[St.at_oc,Option.bind_eq_some_iff]at ht
            obtain⟨cells,hcl,_⟩:=ht
            exact⟨cells,hcl,trivial⟩
          refine⟨p2.congr ?_ ?_ (by rw[hr]; exact hpl),by rw[hflr]; exact p1⟩
          · rw[hr]; simp only[vAt]; rw[hβ1 o hn2]; exact bV (hobj o hin cells hcl).2
          · rw[hr,St.at_oc,St.at_oc]; simp only[St.call,hin]
        | _=>simp [St.at,atL]at ht
      refine⟨hkill.2, ?_⟩
      -- a killed name is no part of a place
      cases nd with
      | none=>exact hkill.1
      | some z=>exact hkill.1.kill
end Go.Own

/- A call, told of states. -/
namespace Go.Own
open Go.RowKit

/-- One operation, from state to state. -/
def OpW(P:Program)(g0:G)(w0:World)(o:Oper)(st st':St):Prop:= ∀(Q:Exit→Act→World→Prop) (K:Act→World→Prop) a w,Sim g0 w0 st a w→(∀v w',Sim g0 w0 st' (a.put o.dst v) w'→K (a.put o.dst v) w')→o.wp P a w K Q

theorem nY.w{P:Program}{g0:G}{w0:World}{o:Oper}{st st':St}(h:nY P g0 w0 o st st'):OpW P g0 w0 o st st':=by
 intro Q K a w hs hK
 obtain⟨r,w',hr,h⟩:=h a w hs
 unfold Oper.wp
 rw[hr]
 rcases h with⟨v,rfl,h⟩ | ⟨rfl,h⟩
 ·exact hK _ _ h
 ·exact hK _ _ h

theorem OpW.relax{P:Program}{g0:G}{w0:World}{o:Oper}{st s t:St}(h:OpW P g0 w0 o st s)(hle: ∀a w,Sim g0 w0 s a w→Sim g0 w0 t a w):OpW P g0 w0 o st t:=fun Q K a w hs hK=>h Q K a w hs (fun v w' hs'=>hK v w' (hle _ _ hs'))

/-- What is handed over is the caller's no more. -/
def St.drop(st:St)(q:Loc→Bool):St:=st.setf q (fun m=>if q m then .D else st.fl m)

theorem bS.drop{g0:G}{w0:World}{st:St}{a:Act}{g:G}{w:World}(h:bS g0 w0 st a g w)(q:Loc→Bool)(hq:q .none=false):bS g0 w0 (st.drop q) a g w:=by
 refine h.setf hq (fun _=>rfl) h.ok (fun _ _=>rfl) (fun _ _ h=>h) (fun _ h=>h) (fun m x v hx hv hf=> ?_) (fun i k xs b off hcx hc=> ?_) (fun i hi hR hf=> ?_)
 ·by_cases e:q m=true
  ·rw[if_pos e]; exact hf.lo (κ':= .D) h.ok (eF hx) (Fo _)
  ·rw[if_neg e]; exact hf
 ·by_cases e:q (.s i k 0)=true
  ·rw[if_pos e]; trivial
  ·rw[if_neg e]; exact hc
 ·refine⟨fun e=>hf (by split; rfl; exact e),fun hh=> ?_⟩
  rw[if_neg (by rw[hR]; simp)]; exact hh

theorem As{st:St}{q:Loc→Bool}(hq:q .none=false){m:Loc}{x:T}(hx:st.at m=some x):(st.drop q).fl m=if q m=true then .D else st.fl m:=tT (f:=fun m=>if q m=true then K.D else st.fl m) hq hx

def zF(sg:Sg):Bool:=sg.bi.sl.all (fun p=>p.2.all fun r=>r.all fun q=> !q.hold)&&sg.bi.ob.all (fun p=>p.2.all fun q=> !q.hold)

theorem fF{α:Type}{i:Nat}{x:α}: ∀ {l:List (Nat×α)},cG i l=some x→(i,x)∈l
 | [],h=>by cases h
 | (j,a)::r,h=>by
  simp only[cG]at h
  cases e:Nat.beq i j with
  | true=>rw[e]at h; simp only[cond_true,Option.some.injEq]at h; have:=Nat.eq_of_beq_eq_true e; subst this; subst h; exact List.mem_cons_self
  | false=>rw[e]at h; exact List.mem_cons_of_mem _ (fF h)

theorem EV{sg:Sg}(h:zF sg=true)(l:Loc):(sg.bi.kd l).hold=false:=by
 simp only[zF,Bool.and_eq_true]at h
 cases l with
 | s i k j=>
  simp only[B.kd,B.get]
  cases hl:cG i sg.bi.sl with
  | none=>rfl
  | some κ=>
   simp only[zO]
   cases hr:κ[k]? with
   | none=>rfl
   | some r=>
    cases hq:r[j]? with
    | none=>simp [hq,K.hold]
    | some q=>
     have:=List.all_eq_true.1 (List.all_eq_true.1 (List.all_eq_true.1 h.1 _ (fF hl)) r (bE hr)) q (bE hq)
     simp only[hq]
     simpa using this
 | oc o j=>
  simp only[B.kd,B.get]
  cases hl:cG o sg.bi.ob with
  | none=>rfl
  | some r=>
   cases hq:r[j]? with
   | none=>simp [hq,K.hold]
   | some q=>
    have:=List.all_eq_true.1 (List.all_eq_true.1 h.2 _ (fF hl)) q (bE hq)
    simp only[hq]
    simpa using this
 | _=>rfl

def St.pre(st:St)(sg:Sg)(xs:List Operand)(os:List Nat):St:=(if zF sg=true then st else st.killV).drop (fun m=> !(eG (gT sg xs os m))&& !(eG m))

theorem QY{P:Program}{g0:G}{w0:World}{st:St}{o:Oper}{c:Call}{x:Operand}{f:FuncId}{caps:List (Nat×Nat)}{sg:Sg}{vs:List V}{ob ob':List (List T)}{r:V}{nw:Option (List T)}{os:List Nat}{nd:Option Nat}
  (ho:o.op= .call c)(hcal:c.callee= .value x)(hx:ev st.sl x= .one (.fn f caps))(hC:TC P f sg vs ob r none ob' nw)(hsg:sg.io=none)(hd: ∀i,o.dst=some i→i<st.n)(hnd: ∀o,nd=some o→o<par∧o ∉ os)
  (hos:os.Nodup)(hnp:sg.np=vs.length)(hle:sg.np≤par)(hb0:sg.bo.has 0=true)(hno:sg.ext=false→zF sg=true)
  (hvs:vs=c.args.toList.map (fun v=>(evR st v).to (nG os))++caps.map (fun c=>(V.one (.ptr c.1 c.2)).to (nG os)))(hob:ob.map some=os.map st.ob)
  (harg: ∀(i:Nat) v,c.args.toList[i]? =some v→Ie st sg c.args.toList i v)(hobk: ∀o oc j,nG os o=some oc→(st.fl (.oc o j)).hand sg.ext (sg.bi.kd (.oc oc j))=true):
  OpW P g0 w0 o st ((st.pre sg c.args.toList os).call o.dst nd os sg.ext sg.bo (DR r none ob' nw)):=by
 intro Q K a w ⟨g,hs⟩ hK
 have he:=hs.enter (sg:=sg) (xs:=c.args.toList) (caps:=caps) (os:=os) (Fp:=fun _=>False) hos hnp hle (fun _ h=>h.elim) (fun he=>⟨EV (hno he),fun _ h=>h⟩) (fun _ _ _ _ _ _ _ _ h=>h) (fun _ _ _ _ _ _ _ h=>h) hvs hob
  (fun i v hv _=>harg i v hv) hobk (fun i v _ h=>by rw[hsg]at h; cases h)
 have hC:=hC _ _ _ he
 have hfv:a.eval x= .func (.func f) #[] (caps.map fun c=>Value.pointer (some ⟨g.β c.1,c.2,none⟩)).toArray:=by
  have:=hs.ev_rv x (fun _ _=> .none)
  rw[hx]at this
  exact this
 have hrun:(execOp a.eval o).run P w=(callFunc f (c.args.toList.map a.eval++caps.map fun c=>Value.pointer (some ⟨g.β c.1,c.2,none⟩)).toArray).run P w:=by
  obtain⟨dst,op,ty,pos,after,guard⟩:=o
  simp only at ho
  subst ho
  simp only[execOp,resolve,hcal,hfv,Deferred.ofValue,Sem.run_bind,Sem.run_pure,Result.andThen_ok,invoke]
  congr 2
  apply Array.ext'
  simp
 have hq0:(fun m=> !(eG (gT sg c.args.toList os m))&& !(eG m)) Loc.none=false:=by simp [eG]
 have hs2:bS g0 w0 (st.pre sg c.args.toList os) a g w:=by
  unfold St.pre
  by_cases hp:zF sg=true
  ·rw[if_pos hp]; exact hs.drop _ hq0
  ·rw[if_neg hp]; exact hs.killV.drop _ hq0
 have key: ∀v w',(∃g',bS (g.into sg c.args.toList os (fun _=>False)) w (sg.bo.S 2 (DR r none ob' nw)) ⟨#[v,(c.args.toList.map a.eval++caps.map fun c=>Value.pointer (some ⟨g.β c.1,c.2,none⟩)).toArray.getD (sg.io.getD 0) undef],[]⟩ g' w')→
   Sim g0 w0 ((st.pre sg c.args.toList os).call o.dst nd os sg.ext sg.bo (DR r none ob' nw)) (a.put o.dst v) w':=by
  rintro v w' ⟨g',h1⟩
  refine⟨_,hs2.leave (iol:= .ext) hos (by unfold St.pre; split<;>exact hd) hnd (fun _ h=>h.elim) ⟨by simp,by simp⟩ h1 rfl hb0 (fun m z hh hm=>⟨?_,fun _ _ h=>h⟩) ?_⟩
  ·cases hq:eG (gT sg c.args.toList os m)with
   | true=>rfl
   | false=>
    exfalso
    have hmp:eG m=false:=by
     have:=eF hm
     cases m<;>first | rfl | cases this
    have hm1:(if zF sg=true then st else st.killV).at m=some z:=by unfold St.pre at hm; exact hm
    unfold St.pre at hh
    rw[As hq0 hm1,hq,hmp]at hh
    simp [Own.K.hold]at hh
  ·by_cases hp:zF sg=true
   ·exact .inr ⟨EV hp,fun _ h=>h⟩
   ·left
    intro m
    unfold St.pre
    rw[if_neg hp]
    refine oO (fun m=> ?_) m
    split
    ·simp
    ·exact pO st m
 unfold Oper.wp
 rw[hrun]
 revert hC
 generalize (callFunc f _).run P w=r
 intro hC
 unfold oX at hC
 split at hC
 ·exact hK _ _ (key _ _ hC)
 ·rw[Oper.upon_enter]
  refine Calls.mono hC ?_
  rintro e w' ⟨v,rfl,h⟩
  exact hK _ _ (key _ _ h)
 ·exact hC.elim
end Go.Own

/- A call, told without the data. -/
namespace Go.Own
open Go.RowKit

def D.call(x:D)(d nd:Option Nat)(os:List Nat)(y:D):D:=
  { sl:=fun i=>if d=some i then(y.sl 0).to (uZ os nd)else x.sl i
    ob:=fun o=>match oM os nd o with | some oc=>y.ob oc | none=>x.ob o }

def uP(os:List Nat)(nd:Option Nat):List Nat:=os++(match nd with | some o=> [o] | none=> [])
def IB{α:Type}(f:Nat→Option α):List Nat→List (Nat×α)
  | []=> []
  | o::r=>match f o with | some a=>(o,a)::IB f r | none=>IB f r

theorem GO{α:Type}(f:Nat→Option α)(o:Nat): ∀l:List Nat,cG o (IB f l)=if o∈l then f o else none
  | []=>by simp [IB,cG]
  | z::r=>by
    have ih:=GO f o r
    simp only[IB,List.mem_cons]
    cases hf:f z with
    | none=>
      simp only
      rw[ih]
      by_cases e:o=z
      · subst e; simp [hf]
      · simp [e]
    | some a=>
      simp only[cG]
      by_cases e:o=z
      · subst e; simp [hf,Nat.beq_refl]
      · rw[cL e]; simp only[cond_false,ih,e,false_or]

theorem uS{α:Type}(o:Nat): ∀(l r:List (Nat×α)),cG o (l++r)=match cG o l with | some a=>some a | none=>cG o r
  | [],r=>rfl
  | (j,a)::l,r=>by
    simp only[List.cons_append,cG]
    cases Nat.beq o j with
    | true=>rfl
    | false=>exact uS o l r

theorem qC{os:List Nat}{nd:Option Nat}{o:Nat}:(oM os nd o).isSome=true↔o∈uP os nd:=by
  simp only[oM,uP,List.mem_append]
  by_cases h:o∈os
  · simp [h]
  · rw[if_neg h]
    cases nd with
    | none=>simp [h]
    | some z=>
      by_cases e:z=o
      · subst e; simp
      · simp [h,e,Ne.symm e]

/-- The objects' rows behind a call. -/
def Am(sg:Sg)(os:List Nat)(nd:Option Nat)(o:Nat):Option (List K):=match oM os nd o with
  | some oc=>(cG oc sg.bo.ob).map fun r=>r.map (K.back sg.ext)
  | none=>none

def KC(F:FA)(d nd:Option Nat)(os:List Nat)(i:Nat):Bool:= !(decide (d=some i))&& !(qZ d nd os (aG (F.shOf i)))&& !(match nd with | some z=>PD z (F.shOf i) | none=>false)

def B.call(F:FA)(b:B)(d nd:Option Nat)(os:List Nat)(sg:Sg):B:=
  { sl:=(match d with | some d=> [(d,nP (F.shOf d) (fun k j=>(sg.bo.kd (.s 0 k j)).back sg.ext))] | none=> [])++b.sl.filter (fun q=>KC F d nd os q.1)
    ob:=IB (Am sg os nd) (uP os nd)++b.ob.filter (fun q=>(oM os nd q.1).isNone) }

theorem BU{F:FA}{b:B}{d nd:Option Nat}{os:List Nat}{sg:Sg}(i:Nat):cG i (b.call F d nd os sg).sl=if d=some i then some (nP (F.shOf i) (fun k j=>(sg.bo.kd (.s 0 k j)).back sg.ext))else if KC F d nd os i=true then cG i b.sl else none:=by
  simp only[B.call]
  rw[uS,dI (KC F d nd os) i b.sl]
  cases d with
  | none=>simp [cG]
  | some z=>
    simp only[cG]
    by_cases e:i=z
    · subst e; simp [Nat.beq_refl]
    · rw[cL e]; simp [Ne.symm e]

theorem yK{F:FA}{b:B}{d nd:Option Nat}{os:List Nat}{sg:Sg}(o:Nat):cG o (b.call F d nd os sg).ob=match oM os nd o with | some _=>Am sg os nd o | none=>cG o b.ob:=by
  simp only[B.call]
  rw[uS,GO,dI (fun o=>(oM os nd o).isNone) o b.ob]
  cases h:oM os nd o with
  | none=>
    have:o ∉ uP os nd:=fun hm=>by have:=qC.2 hm; rw[h]at this; cases this
    simp [this]
  | some oc=>
    have:o∈uP os nd:=qC.1 (by rw[h]; rfl)
    rw[if_pos this]
    cases Am sg os nd o<;>simp

theorem qN{F:FA}{b:B}{d nd:Option Nat}{os:List Nat}{sg:Sg}{i:Nat}(hi:d≠some i)(h:(b.call F d nd os sg).has i=true):b.has i=true∧KC F d nd os i=true:=by
  simp only[B.has,BU,if_neg hi]at h
  split at h
  · rename_i e; exact⟨h,e⟩
  · cases h

theorem BV{F:FA}{b:B}{d nd:Option Nat}{os:List Nat}{sg:Sg}{o:Nat}:(b.call F d nd os sg).hasO o=match oM os nd o with | some oc=>sg.bo.hasO oc | none=>b.hasO o:=by
  simp only[B.hasO,yK]
  cases h:oM os nd o with
  | none=>rfl
  | some oc=>
    simp only[Am,h]
    cases cG oc sg.bo.ob<;>rfl

/-- The data behind a call have their shapes. -/
def bH(F:FA)(x:D)(d nd:Option Nat)(os:List Nat):Bool:=(match d with | some d=>fits (x.sl d) (F.shOf d) | none=>true)&&(uP os nd).all fun o=>match x.ob o with | some cs=>eU cs (F.obOf o) | none=>false

section
variable {P:Program} {τ:TypeId→Option TI} {F:FA} {o:Oper} {b b':B} {x x':D}

theorem Ag.call(hA:Ag F b x){d nd:Option Nat}{os:List Nat}{sg:Sg}{y:D}(h:bH F (x.call d nd os y) d nd os=true):Ag F (b.call F d nd os sg) (x.call d nd os y):=by
  simp only[bH,Bool.and_eq_true]at h
  refine⟨fun i hi=> ?_,fun o ho=> ?_⟩
  · by_cases e:d=some i
    · subst e
      exact .inr h.1
    · have:=hA.sl i (qN e hi).1
      simpa [D.call,e]using this
  · rw[BV]at ho
    cases hi:oM os nd o with
    | some oc=>
      have hm:o∈uP os nd:=qC.1 (by rw[hi]; rfl)
      have:=List.all_eq_true.1 h.2 o hm
      split at this
      · rename_i cs hcs; exact⟨cs,hcs,this⟩
      · cases this
    | none=>
      rw[hi]at ho
      obtain⟨cs,h1,h2⟩:=hA.ob o ho
      exact⟨cs,by simp only[D.call,hi]; exact h1,h2⟩

theorem JI{n:Nat}{s:St}(hA:Ag F b x)(h:Low n b x s){d nd:Option Nat}{os:List Nat}{sg:Sg}{y:D}(hf: ∀i,d=some i→fits ((y.sl 0).to (uZ os nd)) (F.shOf i)=true):
    Low n (b.call F d nd os sg) (x.call d nd os y) (s.call d nd os sg.ext sg.bo y):=by
  have hroot: ∀i,d≠some i→(b.call F d nd os sg).has i=true→qZ d nd os (aG (s.sl i))=false∧Cf nd (s.sl i)=s.sl i:=fun i e hi=>by
    obtain⟨h1,h2⟩:=qN e hi
    simp only[KC,Bool.and_eq_true,Bool.not_eq_true']at h2
    rw[h.sl i h1]
    rcases hA.sl i h1 with e2 | e2
    · rw[e2]
      refine⟨rfl, ?_⟩
      cases nd<;>rfl
    · rw[cV e2]
      refine⟨h2.1.2, ?_⟩
      cases nd with
      | none=>rfl
      | some z=>exact GK (GX e2 h2.2)
  have hkd: ∀i k j,d≠some i→(b.call F d nd os sg).has i=true→(b.call F d nd os sg).kd (.s i k j)=b.kd (.s i k j):=fun i k j e hi=>by
    simp only[B.kd,B.get,BU,if_neg e,(qN e hi).2,if_true]
  have hkd0: ∀i k j,d=some i→(b.call F d nd os sg).get (.s i k j)=zO (nP (F.shOf i) (fun k j=>(sg.bo.kd (.s 0 k j)).back sg.ext)) k j:=fun i k j e=>by
    simp only[B.get,BU,if_pos e]
  have hfl: ∀i k j,d≠some i→(b.call F d nd os sg).has i=true→(s.call d nd os sg.ext sg.bo y).fl (.s i k j)=s.fl (.s i k j):=fun i k j e hi=>by
    simp only[St.call,if_neg e]
    rw[if_neg]
    rintro ⟨_,_,h3⟩
    rw[(hroot i e hi).1]at h3; cases h3
  have hfl0: ∀i k j,d=some i→(s.call d nd os sg.ext sg.bo y).fl (.s i k j)=(sg.bo.kd (.s 0 k j)).back sg.ext:=fun i k j e=>by simp only[St.call,if_pos e]
  refine⟨h.n,fun i hi=> ?_,fun o ho=> ?_,fun l t hL ht=> ?_,fun i k zs hi hx=> ?_,fun i hi hr hk=> ?_⟩
  · by_cases e:d=some i
    · simp only[St.call,D.call,if_pos e]
    · simp only[St.call,D.call,if_neg e]
      rw[(hroot i e hi).2]
      exact h.sl i (qN e hi).1
  · rw[BV]at ho
    cases hi:oM os nd o with
    | some oc=>
      rw[hi]at ho
      have ho:sg.bo.hasO oc=true:=ho
      simp only[St.call,D.call,hi]
      rw[if_pos ho]
    | none=>
      rw[hi]at ho
      simp only[St.call,D.call,hi]
      exact h.ob o ho
  · cases l with
    | s i k j=>
      by_cases e:d=some i
      · have ht':((y.sl 0).to (uZ os nd)).leaf k j=some t:=by simpa [D.at,atL,D.call,e]using ht
        rw[hfl0 i k j e]
        simp only[B.kd,hkd0 i k j e]
        rw[zM (hf i e) _ ht']
        exact cZ _
      · rw[hfl i k j e hL,hkd i k j e hL]
        exact h.fl (.s i k j) t (qN e hL).1 (by simpa [D.at,atL,D.call,e]using ht)
    | oc o j=>
      have hL':(b.call F d nd os sg).hasO o=true:=hL
      rw[BV]at hL'
      cases hi:oM os nd o with
      | some oc=>
        have e1:(s.call d nd os sg.ext sg.bo y).fl (.oc o j)=(sg.bo.kd (.oc oc j)).back sg.ext:=by simp only[St.call,hi]
        rw[e1]
        have e2:(b.call F d nd os sg).get (.oc o j)=(sg.bo.get (.oc oc j)).map (K.back sg.ext):=by
          simp only[B.get,yK,hi,Am]
          cases cG oc sg.bo.ob with
          | none=>rfl
          | some r=>simp only[Option.map_some,List.getElem?_map]
        simp only[B.kd,e2]
        cases sg.bo.get (.oc oc j)with
        | none=>exact Fo _
        | some q=>exact cZ _
      | none=>
        rw[hi]at hL'
        have e1:(s.call d nd os sg.ext sg.bo y).fl (.oc o j)=s.fl (.oc o j):=by simp only[St.call,hi]
        have e2:(b.call F d nd os sg).kd (.oc o j)=b.kd (.oc o j):=by simp only[B.kd,B.get,yK,hi]
        rw[e1,e2]
        exact h.fl (.oc o j) t hL' (by simpa [D.at,atL,D.call,hi]using ht)
    | _=>cases hL
  · by_cases e:d=some i
    · have hx':((y.sl 0).to (uZ os nd)).comp k=some (.cp zs):=by simpa [D.call,e]using hx
      rw[hfl0 i k 0 e]
      simp only[B.kd,hkd0 i k 0 e]
      rw[Dz (hf i e) _ hx']
      exact cZ _
    · rw[hfl i k 0 e hi,hkd i k 0 e hi]
      exact h.cp i k zs (qN e hi).1 (by simpa [D.call,e]using hx)
  · by_cases e:d=some i
    · exfalso
      apply hr
      simp only[D.call,if_pos e]
      exact V.to_root
    · rw[hfl i 0 0 e hi]
      rw[hkd i 0 0 e hi]at hk
      exact h.al i (qN e hi).1 (by simpa [D.call,e]using hr) hk

def JM(sg:Sg)(xs:List Operand)(os:List Nat)(m:Loc):Bool:= !(eG (gT sg xs os m))&& !(eG m)
def B.pre(F:FA)(b:B)(sg:Sg)(xs:List Operand)(os:List Nat):B:=(if zF sg=true then b else b.killV F).setf F (JM sg xs os) (fun m q=>if JM sg xs os m=true then .D else q)

theorem Ix{n:Nat}{m:Loc}(hm:(b.killV F).hasL m=true):(b.killV F).kd m= .D∨(b.killV F).kd m=(b.S n x).killV.fl m:=by
  have e:(b.S n x).killV.fl m=if b.kd m= .V then .D else b.kd m:=by
    cases m with
    | s i k j=>simp only[St.killV,St.setf]; rw[if_neg (by simp)]; rfl
    | _=>rfl
  rw[e]
  have hg:(b.killV F).get m=(b.get m).map fun q=>if q= .V then .D else q:=AD hm
  unfold B.kd
  rw[hg]
  cases b.get m with
  | none=>exact .inl rfl
  | some q=>exact .inr rfl

theorem Ag.pre(hA:Ag F b x)(sg:Sg)(xs:List Operand)(os:List Nat):Ag F (b.pre F sg xs os) x:=by
  unfold B.pre
  split
  · exact hA.setf _ _
  · exact Ag.setf (hA.setf _ _) _ _

theorem Kp{n:Nat}(hA:Ag F b x)(sg:Sg)(xs:List Operand)(os:List Nat):Low n (b.pre F sg xs os) x ((b.S n x).pre sg xs os):=by
  have h0:JM sg xs os .none=false:=by simp [JM,eG]
  have hA1:Ag F (b.killV F) x:=hA.setf _ _
  unfold B.pre St.pre St.drop
  by_cases hp:zF sg=true
  · rw[if_pos hp,if_pos hp]
    exact jU (R:=JM sg xs os) (f:=fun m=>if JM sg xs os m=true then .D else(b.S n x).fl m) hA (Low.self n b x) h0 (fun m _ _=>cZ _) (fun i _ _ hf=>hf)
  · rw[if_neg hp,if_neg hp]
    refine jU (b:=b.killV F) (s:=(b.S n x).killV) (R:=JM sg xs os) (f:=fun m=>if JM sg xs os m=true then .D else(b.S n x).killV.fl m) hA1 (BN hA) h0 (fun m hm _=> ?_) (fun i hi _ hf=> ?_)
    · rcases Ix (x:=x) (n:=n) hm with e | e
      · rw[e]
        have:(if JM sg xs os m=true then K.D else K.D)= .D:=by split<;>rfl
        rw[this]; exact Fo _
      · rw[e]; exact cZ _
    · rcases Ix (x:=x) (n:=n) (m:= .s i 0 0) hi with e | e
      · rw[e]at hf
        have:(if JM sg xs os (.s i 0 0)=true then K.D else K.D)= .D:=by split<;>rfl
        exact absurd this hf
      · rw[e]at hf; exact hf
end
end Go.Own

/- A call, told without the data: what is asked of it. -/
namespace Go.Own
open Go.RowKit

def oR(ext:Bool)(f:Nat→K):Nat→List K→Bool
 | _,[]=>true
 | j,q::r=>(f j).hand ext q&&oR ext f (j+1) r
def vP(ext:Bool)(f:Nat→Nat→K):Nat→List (List K)→Bool
 | _,[]=>true
 | k,q::r=>oR ext (f k) 0 q&&vP ext f (k+1) r

theorem tD{ext:Bool}{f:Nat→K}: ∀ {l:List K} {j0:Nat},oR ext f j0 l=true→ ∀ {j:Nat} {q:K},l[j]? =some q→(f (j0+j)).hand ext q=true
 | [],_,_,j,q,h=>by simp at h
 | p::r,j0,h,0,q,h2=>by
  simp only[oR,Bool.and_eq_true]at h
  simp only[List.getElem?_cons_zero,Option.some.injEq]at h2
  subst h2; exact h.1
 | p::r,j0,h,j+1,q,h2=>by
  simp only[oR,Bool.and_eq_true]at h
  simp only[List.getElem?_cons_succ]at h2
  have:=tD h.2 h2
  rwa[show j0+1+j=j0+(j+1)by omega]at this
theorem Bg{ext:Bool}{f:Nat→Nat→K}: ∀ {l:List (List K)} {k0:Nat},vP ext f k0 l=true→ ∀ {k:Nat} {r:List K},l[k]? =some r→oR ext (f (k0+k)) 0 r=true
 | [],_,_,k,q,h=>by simp at h
 | p::r,k0,h,0,q,h2=>by
  simp only[vP,Bool.and_eq_true]at h
  simp only[List.getElem?_cons_zero,Option.some.injEq]at h2
  subst h2; exact h.1
 | p::r,k0,h,k+1,q,h2=>by
  simp only[vP,Bool.and_eq_true]at h
  simp only[List.getElem?_cons_succ]at h2
  have:=Bg h.2 h2
  rwa[show k0+1+k=k0+(k+1)by omega]at this

/-- Kinds handed in to the callee's value i. -/
def IQ(sg:Sg)(f:Nat→Nat→K)(i:Nat):Bool:=match cG i sg.bi.sl with | some κ=>vP sg.ext f 0 κ | none=>true
theorem Ef{sg:Sg}{f:Nat→Nat→K}{i:Nat}(h:IQ sg f i=true)(k j:Nat):(f k j).hand sg.ext (sg.bi.kd (.s i k j))=true:=by
 unfold IQ at h
 simp only[B.kd,B.get]
 cases hl:cG i sg.bi.sl with
 | none=>rfl
 | some κ=>
  rw[hl]at h
  simp only[zO]
  cases hr:κ[k]? with
  | none=>rfl
  | some r=>
   cases hq:r[j]? with
   | none=>simp only[hq]; rfl
   | some q=>
    have h1:=Bg h hr
    have h2:=tD h1 hq
    simp only[Nat.zero_add]at h2
    simp only[hq]; exact h2

def Mc(sg:Sg)(f:Nat→K)(oc:Nat):Bool:=match cG oc sg.bi.ob with | some r=>oR sg.ext f 0 r | none=>true
theorem Nl{sg:Sg}{f:Nat→K}{oc:Nat}(h:Mc sg f oc=true)(j:Nat):(f j).hand sg.ext (sg.bi.kd (.oc oc j))=true:=by
 unfold Mc at h
 simp only[B.kd,B.get]
 cases hl:cG oc sg.bi.ob with
 | none=>rfl
 | some r=>
  rw[hl]at h
  cases hq:r[j]? with
  | none=>simp only[hq]; rfl
  | some q=>
   have h2:=tD h hq
   simp only[Nat.zero_add]at h2
   simp only[hq]; exact h2

/-- Value i of the callee's holds nothing. -/
def Fj(sg:Sg)(i:Nat):Bool:=match cG i sg.bi.sl with | some κ=>κ.all (fun r=>r.all fun q=> !q.hold) | none=>true
theorem GI{sg:Sg}{i:Nat}(h:Fj sg i=true)(k j:Nat):(sg.bi.kd (.s i k j)).hold=false:=by
 unfold Fj at h
 simp only[B.kd,B.get]
 cases hl:cG i sg.bi.sl with
 | none=>rfl
 | some κ=>
  rw[hl]at h
  simp only[zO]
  cases hr:κ[k]? with
  | none=>rfl
  | some r=>
   cases hq:r[j]? with
   | none=>simp only[hq]; rfl
   | some q=>
    have:=List.all_eq_true.1 (List.all_eq_true.1 h r (bE hr)) q (bE hq)
    simp only[hq]; simpa using this

def dfv:K→Bool
 | .D=>true
 | .F=>true
 | .V=>true
 | _=>false

def So(F:FA)(b:B)(sg:Sg)(xs:List Operand)(i:Nat):Operand→Bool
 | .tmp t=>b.has t&&(match F.shOf t with
  | .one (.al l _)=>(match l with | .none=>false | _=>true)&&b.hasL l&& !(decide (b.kd (.s t 0 0)= .D))&&K.V.hand sg.ext (sg.bi.kd (.s i 0 0))
  | .one (.pp _ _ _ _)=>true
  | .one (.cp _)=>IQ sg (fun k j=>b.kd (.s t k j)) i&&dfv (sg.bi.kd (.s i 0 0))&&Fj sg i
  | .one _=>IQ sg (fun k j=>b.kd (.s t k j)) i&&(Fj sg i||decide (Ck xs t=some i))
  | .tup _=>false)
 | .const c=>IQ sg (fun k j=>gF (bG c) k j) i
 | _=>true
def IU(F:FA)(b:B)(sg:Sg)(xs:List Operand):Nat→List Operand→Bool
 | _,[]=>true
 | i,v::r=>So F b sg xs i v&&IU F b sg xs (i+1) r

theorem Em{F:FA}{b:B}{sg:Sg}{xs:List Operand}: ∀ {l:List Operand} {i0:Nat},IU F b sg xs i0 l=true→ ∀ {i:Nat} {v:Operand},l[i]? =some v→So F b sg xs (i0+i) v=true
 | [],_,_,i,v,h=>by simp at h
 | p::r,i0,h,0,v,h2=>by
  simp only[IU,Bool.and_eq_true]at h
  simp only[List.getElem?_cons_zero,Option.some.injEq]at h2
  subst h2; exact h.1
 | p::r,i0,h,i+1,v,h2=>by
  simp only[IU,Bool.and_eq_true]at h
  simp only[List.getElem?_cons_succ]at h2
  have:=Em h.2 h2
  rwa[show i0+1+i=i0+(i+1)by omega]at this

section
variable {P:Program} {τ:TypeId→Option TI} {F:FA} {o:Oper} {b b':B} {x x':D}

theorem LX(hA:Ag F b x){n:Nat}{sg:Sg}{xs:List Operand}{i:Nat}{v:Operand}(h:So F b sg xs i v=true)(hj:dZ (ev x.sl v)=true):Ie (b.S n x) sg xs i v:=by
 cases v with
 | tmp t=>
  simp only[So,Bool.and_eq_true]at h
  obtain⟨h1,h2⟩:=h
  have hsl:(b.S n x).sl t=x.sl t:=qL h1
  have hf:=hA.fits h1 (Fu hj)
  simp only[Ie]
  rw[hsl]
  have plain:IQ sg (fun k j=>b.kd (.s t k j)) i=true→(Fj sg i||decide (Ck xs t=some i))=true→(∀k zs,(x.sl t).comp k≠some (.cp zs))→
    (∀k j,((b.S n x).fl (.s t k j)).hand sg.ext (sg.bi.kd (.s i k j))=true∧((sg.bi.kd (.s i k j)).hold=true→Ck xs t=some i))∧ ∀k zs,(x.sl t).comp k=some (.cp zs)→sg.bi.kd (.s i k 0)= .D∨sg.bi.kd (.s i k 0)= .F∨sg.bi.kd (.s i k 0)= .V:=fun q1 q2 q3=>by
   refine⟨fun k j=>⟨Ef q1 k j,fun hh=> ?_⟩,fun k zs hz=>absurd hz (q3 k zs)⟩
   simp only[Bool.or_eq_true,decide_eq_true_eq]at q2
   rcases q2 with q2 | q2
   ·rw[GI q2]at hh; cases hh
   ·exact q2
  have hcomp: ∀w,(∀ys,w≠W.cp ys)→ ∀k zs,(V.one w).comp k≠some (.cp zs):=fun w hw k zs=>by
   cases k with
   | zero=>simp only[V.comp]; intro e; exact hw zs (Option.some.inj e)
   | succ k=>simp [V.comp]
  cases hs:F.shOf t with
  | tup ws=>rw[hs]at h2; cases h2
  | one y=>
   rw[hs]at h2 hf
   cases hx:x.sl t with
   | tup ws=>rw[hx]at hf; simp [Own.fits]at hf
   | one w=>
    rw[hx]at hf plain
    cases w<;>cases y<;>simp only[Own.fits,bZ,Bool.false_eq_true]at hf<;>simp only at h2 ⊢
    case cp.cp zs ys=>
     simp only[Bool.and_eq_true]at h2
     refine⟨fun k j=>⟨Ef h2.1.1 k j,fun hh=>by rw[GI h2.2]at hh; cases hh⟩,fun k zs hz=> ?_⟩
     cases k with
     | succ k=>simp [V.comp]at hz
     | zero=>
      have:=h2.1.2
      cases hq:sg.bi.kd (.s i 0 0)<;>rw[hq]at this<;>simp_all [dfv]
    case al.al l p l' p'=>
     simp only[Bool.and_eq_true,decide_eq_true_eq]at hf h2
     obtain⟨rfl,_⟩:=hf
     obtain⟨⟨⟨q1,q2⟩,q3⟩,q4⟩:=h2
     have q3': ¬ b.kd (.s t 0 0)= .D:=by simpa using q3
     exact⟨fun e=>(by subst e; cases q1),q3',q4⟩
    all_goals
     simp only[Bool.and_eq_true]at h2
     exact plain h2.1 h2.2 (hcomp _ (by simp))
 | const c=>exact fun k j=>Ef h k j
 | _=>trivial

/-- The objects handed in are there. -/
def Qk(b:B)(sg:Sg):Nat→List Nat→Bool
 | _,[]=>true
 | i,o::r=>b.hasO o&&Mc sg (fun j=>b.kd (.oc o j)) (par+i)&&Qk b sg (i+1) r
theorem HU{sg:Sg}: ∀ {l:List Nat} {i0:Nat},Qk b sg i0 l=true→ ∀ {i o:Nat},l[i]? =some o→b.hasO o=true∧Mc sg (fun j=>b.kd (.oc o j)) (par+(i0+i))=true
 | [],_,_,i,o,h=>by simp at h
 | p::r,i0,h,0,o,h2=>by
  simp only[Qk,Bool.and_eq_true]at h
  simp only[List.getElem?_cons_zero,Option.some.injEq]at h2
  subst h2; exact h.1
 | p::r,i0,h,i+1,o,h2=>by
  simp only[Qk,Bool.and_eq_true]at h
  simp only[List.getElem?_cons_succ]at h2
  have:=HU h.2 h2
  rwa[show i0+1+i=i0+(i+1)by omega]at this

def Hj:List Nat→Bool
 | []=>true
 | i::r=> !(mem i r)&&Hj r
theorem KS{i:Nat}: ∀ {l:List Nat},i∈l→mem i l=true
 | [],h=>by simp at h
 | j::r,h=>by
  simp only[mem,Bool.or_eq_true]
  rcases List.mem_cons.1 h with h | h
  ·left; rw[h]; exact Nat.beq_refl _
  ·exact .inr (KS h)
theorem BI: ∀ {l:List Nat},Hj l=true→l.Nodup
 | [],_=>List.nodup_nil
 | i::r,h=>by
  simp only[Hj,Bool.and_eq_true]at h
  rw[List.nodup_cons]
  exact⟨fun hm=>by rw[KS hm]at h; simp at h,BI h.2⟩

def Me(F:FA)(b:B)(sg:Sg)(c:Call)(v:Operand)(d nd:Option Nat)(os:List Nat):Option B:=
 bif dX b v&&c.args.toList.all (kn b F)&&IU F b sg c.args.toList 0 c.args.toList&&Qk b sg 0 os&&Hj os&&(match d with | some d=>Nat.blt d F.n | none=>true)&&
   (match nd with | some z=>Nat.blt z par&& !(mem z os) | none=>true)&&sg.bo.has 0&&(match sg.io with | none=>true | _=>false)&&(sg.ext||zF sg)&&Nat.ble sg.np par then
  some (((b.pre F sg c.args.toList os).call F d nd os sg).nrm F)else none

/-- What goes into a call. -/
def inV(x:D)(c:Call)(caps:List (Nat×Nat))(os:List Nat):List V:=c.args.toList.map (fun v=>(evD x v).to (nG os))++caps.map (fun c=>(V.one (.ptr c.1 c.2)).to (nG os))

theorem VB(hA:Ag F b x){c:Call}{v:Operand}{f:FuncId}{caps:List (Nat×Nat)}{sg:Sg}{vs:List V}{ob ob':List (List T)}{r:V}{nw:Option (List T)}{os:List Nat}{nd:Option Nat}(ho:o.op= .call c)(hcal:c.callee= .value v)(hx:ev x.sl v= .one (.fn f caps))
  (hC:TC P f sg vs ob r none ob' nw)(hvs:vs=inV x c caps os)(hob:ob.map some=os.map x.ob)(hnp:sg.np=vs.length)(hth:c.args.toList.all (fun v=>dZ (ev x.sl v))=true)
  (h1:bH F (x.call o.dst nd os (DR r none ob' nw)) o.dst nd os=true)(h2:Me F b sg c v o.dst nd os=some b'):
  Ag F b' (x.call o.dst nd os (DR r none ob' nw))∧ ∀g0 w0,OpW P g0 w0 o (b.S F.n x) (b'.S F.n (x.call o.dst nd os (DR r none ob' nw))):=by
 unfold Me at h2
 obtain⟨hc,h2⟩:=aJ h2
 simp only[Bool.and_eq_true]at hc
 obtain⟨⟨⟨⟨⟨⟨⟨⟨⟨⟨c1,c2⟩,c3⟩,c4⟩,c5⟩,c6⟩,c7⟩,c8⟩,c9⟩,c10⟩,c11⟩:=hc
 cases h2
 have hAp:=hA.pre sg c.args.toList os
 have hAc:=hAp.call (d:=o.dst) (nd:=nd) (os:=os) (sg:=sg) (y:=DR r none ob' nw) h1
 have hfit: ∀i,o.dst=some i→Own.fits (((DR r none ob' nw).sl 0).to (uZ os nd)) (F.shOf i)=true:=fun i e=>by
  simp only[bH,Bool.and_eq_true]at h1
  have h:=h1.1
  rw[e]at h
  simp only[D.call,if_true]at h
  exact h
 refine⟨hAc.nrm,fun g0 w0=> ?_⟩
 have hmap:c.args.toList.map (fun v=>(evR (b.S F.n x) v).to (nG os))=c.args.toList.map (fun v=>(evD x v).to (nG os)):=List.map_congr_left fun v hv=>by rw[Mh hA (List.all_eq_true.1 c2 v hv)]
 have hob2:os.map (b.S F.n x).ob=os.map x.ob:=List.map_congr_left fun o ho=>by
  obtain⟨i,hi⟩:=List.getElem?_of_mem ho
  exact JS (HU c4 hi).1
 have h3:=QY (g0:=g0) (w0:=w0) (st:=b.S F.n x) (nd:=nd) ho hcal (by rw[oZ c1]; exact hx) hC (by
   revert c9; cases sg.io<;>simp) (fun i e=>by rw[e]at c6; exact cJ c6) (fun z e=>by
   rw[e]at c7
   simp only[Bool.and_eq_true]at c7
   exact⟨cJ c7.1,fun hm=>by rw[KS hm]at c7; simp at c7⟩) (BI c5) hnp (Nat.le_of_ble_eq_true c11) c8 (fun e=>by rw[e]at c10; simpa using c10) (by rw[hmap]; exact hvs) (by rw[hob2]; exact hob)
   (fun i v hv=>by
    have:=Em c3 hv
    rw[Nat.zero_add]at this
    exact LX hA this (List.all_eq_true.1 hth v (bE hv))) (fun o oc j hio=>by
    have hout:=Ee hio
    obtain⟨_,hp,hoi⟩:=Ir (BI c5) hout
    have:=(HU c4 hoi).2
    rw[Nat.zero_add,Nat.add_sub_of_le hp]at this
    exact Nl this j)
 refine h3.relax (fun a w hs=>hs.relax ?_)
 exact(JI hAp (Kp (n:=F.n) hA sg c.args.toList os) hfit).le hAc
end
end Go.Own

/- A call that turns a slice in place: told of states. -/
namespace Go.Own
open Go.RowKit
set_option linter.unusedVariables false

def isL(l m:Loc):Bool:=decide (m=l)
def St.raise(st:St)(l:Loc)(κ:K):St:=st.setf (isL l) (fun m=>if m=l then κ else st.fl m)
def St.callIo(st:St)(sg:Sg)(xs:List Operand)(d:Option Nat)(l:Loc)(κ:K)(y:D)(z:T):St:=
 ((((st.pre sg xs []).drop (isL l)).call d none [] sg.ext sg.bo y).upd l z).raise l κ

theorem Ju{P:Program}{g0:G}{w0:World}{st:St}{o:Oper}{c:Call}{x:Operand}{f:FuncId}{sg:Sg}{vs:List V}{r:V}{y0 y' x0:T}{t n n1:Nat}{xs':List Operand}{l:Loc}{p:List (Nat×Nat)}{κ:K}
  (ho:o.op= .call c)(hcal:c.callee= .value x)(hx:ev st.sl x= .one (.fn f []))(hC:TC P f sg vs [] r (some y') [] none)(hsg:sg.io=some 0)(hext:sg.ext=true)(hd: ∀i,o.dst=some i→i<st.n)
  (hnp:sg.np=vs.length)(hle:sg.np≤par)(hb0:sg.bo.has 0=true)(hvs:vs=c.args.toList.map (fun v=>(evR st v).to (nG [])))(hargs:c.args.toList= .tmp t::xs')
  (hsl:st.sl t= .one (.al l p))(hln:l≠ .none)(hft:st.fl (.s t 0 0)≠ .D)(hfl:st.fl l= .U n)(hat:st.at l=some x0)(hnav:nav x0 p=some y0)
  (hbi:sg.bi.kd (.s 0 0 0)= .U 0)(hb1:sg.bo.has 1=true)(hbo:sg.bo.kd (.s 1 0 0)= .U n1)(hκ:κ=if p=[]then .U n1 else .U n)(hnd: ∀i k j,l= .s i k j→o.dst≠some i)
  (harg: ∀(i:Nat) v,xs'[i]? =some v→Ie st sg c.args.toList (i+1) v)(hnh: ∀i k j,i≠0→(sg.bi.kd (.s i k j)).hold=false)(hnl:p≠[]→n1=0):
  OpW P g0 w0 o st (st.callIo sg c.args.toList o.dst l κ (DR r (some y') [] none) (eT x0 p y')):=by
 intro Q K a w ⟨g,hs⟩ hK
 have hlp:=eF hat
 -- the part
 obtain⟨hh,v0,x0',y0',hv0,hx0',hpl⟩:(st.fl l).hold=true∧ ∃v0 x0' y0',vAt a.tmps g.β w l=some v0∧st.at l=some x0'∧Pl w v0 x0' p (a.tmps.getD t undef) y0':=by
  have hp:=hs.pls t (by rw[hsl]; exact hln) hft
  rw[hsl]at hp
  exact hp
 rw[hat]at hx0'; cases hx0'
 have e0:=hpl.nav
 rw[hnav]at e0; cases e0
 obtain⟨v0',hv0',hna0,hlf0⟩:=hs.get hat
 rw[hv0]at hv0'; cases hv0'
 rw[hfl]at hlf0
 have hlf0:Ow (frz g w) true w (gE n) (fun b=>g.own b=l) v0 x0:=hlf0
 obtain⟨Fp,q1,q2,q3⟩:=hlf0.part hpl
 have q2:Ow (frz g w) true w none Fp (a.tmps.getD t undef) y0:=by
  by_cases e:p=[]
  ·rw[if_pos e]at q2; exact q2.any
  ·rw[if_neg e]at q2; exact q2
 have hFpl: ∀b,Fp b→(g.own b).place=true:=fun b hb=>by rw[q1 b hb]; exact hlp
 -- the alias's slot is no place
 have hlt: ∀k j,l≠ .s t k j:=fun k j e=>by
  rw[e,St.at_s,hsl]at hat
  cases k<;>simp [V.leaf,W.leaf]at hat
 have harg0: ∀(t' i k j:Nat),Ck c.args.toList t'=some i→(sg.bi.kd (.s i k j)).hold=true→i=0∧t'=t:=fun t' i k j h1 h2=>by
  have hi:i=0:=Decidable.byContradiction fun e=>by rw[hnh i k j e]at h2; cases h2
  subst hi
  refine⟨rfl, ?_⟩
  unfold Ck at h1
  rw[hargs]at h1
  split at h1
  ·simp only[Option.some.injEq,List.findIdx_cons]at h1
   cases hh:uU t' (.tmp t)with
   | true=>simp only[uU]at hh; exact(by simpa using hh:t=t').symm
   | false=>rw[hh]at h1; simp at h1
  ·cases h1
 have hinto: ∀m:Loc,m≠ .none→(∀k j,m≠ .s t k j)→(∀o,m≠ .obj o)→gT sg c.args.toList [] m= .ext:=fun m h1 h2 h3=>by
  have hr:pJ sg.ext= .ext:=by rw[hext]; rfl
  cases m with
  | none=>exact absurd rfl h1
  | ext=>exact hr
  | obj o=>exact absurd rfl (h3 o)
  | s t' k j=>
   simp only[gT]
   split
   ·rename_i i hi
    split
    ·rename_i hk
     exact absurd (by rw[(harg0 t' i k j hi hk).2]) (h2 k j)
    ·exact hr
   ·exact hr
  | oc o j=>simp only[gT,nG]; simp [hr]
 have hintol:gT sg c.args.toList [] l= .ext:=hinto l hln hlt (Loc.place_ne hlp).2.2
 have hrv0:RV (g.into sg c.args.toList [] Fp) w (fun k j=>sg.bi.kd (.s 0 k j)) (fun k j=> .s 0 k j) (a.eval (.tmp t)) ((evR st (.tmp t)).to (nG [])):=by
  have e:evR st (.tmp t)= .one (.c y0):=by
   show vQ st.sl st.ob (st.sl t)=_
   rw[hsl]
   have hat':atL st.sl st.ob l=some x0:=hat
   simp [vQ,hat',hnav]
  rw[e]
  show mC _∧LF _ w (sg.bi.kd (.s 0 0 0)) (.s 0 0 0) (a.tmps.getD t undef) y0
  have hrd:=hs.pl_rd hh hv0 hat hpl
  refine⟨hrd.not_agg, ?_⟩
  rw[hbi]
  show Ow _ true w none _ _ _
  exact q2.mono id (fun e=>by cases e) (fun b hb=>⟨by simp only[G.into]; rw[if_pos hb,hsg]; rfl,rfl⟩)
 have he:=hs.enter (sg:=sg) (xs:=c.args.toList) (caps:=[]) (os:=[]) (Fp:=Fp) List.nodup_nil hnp hle hFpl (fun e=>by rw[hext]at e; cases e) (fun t' i k j h1 h2 b hb hf=>by
  obtain⟨rfl,rfl⟩:=harg0 t' i k j h1 h2
  rw[q1 b hf]at hb
  exact hlt k j hb) (fun o oc j h _ _ _=>by simp [nG]at h) (vs:=vs) (ob:=[]) (by rw[hvs]; simp) rfl (fun i v hv hio=>by
  cases i with
  | zero=>exact absurd hsg hio
  | succ i=>rw[hargs]at hv; exact harg i v (by simpa using hv)) (fun o oc j h=>by simp [nG]at h) (fun i v hv hio=>by
  rw[hsg]at hio; cases hio
  rw[hargs]at hv
  simp only[List.getElem?_cons_zero,Option.some.injEq]at hv
  subst hv
  exact hrv0)
 have hC:=hC _ _ _ he
 have hfv:a.eval x= .func (.func f) #[] (([]:List (Nat×Nat)).map fun c=>Value.pointer (some ⟨g.β c.1,c.2,none⟩)).toArray:=by
  have:=hs.ev_rv x (fun _ _=> .none)
  rw[hx]at this
  exact this
 have hrun:(execOp a.eval o).run P w=(callFunc f (c.args.toList.map a.eval++([]:List (Nat×Nat)).map fun c=>Value.pointer (some ⟨g.β c.1,c.2,none⟩)).toArray).run P w:=by
  obtain⟨dst,op,ty,pos,after,guard⟩:=o
  simp only at ho
  subst ho
  simp only[execOp,resolve,hcal,hfv,Deferred.ofValue,Sem.run_bind,Sem.run_pure,Result.andThen_ok,invoke]
  congr 2
  apply Array.ext'
  simp
 have hq0:(fun m=> !(eG (gT sg c.args.toList [] m))&& !(eG m)) Loc.none=false:=by simp [eG]
 have hpure: ¬ zF sg=true:=fun h=>by
  have:=EV h (.s 0 0 0)
  rw[hbi]at this; cases this
 have hs1:bS g0 w0 (st.pre sg c.args.toList []) a g w:=by
  unfold St.pre
  rw[if_neg hpure]; exact hs.killV.drop _ hq0
 have hl0:isL l .none=false:=by simp only[isL]; exact decide_eq_false (Ne.symm hln)
 have hs2:bS g0 w0 ((st.pre sg c.args.toList []).drop (isL l)) a g w:=hs1.drop _ hl0
 have hat1:(st.pre sg c.args.toList []).at l=some x0:=by unfold St.pre; rw[if_neg hpure]; exact hat
 have key: ∀v w',(∃g',bS (g.into sg c.args.toList [] Fp) w (sg.bo.S 2 (DR r (some y') [] none)) ⟨#[v,(c.args.toList.map a.eval++([]:List (Nat×Nat)).map fun c=>Value.pointer (some ⟨g.β c.1,c.2,none⟩)).toArray.getD (sg.io.getD 0) undef],[]⟩ g' w')→
   Sim g0 w0 (st.callIo sg c.args.toList o.dst l κ (DR r (some y') [] none) (eT x0 p y')) (a.put o.dst v) w':=by
  rintro v w' ⟨g',h1⟩
  have h3:=hs2.leave (v:=v) (d:=o.dst) (nd:=none) (iol:=l) List.nodup_nil (by unfold St.pre; rw[if_neg hpure]; exact hd) (fun _ e=>by cases e) hFpl ⟨hln,(Loc.place_ne hlp).2.2⟩ h1 rfl hb0 (fun m z hm1 hm2=>by
   have hmp:=eF hm2
   have hm2':(st.pre sg c.args.toList []).at m=some z:=hm2
   rw[As hl0 hm2']at hm1
   by_cases e:isL l m=true
   ·rw[if_pos e]at hm1; cases hm1
   ·rw[if_neg e]at hm1
    have hml:m≠l:=by simpa [isL]using e
    refine⟨?_,fun b hb hf=>hml (by rw[←hb]; exact q1 b hf)⟩
    cases hq:eG (gT sg c.args.toList [] m)with
    | true=>rfl
    | false=>
     exfalso
     have hmp2:eG m=false:=by cases m<;>first | rfl | cases hmp
     have hm3:st.killV.at m=some z:=by unfold St.pre at hm2'; rw[if_neg hpure]at hm2'; exact hm2'
     unfold St.pre at hm1
     rw[if_neg hpure,As hq0 hm3,hq,hmp2]at hm1
     simp [Own.K.hold]at hm1) (.inl fun m=>by
   have h0: ∀m,(st.pre sg c.args.toList []).fl m≠ .V:=by
    unfold St.pre
    rw[if_neg hpure]
    refine oO (fun m=> ?_)
    split
    ·simp
    ·exact pO st m
   refine oO (fun m=> ?_) m
   split
   ·simp
   ·exact h0 m)
  generalize hgb:g.back (g.into sg c.args.toList [] Fp) g' w o.dst none [] l=gb at h3
  generalize hst3:((st.pre sg c.args.toList []).drop (isL l)).call o.dst none [] sg.ext sg.bo (DR r (some y') [] none)=st3 at h3
  have hat3:st3.at l=some x0:=by
   rw[←hst3]
   cases l with
   | s i k j=>
    have:=hnd i k j rfl
    rw[St.at_s]
    simp only[St.call,if_neg this,Cf]
    have h9:((st.pre sg c.args.toList []).drop (isL (.s i k j))).at (.s i k j)=some x0:=hat1
    rw[St.at_s]at h9
    exact h9
   | oc o j=>
    rw[St.at_oc]
    simp only[St.call,oM,List.not_mem_nil,if_false]
    have h9:((st.pre sg c.args.toList []).drop (isL (.oc o j))).at (.oc o j)=some x0:=hat1
    rw[St.at_oc]at h9
    simpa using h9
   | _=>cases hlp
  -- blocks that the callee had no part in
  have hkeep: ∀b,b<w.heap.size→eG ((g.into sg c.args.toList [] Fp).own b)=true→g'.own b=(g.into sg c.args.toList [] Fp).own b∧w'.heap[b]? =w.heap[b]? ∧gb.own b=g.own b:=fun b hb hf=>by
   obtain⟨k1,k2⟩:=h1.framed.evo.keep b hb (fun h=>h (GU.1 hf))
   refine⟨k1,k2, ?_⟩
   rw[←hgb]
   simp only[G.back]
   rw[if_pos (by rw[k1]; exact hf),if_pos ⟨hb,hf⟩]
  have hrest: ∀b,g.own b=l→ ¬ Fp b→gb.own b=l∧w'.heap[b]? =w.heap[b]? ∧eG (g'.own b)=true:=fun b hb hf=>by
   have hlt:b<w.heap.size:=hs.ok.own b (by rw[hb]; exact hln)
   have hfo:eG ((g.into sg c.args.toList [] Fp).own b)=true:=by rw[gV hf,hb,hintol]; rfl
   obtain⟨k1,k2,k3⟩:=hkeep b hlt hfo
   exact⟨k3.trans hb,k2,by rw[k1]; exact hfo⟩
  have hN: ∀b,g'.own b= .s 1 0 0→gb.own b=l:=fun b hb=>by
   rw[←hgb]
   simp only[G.back]
   rw[if_neg (by rw[hb]; simp [eG]),hb]
   rfl
  -- the value that was turned
  have hu1:(c.args.toList.map a.eval++([]:List (Nat×Nat)).map fun c=>Value.pointer (some ⟨g.β c.1,c.2,none⟩)).toArray.getD (sg.io.getD 0) undef=a.tmps.getD t undef:=by
   rw[hsg,hargs]; simp only[Option.getD_some,List.map_cons]; rfl
  have hy:Ow (frz g' w') true w' (gE n1) (fun b=>g'.own b= .s 1 0 0) (a.tmps.getD t undef) y':=by
   have h5:=h1.slots 1
   rw[show(sg.bo.S 2 (DR r (some y') [] none)).sl 1= .one (.c y')from qL hb1]at h5
   have h6:=h5.2
   have h7:LF g' w' (sg.bo.kd (.s 1 0 0)) (.s 1 0 0) _ y':=h6
   rw[hbo]at h7
   have e1:(#[v,(c.args.toList.map a.eval++([]:List (Nat×Nat)).map fun c=>Value.pointer (some ⟨g.β c.1,c.2,none⟩)).toArray.getD (sg.io.getD 0) undef]:Array Value).getD 1 undef=a.tmps.getD t undef:=by rw[hu1]; rfl
   have h7:Ow (frz g' w') true w' (gE n1) (fun b=>g'.own b= .s 1 0 0) _ y':=h7
   rw[e1]at h7
   exact h7
  have hnew:LF gb w' κ l v0 (eT x0 p y'):=by
   have hκU: ∃m,κ= .U m∧gE m=(if p=[]then gE n1 else gE n):=by
    by_cases e:p=[]
    ·rw[if_pos e]at hκ; exact⟨n1,hκ,by rw[if_pos e]⟩
    ·rw[if_neg e]at hκ; exact⟨n,hκ,by rw[if_neg e]⟩
   obtain⟨m,rfl,hm⟩:=hκU
   show Ow (frz gb w') true w' (gE m) (fun b=>gb.own b=l) v0 (eT x0 p y')
   by_cases e:p=[]
   ·have hse: ∀z:T,eT z [] y'=y':=fun z=>by cases z<;>rfl
    subst e
    rw[hse,hm,if_pos rfl]
    cases hpl
    exact hy.mono id (fun e=>by cases e) (fun b hb=>⟨hN b hb,rfl⟩)
   ·rw[hm,if_neg e]
    refine q3 (frz gb w') w' (fun b=>g'.own b= .s 1 0 0) (fun b=>gb.own b=l) y' (fun b hb hf=>⟨(hrest b hb hf).1,(hrest b hb hf).2.1⟩) hN (fun b hb1 hb2=>Classical.byContradiction fun hf=>by
     have:=(hrest b hb2 hf).2.2
     rw[hb1]at this; cases this) ?_
    rw[if_neg e]
    have:=hnl e
    subst this
    exact hy.mono id (fun e=>by cases e) (fun b hb=>⟨hb,rfl⟩)
  have hv3:vAt (a.put o.dst v).tmps gb.β w' l=some v0:=by
   cases l with
   | s i k j=>
    simp only[vAt]at hv0 ⊢
    rw[mV a o.dst v i (hnd i k j rfl)]; exact hv0
   | oc o' j=>
    simp only[vAt]at hv0 ⊢
    have hb:gb.β o'=g.β o':=by rw[←hgb]; simp [G.back]
    rw[hb]
    obtain⟨cells,hcl,_⟩: ∃cells,st.ob o'=some cells∧True:=by
     rw[St.at_oc,Option.bind_eq_some_iff]at hat
     obtain⟨cells,hcl,_⟩:=hat
     exact⟨cells,hcl,trivial⟩
    obtain⟨arr,ty,_,_,k3,_⟩:=hs.obs o' cells hcl
    have hlt:g.β o'<w.heap.size:=hs.ok.own _ (by rw[k3]; simp)
    have hfo:eG ((g.into sg c.args.toList [] Fp).own (g.β o'))=true:=by
     rw[gV (fun hf=>by have:=hFpl _ hf; rw[k3]at this; cases this),k3]
     simp [gT,nG,eG]
    rw[bV (hkeep _ hlt hfo).2.1]; exact hv0
   | _=>cases hlp
  have hfl3:st3.fl l= .D:=by
   rw[←hst3]
   have e1:((st.pre sg c.args.toList []).drop (isL l)).fl l= .D:=by
    rw[As hl0 hat1,if_pos (by simp [isL])]
   cases l with
   | s i k j=>
    have:=hnd i k j rfl
    simp only[St.call,if_neg this]
    split
    ·rfl
    ·exact e1
   | oc o' j=>
    simp only[St.call,oM,List.not_mem_nil,if_false]
    simpa using e1
   | _=>cases hlp
  have h4:=h3.upd (g':=gb) (w':=w') (X:=fun _=>False) (xP.refl h3.ok st3) (fun _=>rfl) (z:=eT x0 p y') hat3 hv3 (fun _ _ _ _ _ h=>h) (by
   rw[hfl3]
   intro hsc
   exact(LF.scal (g':=gb) (w':=w') (κ':= .D) (l':=l) hnew hsc) hsc)
  refine⟨gb, ?_⟩
  unfold St.callIo St.raise
  rw[hst3]
  refine h4.setf (g':=gb) hl0 (fun _=>rfl) h4.ok (fun _ _=>rfl) (fun _ _ h=>h) (fun _ h=>h) (fun m z u hz hu hf=> ?_) (fun i k zs b off hcx hc=> ?_) (fun i hi hR hf=> ?_)
  ·by_cases e:m=l
   ·rw[if_pos e]
    subst e
    rw[xR hat3,if_pos rfl]at hz
    cases hz
    rw[hv3]at hu; cases hu
    exact hnew
   ·rw[if_neg e]; exact hf
  ·by_cases e:Loc.s i k 0=l
   ·exfalso
    have h9:((st3.upd l (eT x0 p y')).sl i).leaf k 0=some (eT x0 p y'):=by
     have:=xR (z:=eT x0 p y') (m:=l) hat3
     rw[if_pos rfl, ←e,St.at_s]at this
     rw[←e]; exact this
    cases hsi:(st3.upd l (eT x0 p y')).sl i with
    | one u=>
     rw[hsi]at hcx h9
     cases k with
     | zero=>simp only[V.comp,Option.some.injEq]at hcx; subst hcx; simp [V.leaf,W.leaf]at h9
     | succ k=>simp [V.comp]at hcx
    | tup ws=>
     rw[hsi]at hcx h9
     simp only[V.comp]at hcx
     simp [V.leaf,hcx,W.leaf]at h9
   ·rw[if_neg e]; exact hc
  ·by_cases e:Loc.s i 0 0=l
   ·exfalso
    have h9:=xR (z:=eT x0 p y') (m:=l) hat3
    rw[if_pos rfl, ←e]at h9
    rw[←e]at hi
    exact hi (tU h9)
   ·rw[if_neg e]at hf
    refine⟨hf,fun hh=> ?_⟩
    split
    ·obtain⟨m,hm⟩: ∃m,κ= .U m:=by
      by_cases e:p=[]
      ·exact⟨n1,by rw[hκ,if_pos e]⟩
      ·exact⟨n,by rw[hκ,if_neg e]⟩
     rw[hm]; rfl
    ·exact hh
 unfold Oper.wp
 rw[hrun]
 revert hC
 generalize (callFunc f _).run P w=r
 intro hC
 unfold oX at hC
 split at hC
 ·exact hK _ _ (key _ _ hC)
 ·rw[Oper.upon_enter]
  refine Calls.mono hC ?_
  rintro e w' ⟨v,rfl,h⟩
  exact hK _ _ (key _ _ h)
 ·exact hC.elim
end Go.Own

/- A call that turns a slice in place: told without the data. -/
namespace Go.Own
open Go.RowKit
set_option linter.unusedVariables false

def ioB(F:FA)(b:B)(d:Option Nat)(sg:Sg)(xs:List Operand)(l:Loc):B:=
 (((b.pre F sg xs []).setf F (isL l) (fun m q=>if isL l m=true then .D else q)).call F d none [] sg)
def xX(b:B)(sg:Sg)(l:Loc):Nat→K
 | 0=>sg.bo.kd (.s 1 0 0)
 | _=>b.kd l
def Kv(sg:Sg):Bool:=sg.bi.sl.all fun p=>Nat.beq p.1 0||p.2.all (fun r=>r.all fun q=> !q.hold)
theorem Je{sg:Sg}(h:Kv sg=true)(i k j:Nat)(hi:i≠0):(sg.bi.kd (.s i k j)).hold=false:=by
 simp only[B.kd,B.get]
 cases hl:cG i sg.bi.sl with
 | none=>rfl
 | some κ=>
  have h1:=List.all_eq_true.1 h _ (fF hl)
  simp only[cL hi,Bool.false_or]at h1
  simp only[zO]
  cases hr:κ[k]? with
  | none=>rfl
  | some r=>
   cases hq:r[j]? with
   | none=>simp [hq,K.hold]
   | some q=>
    have:=List.all_eq_true.1 (List.all_eq_true.1 h1 r (bE hr)) q (bE hq)
    simp only[hq]
    simpa using this
def Ku(d:Option Nat)(l:Loc):Bool:=match d with | some d=> !(aS d l) | none=>true
def cIo(F:FA)(b:B)(sg:Sg)(c:Call)(v:Operand)(d:Option Nat):Option B:=
 match c.args.toList with
 | .tmp t::xs=>(match F.shOf t with
  | .one (.al l p)=>bif dX b v&&c.args.toList.all (kn b F)&&Cz F b F.n (.tmp t)&&isU (b.kd l)&&IU F b sg c.args.toList 1 xs&&decide (sg.io=some 0)&&sg.ext&&decide (sg.bi.kd (.s 0 0 0)= .U 0)&&sg.bo.has 0&&sg.bo.has 1&&isU (sg.bo.kd (.s 1 0 0))&&
    (Nat.beq p.length 0||decide (sg.bo.kd (.s 1 0 0)= .U 0))&&(match d with | some d=>Nat.blt d F.n | none=>true)&&Ku d l&&Kv sg&&Nat.ble sg.np par&&(ioB F b d sg c.args.toList l).hasL l then
    some ((((ioB F b d sg c.args.toList l).filt (lZ F l)).setf F (isL l) (fun m q=>if m=l then xX b sg l p.length else q)).nrm F)else none
  | _=>none)
 | _=>none

section
variable {P:Program} {τ:TypeId→Option TI} {F:FA} {o:Oper} {b b':B} {x x':D}

theorem OB(hA:Ag F b x){c:Call}{v:Operand}{f:FuncId}{sg:Sg}{vs:List V}{r:V}{t:Nat}{xs:List Operand}{l:Loc}{p:List (Nat×Nat)}{x0:T}{es es':List (List T)}(ho:o.op= .call c)(hcal:c.callee= .value v)(hx:ev x.sl v= .one (.fn f []))
  (hC:TC P f sg vs [] r (some (.sl es')) [] none)(hvs:vs=inV x c [] [])(hnp:sg.np=vs.length)(hth:c.args.toList.all (fun v=>dZ (ev x.sl v))=true)(hargs:c.args.toList= .tmp t::xs)(hal:x.sl t= .one (.al l p))(hat:x.at l=some x0)(hnav:nav x0 p=some (.sl es))
  (h1:bH F (x.call o.dst none [] (DR r (some (.sl es')) [] none)) o.dst none []=true)(h2:cIo F b sg c v o.dst=some b'):
  Ag F b' ((x.call o.dst none [] (DR r (some (.sl es')) [] none)).upd l (eT x0 p (.sl es')))∧ ∀g0 w0,OpW P g0 w0 o (b.S F.n x) (b'.S F.n ((x.call o.dst none [] (DR r (some (.sl es')) [] none)).upd l (eT x0 p (.sl es')))):=by
 unfold cIo at h2
 rw[hargs]at h2
 simp only at h2
 split at h2<;>try cases h2
 rename_i l' p' hsh
 obtain⟨hc,h2⟩:=aJ h2
 rw[←hargs]at hc h2
 simp only[Bool.and_eq_true]at hc
 obtain⟨⟨⟨⟨⟨⟨⟨⟨⟨⟨⟨⟨⟨⟨⟨⟨c1,c2⟩,c3⟩,c4⟩,c5⟩,c6⟩,c7⟩,c8⟩,c9⟩,c10⟩,c11⟩,c12⟩,c13⟩,c14⟩,c15⟩,c16⟩,c17⟩:=hc
 cases h2
 have hbt:b.has t=true:=by
  have:=List.all_eq_true.1 c2 (.tmp t) (by rw[hargs]; exact List.mem_cons_self)
  simp only[kn,Bool.and_eq_true]at this
  exact this.1
 obtain⟨a1,_,a3,a4⟩:=wF hA hbt c3 (.inl ⟨p,hal⟩)
 have hfit:=hA.fits hbt (by rw[hal]; simp)
 rw[hal,hsh]at hfit
 simp only[Own.fits,bZ,Bool.and_eq_true,decide_eq_true_eq]at hfit
 obtain⟨hll,hpl⟩:=hfit
 subst hll
 have hpl:=Nat.eq_of_beq_eq_true hpl
 obtain⟨n,hn⟩: ∃n,b.kd l= .U n:=by
  revert c4
  cases b.kd l<;>simp [isU]
 obtain⟨n1,hn1⟩: ∃n,sg.bo.kd (.s 1 0 0)= .U n:=by
  revert c11
  cases sg.bo.kd (.s 1 0 0)<;>simp [isU]
 have hl0:isL l .none=false:=decide_eq_false (Ne.symm a1)
 have hAp:=hA.pre sg c.args.toList []
 have hAd:Ag F ((b.pre F sg c.args.toList []).setf F (isL l) (fun m q=>if isL l m=true then .D else q)) x:=hAp.setf _ _
 have hAc:Ag F (ioB F b o.dst sg c.args.toList l) (x.call o.dst none [] (DR r (some (.sl es')) [] none)):=hAd.call h1
 have hds: ∀i k j,l= .s i k j→o.dst≠some i:=fun i k j e h=>by
  rw[h,e]at c14
  simp [Ku,aS,Nat.beq_refl]at c14
 have hat2:(x.call o.dst none [] (DR r (some (.sl es')) [] none)).at l=some x0:=by
  cases l with
  | s i k j=>
   have:=hds i k j rfl
   simp only[D.at,atL,D.call,if_neg this]at hat ⊢
   exact hat
  | oc o' j=>
   simp only[D.at,atL,D.call,oM,List.not_mem_nil,if_false]at hat ⊢
   simpa using hat
  | _=>cases a4
 have hAu:=(hAc.upd (z:=eT x0 p (.sl es')) c17 hat2 (Dq hnav)).filt (lZ F l)
 have hAr:=hAu.setf (isL l) (fun m q=>if m=l then xX b sg l p'.length else q)
 refine⟨hAr.nrm,fun g0 w0=> ?_⟩
 have hfitd: ∀i,o.dst=some i→Own.fits (((DR r (some (.sl es')) [] none).sl 0).to (uZ [] none)) (F.shOf i)=true:=fun i e=>by
  simp only[bH,Bool.and_eq_true]at h1
  have h:=h1.1
  rw[e]at h
  simp only[D.call,if_true]at h
  exact h
 have hmap:c.args.toList.map (fun v=>(evR (b.S F.n x) v).to (nG []))=c.args.toList.map (fun v=>(evD x v).to (nG [])):=List.map_congr_left fun v hv=>by rw[Mh hA (List.all_eq_true.1 c2 v hv)]
 have hkind:xX b sg l p'.length=if p=[]then K.U n1 else K.U n:=by
  rw[←hpl]
  cases p with
  | nil=>simp [xX,hn1]
  | cons a p=>simp [xX,hn]
 have h3:=Ju (g0:=g0) (w0:=w0) (st:=b.S F.n x) (κ:=xX b sg l p'.length) (l:=l) (p:=p) (x0:=x0) (y0:= .sl es) (y':= .sl es') (t:=t) (n:=n) (n1:=n1) (xs':=xs) ho hcal (by rw[oZ c1]; exact hx) hC (of_decide_eq_true c6) c7
  (fun i e=>by rw[e]at c13; exact cJ c13) hnp (Nat.le_of_ble_eq_true c16) c9 (by rw[hmap,hvs]; simp [inV]) hargs (by rw[qL hbt]; exact hal) a1 a3 hn (by rw[MQ a4]; exact hat) hnav (of_decide_eq_true c8) c10 hn1 hkind hds
  (fun i v hv=>by
   have:=Em c5 hv
   rw[Nat.add_comm]at this
   exact LX hA this (List.all_eq_true.1 hth v (by rw[hargs]; exact List.mem_cons_of_mem _ (bE hv)))) (Je c15) (fun e=>by
   simp only[Bool.or_eq_true,decide_eq_true_eq]at c12
   rcases c12 with h | h
   ·have:=Nat.eq_of_beq_eq_true h
    rw[←hpl]at this
    exact absurd (List.length_eq_zero_iff.1 this) e
   ·rw[hn1]at h; cases h; rfl)
 refine h3.relax (fun a w hs=>hs.relax ?_)
 have hlow1:=Kp (n:=F.n) hA sg c.args.toList []
 have hlow2:Low F.n ((b.pre F sg c.args.toList []).setf F (isL l) (fun m q=>if isL l m=true then .D else q)) x (((b.S F.n x).pre sg c.args.toList []).drop (isL l)):=
  jU hAp hlow1 hl0 (fun m _ h=>by
   by_cases e:isL l m=true
   ·rw[if_pos e,if_pos e]; exact cZ _
   ·rw[if_neg e,if_neg e]; exact h) (fun i _ h hf=>by
   by_cases e:isL l (.s i 0 0)=true
   ·rw[if_pos e]at hf; exact absurd rfl hf
   ·rw[if_neg e]at hf ⊢; exact h hf)
 have hlow3:=JI (nd:=none) (os:=[]) (sg:=sg) (y:=DR r (some (.sl es')) [] none) hAd hlow2 hfitd
 have hlow4:=HO (z:=eT x0 p (.sl es')) hAc hlow3 c17 hat2 a1
 have hlow5:=jU (R:=isL l) (f:=fun m=>if m=l then xX b sg l p'.length else(((((b.S F.n x).pre sg c.args.toList []).drop (isL l)).call o.dst none [] sg.ext sg.bo (DR r (some (.sl es')) [] none)).upd l (eT x0 p (.sl es'))).fl m) (f':=fun m q=>if m=l then xX b sg l p'.length else q) hAu hlow4 hl0 (fun m _ h=>by
   by_cases e:m=l
   ·rw[if_pos e,if_pos e]; exact cZ _
   ·rw[if_neg e,if_neg e]; exact h) (fun i _ h hf=>by
   by_cases e:Loc.s i 0 0=l
   ·rw[if_pos e]at hf ⊢; exact hf
   ·rw[if_neg e]at hf ⊢; exact h hf)
 exact hlow5.le hAr
end
end Go.Own

/- A callee that turns the slice of a place in place: told of the place alone. -/
namespace Go.Own
open Go.RowKit
set_option linter.unusedVariables false

/-- What was there is there still. -/
structure PF (w w1:World):Prop where
 size:w.heap.size≤w1.heap.size
 keep: ∀b,b<w.heap.size→w1.heap[b]? =w.heap[b]?
 os:w1.os=w.os
 tape:w1.tape=w.tape
 output:w1.output=w.output
/-- The state with the place's datum another, its kind κ; what was read elsewhere is known no more. -/
def St.turn(st:St)(l:Loc)(κ:K)(z:T):St:=((st.killV.drop (isL l)).upd l z).raise l κ

open Classical in
noncomputable def G.one (g:G) (l:Loc):G:= { β:=g.β,own:=fun b=>if g.own b=l then .s 0 0 0 else if g.own b= .none then .none else .ext }
open Classical in
noncomputable def G.two (g gc:G) (w:World) (l:Loc):G:= { β:=g.β,own:=fun b=>if gc.own b= .s 1 0 0 then l else if b<w.heap.size∧g.own b≠l then g.own b else if gc.own b= .none then .none else .ext }

theorem QI{P:Program}{g0:G}{w0:World}{st:St}{a:Act}{g:G}{w w1:World}(hs:bS g0 w0 st a g w)(hE:PF w w1){f:FuncId}{sg:Sg}{y0 y':T}{k k':Int}{l:Loc}{n n1:Nat}{v0:Value}(hC:TC P f sg [.one (.c y0), .one (.c (.int .i64 k))] [] (.one (.c (.int .i64 k'))) (some y') [] none)
  (hio:sg.io=some 0)(hnp:sg.np=2)(hbi:sg.bi=⟨[(0,[[.U 0]]),(1,[[.S]])],[]⟩)(hb0:sg.bo.has 0=true)(hb1:sg.bo.has 1=true)(hbo:sg.bo.kd (.s 1 0 0)= .U n1)(hln:l.place=true)(hfl:st.fl l= .U n)(hat:st.at l=some y0)(hv:vAt a.tmps g.β w l=some v0):
  oX P ((callFunc f #[v0, .int .i64 k]).run P w1) (fun u w'=>u= .int .i64 k'∧ ∃gb,bS g0 w0 (st.turn l (.U n1) y') a gb w'∧gb.β=g.β∧(∀o b,g.own b= .obj o→w'.heap[b]? =w.heap[b]?)∧(∀b,b<w1.heap.size→g.own b= .none→b<w'.heap.size∧w'.heap[b]? =w1.heap[b]? ∧gb.own b= .none)):=by
 have hl3:=Loc.place_ne hln
 obtain⟨v0',hv',hna,hlf⟩:=hs.get hat
 rw[hv]at hv'; cases hv'
 rw[hfl]at hlf
 have hlf:Ow (frz g w) true w (gE n) (fun b=>g.own b=l) v0 y0:=hlf
 have hlt: ∀b,g.own b≠ .none→b<w.heap.size:=hs.ok.own
 have hin:bS (g.one l) w1 (sg.bi.S sg.np (DA [.one (.c y0), .one (.c (.int .i64 k))] [])) ⟨#[v0, .int .i64 k],[]⟩ (g.one l) w1:=by
  refine⟨oY.refl _ _,⟨fun b hb=> ?_⟩, ?_,rfl,fun i=> ?_,fun o cells hc=> ?_,fun i hi _=> ?_,fun _ _=>rfl, ?_⟩
  ·refine Nat.lt_of_lt_of_le (hlt b fun e=>hb ?_) hE.size
   simp only[G.one]
   rw[e,if_neg (Ne.symm hl3.1),if_pos rfl]
  ·rw[hnp]; rfl
  ·rw[hbi]
   match i with
   | 0=>
    show mC v0∧LF (g.one l) w1 (.U 0) (.s 0 0 0) v0 y0
    refine⟨hna, ?_⟩
    show Ow _ true w1 none _ v0 y0
    exact hlf.any.mono id (fun e=>by cases e) (fun b hb=>⟨by simp only[G.one]; rw[if_pos hb],hE.keep b (hlt b (by rw[hb]; exact hl3.1))⟩)
   | 1=>
    show mC (.int .i64 k)∧LF (g.one l) w1 .S (.s 1 0 0) (.int .i64 k) (.int .i64 k)
    exact⟨⟨by simp,by simp⟩,rfl, .int .i64 k⟩
   | i+2=>trivial
  ·exfalso
   have hc:(if sg.bi.hasO o=true then(DA [.one (.c y0), .one (.c (.int .i64 k))] []).ob o else none)=some cells:=hc
   rw[hbi]at hc
   simp [B.hasO,cG]at hc
  ·exfalso
   apply hi
   show aG (if sg.bi.has i=true then _ else _)=_
   split
   ·match i with
    | 0=>rfl
    | 1=>rfl
    | i+2=>rfl
   ·rfl
  ·rw[hnp]; show 2≤par; unfold par; omega
 have hC:=hC _ _ _ hin
 have key: ∀u w',(∃g',bS (g.one l) w1 (sg.bo.S 2 (DR (.one (.c (.int .i64 k'))) (some y') [] none)) ⟨#[u,(#[v0, .int .i64 k]:Array Value).getD (sg.io.getD 0) undef],[]⟩ g' w')→
   u= .int .i64 k'∧ ∃gb,bS g0 w0 (st.turn l (.U n1) y') a gb w'∧gb.β=g.β∧(∀o b,g.own b= .obj o→w'.heap[b]? =w.heap[b]?)∧(∀b,b<w1.heap.size→g.own b= .none→b<w'.heap.size∧w'.heap[b]? =w1.heap[b]? ∧gb.own b= .none):=by
  rintro u w' ⟨g',h1⟩
  have hu:u= .int .i64 k':=by
   have h5:=h1.slots 0
   rw[show(sg.bo.S 2 (DR (.one (.c (.int .i64 k'))) (some y') [] none)).sl 0= .one (.c (.int .i64 k'))from qL hb0]at h5
   have:=LF.scal (g':=g') (w':=w') (κ':= .F) (l':= .none) h5.2 rfl
   have this:Rd _ _ _ _:=this
   cases this; rfl
  have hy:Ow (frz g' w') true w' (gE n1) (fun b=>g'.own b= .s 1 0 0) v0 y':=by
   have h5:=h1.slots 1
   rw[show(sg.bo.S 2 (DR (.one (.c (.int .i64 k'))) (some y') [] none)).sl 1= .one (.c y')from qL hb1]at h5
   have h7:LF g' w' (sg.bo.kd (.s 1 0 0)) (.s 1 0 0) _ y':=h5.2
   rw[hbo]at h7
   have h7:Ow (frz g' w') true w' (gE n1) (fun b=>g'.own b= .s 1 0 0) _ y':=h7
   have e1:(#[u,(#[v0, .int .i64 k]:Array Value).getD (sg.io.getD 0) undef]:Array Value).getD 1 undef=v0:=by rw[hio]; rfl
   rw[e1]at h7
   exact h7
  have hfor: ∀b,b<w.heap.size→g.own b≠l→g'.own b=(g.one l).own b∧w'.heap[b]? =w.heap[b]? ∧(g'.own b= .none∨g'.own b= .ext):=fun b hb hne=>by
   have hf:(g.one l).own b= .none∨(g.one l).own b= .ext:=by
    simp only[G.one]; rw[if_neg hne]
    split
    ·exact .inl rfl
    ·exact .inr rfl
   obtain⟨k1,k2⟩:=h1.framed.evo.keep b (Nat.lt_of_lt_of_le hb hE.size) (fun h=>h hf)
   exact⟨k1,k2.trans (hE.keep b hb),by rw[k1]; exact hf⟩
  have hown: ∀b,b<w.heap.size→g.own b≠l→(g.two g' w l).own b=g.own b:=fun b hb hne=>by
   obtain⟨_,_,k3⟩:=hfor b hb hne
   simp only[G.two]
   rw[if_neg (fun e=>by rcases k3 with k3 | k3<;>(rw[k3]at e; cases e)),if_pos ⟨hb,hne⟩]
  have hNl: ∀b,g'.own b= .s 1 0 0→(g.two g' w l).own b=l:=fun b hb=>by simp only[G.two]; rw[if_pos hb]
  have hsz:w.heap.size≤w'.heap.size:=Nat.le_trans hE.size h1.framed.evo.size
  have hok:GOk (g.two g' w l) w':=⟨fun b hb=>by
   by_cases e1:g'.own b= .s 1 0 0
   ·exact h1.ok.own b (by rw[e1]; simp)
   ·by_cases e2:b<w.heap.size∧g.own b≠l
    ·exact Nat.lt_of_lt_of_le e2.1 hsz
    ·refine h1.ok.own b fun e3=>hb ?_
     simp only[G.two]
     rw[if_neg e1,if_neg e2,if_pos e3]⟩
  have hnew:LF (g.two g' w l) w' (.U n1) l v0 y':=by
   show Ow _ true w' (gE n1) _ v0 y'
   exact hy.mono id (fun e=>by cases e) (fun b hb=>⟨hNl b hb,rfl⟩)
  have hobj: ∀o b,g.own b= .obj o→w'.heap[b]? =w.heap[b]? :=fun o b hb=>(hfor b (hlt b (by rw[hb]; simp)) (by rw[hb]; exact Ne.symm (hl3.2.2 o))).2.1
  have hv3:vAt a.tmps g.β w' l=some v0:=by
   cases l with
   | s i kk j=>exact hv
   | oc o j=>
    simp only[vAt]at hv ⊢
    rw[St.at_oc,Option.bind_eq_some_iff]at hat
    obtain⟨cells,hcl,_⟩:=hat
    obtain⟨arr,ty,_,_,k3,_⟩:=hs.obs o cells hcl
    rw[bV (hobj o _ k3)]; exact hv
   | _=>cases hln
  have hl0:isL l .none=false:=decide_eq_false (Ne.symm hl3.1)
  have hsk:=hs.killV
  have hatk:st.killV.at l=some y0:=hat
  have hsd:=hsk.drop (isL l) hl0
  have hatd:(st.killV.drop (isL l)).at l=some y0:=hat
  have hfld:(st.killV.drop (isL l)).fl l= .D:=by rw[As hl0 hatk,if_pos (by simp [isL])]
  have hnoV: ∀m,(st.killV.drop (isL l)).fl m≠ .V:=fun m=>by
   refine oO (fun m=> ?_) m
   split
   ·simp
   ·exact pO st m
  have hcalm:xP g w (g.two g' w l) w' (fun m=>m=l) (st.killV.drop (isL l)):=⟨⟨hsz,fun b hb hne=>⟨hown b hb hne,(hfor b hb hne).2.1⟩⟩,fun m e=>by subst e; exact⟨fun h=>by rcases h with h | h; exact hl3.1 h; exact hl3.2.1 h,hl3.2.2⟩, .inr hnoV,h1.framed.os.trans hE.os,h1.framed.tape.trans hE.tape,h1.framed.output.trans hE.output,hok⟩
  have h4:=hsd.upd (g':=g.two g' w l) (w':=w') hcalm (fun _=>rfl) (z:=y') hatd hv (fun _ _ _ _ h=>h) (by
   rw[hfld]
   intro hsc
   exact(LF.scal (g':=g.two g' w l) (w':=w') (κ':= .D) (l':=l) hnew hsc) hsc)
  refine⟨hu,g.two g' w l, ?_,rfl,hobj,fun b hb hn=> ?_⟩
  rotate_left
  ·have hbl:g.own b≠l:=by rw[hn]; exact Ne.symm hl3.1
   have e1:(g.one l).own b= .none:=by simp only[G.one]; rw[if_neg hbl,if_pos hn]
   obtain⟨k1,k2⟩:=h1.framed.evo.keep b hb (fun h=>h (.inl e1))
   refine⟨Nat.lt_of_lt_of_le hb h1.framed.evo.size,k2, ?_⟩
   simp only[G.two]
   rw[if_neg (by rw[k1,e1]; simp)]
   split
   ·exact hn
   ·rw[if_pos (by rw[k1,e1])]
  unfold St.turn St.raise
  refine h4.setf (g':=g.two g' w l) hl0 (fun _=>rfl) h4.ok (fun _ _=>rfl) (fun _ _ h=>h) (fun _ h=>h) (fun m z u' hz hu' hf=> ?_) (fun i kk zs b off hcx hc=> ?_) (fun i hi hR hf=> ?_)
  ·by_cases e:m=l
   ·rw[if_pos e]
    subst e
    rw[xR hatd,if_pos rfl]at hz
    cases hz
    have hu'':vAt a.tmps g.β w' m=some u':=hu'
    rw[hv3]at hu''; cases hu''
    exact hnew
   ·rw[if_neg e]; exact hf
  ·by_cases e:Loc.s i kk 0=l
   ·exfalso
    have h9:=xR (z:=y') (m:=l) hatd
    rw[if_pos rfl, ←e,St.at_s]at h9
    rw[←e]at hcx
    cases hsi:((st.killV.drop (isL (.s i kk 0))).upd (.s i kk 0) y').sl i with
    | one u=>
     rw[hsi]at hcx h9
     cases kk with
     | zero=>simp only[V.comp,Option.some.injEq]at hcx; subst hcx; simp [V.leaf,W.leaf]at h9
     | succ kk=>simp [V.comp]at hcx
    | tup ws=>
     rw[hsi]at hcx h9
     simp only[V.comp]at hcx
     simp [V.leaf,hcx,W.leaf]at h9
   ·rw[if_neg e]; exact hc
  ·by_cases e:Loc.s i 0 0=l
   ·exfalso
    have h9:=xR (z:=y') (m:=l) hatd
    rw[if_pos rfl, ←e]at h9
    rw[←e]at hi
    exact hi (tU h9)
   ·rw[if_neg e]at hf
    refine⟨hf,fun hh=> ?_⟩
    split
    ·rfl
    ·exact hh
 unfold oX at hC ⊢
 split at hC
 ·exact key _ _ hC
 ·refine Calls.mono hC ?_
  rintro e w' ⟨v,rfl,h⟩
  exact⟨v,rfl,key _ _ h⟩
 ·exact hC.elim
end Go.Own

/- Functions that hand the slices of a struct, one after another, to callees that turn them. -/
namespace Go.Own
open Go.RowKit
set_option linter.unusedVariables false

/-- Calls one after another: each on a cell of cs, with the number that the one ahead gave. Bx: blocks that stay as they are. -/
def HP(P:Program):List (Nat×FuncId)→List Value→Int→World→(Nat→Prop)→(Value→World→Prop)→Prop
 | [],cs,k,w,Bx,Q=> ∀w1,PF w w1→Q (.int .i64 k) w1
 | (off,g)::L,cs,k,w,Bx,Q=> ∀w1 (Bx1:Nat→Prop),PF w w1→(∀b,Bx b→Bx1 b)→(∀b,Bx1 b→ ¬ Bx b→w.heap.size≤b)→(∀b,Bx1 b→b<w1.heap.size)→
   ∃c,cs[off]? =some c∧oX P ((callFunc g #[c, .int .i64 k]).run P w1) (fun u w2=> ∃k',u= .int .i64 k'∧(∀b,Bx1 b→b<w2.heap.size∧w2.heap[b]? =w1.heap[b]?)∧HP P L cs k' w2 Bx1 Q)

theorem oX.mono{P:Program}{n:Result Next}{R R':Value→World→Prop}(h:oX P n R)(hR: ∀u w,R u w→R' u w):oX P n R':=by
 unfold oX at h ⊢
 split at h
 ·exact hR _ _ h
 ·exact Calls.mono h fun e w ⟨v,e1,h1⟩=>⟨v,e1,hR _ _ h1⟩
 ·exact h.elim

/-- A value's cells. -/
def Sj(agg:Bool)(v:Value)(cs:List Value):Prop:=if agg=true then v= .agg cs.toArray else cs=[v]
/-- f does to its first argument's slices as L says. -/
def PX(P:Program)(f:FuncId)(agg:Bool)(n:Nat)(L:List (Nat×FuncId)):Prop:=
 (∀x∈L,x.1<n)∧ ∀(v:Value) (cs:List Value) (k:Int) (w:World) (Bx:Nat→Prop) (Q:Value→World→Prop),Sj agg v cs→cs.length=n→(∀b,Bx b→b<w.heap.size)→HP P L cs k w Bx Q→oX P ((callFunc f #[v, .int .i64 k]).run P w) Q
/-- A load, off a row of cells. -/
theorem Nc{P:Program}{τ:TypeId→Option TI}(hT:bJ P τ){t:TypeId}{i:TI}(hi:τ t=some i){w:World}{b p:Nat}{arr:Array Value}{ty:TypeId}(hh:w.heap[b]? =some (.cells arr ty (0,0)))(hle:p+i.size≤arr.size)(h1:i.agg=false→i.size=1):
  ∃u,(loadVar t ⟨b,p,none⟩).run P w= .ok u w∧Sj i.agg u ((arr.toList.drop p).take i.size):=by
 obtain⟨info,d,z,q1,q2,q3,q4,q5,q6,q7,q8,q9⟩:=hT.get hi
 have hcell: ∀j,w.cell? ⟨b,p+j,none⟩=arr[p+j]? :=fun j=>by rw[bU w b _ arr ty _ hh]
 cases hag:i.agg with
 | true=>
  rw[hag]at q9
  have hlen:((arr.toList.drop p).take i.size).length=i.size:=by simp; omega
  have hval: ∀(j:Nat) v,((arr.toList.drop p).take i.size)[j]? =some v→w.cell? ((⟨b,p,none⟩:Addr).add j)=some v:=by
   intro j v hv
   rw[List.getElem?_take]at hv
   split at hv
   ·rw[List.getElem?_drop,Array.getElem?_toList]at hv
    rw[lF,hcell,hv]
   ·cases hv
  have hrun:=run_loadCells_list (P:=P) w ⟨b,p,none⟩ _ hval
  rw[hlen]at hrun
  have hisagg:(isAgg t).run P w= .ok true w:=by
   simp only[isAgg,Sem.run_bind,run_underlying q2,Result.andThen_ok]
   cases d<;>first | (simp at q9; done) | rfl
  refine⟨.agg ((arr.toList.drop p).take i.size).toArray, ?_,by simp [Sj]⟩
  simp only[loadVar,Sem.run_bind,hisagg,Result.andThen_ok,if_true,sizeOf,typeInfo,run_program,q1,Sem.run_pure,q3,hrun]
 | false=>
  rw[hag]at q9
  have hs:=h1 hag
  have hlt:p<arr.size:=by omega
  have hc':w.cell? ⟨b,p,none⟩=some arr[p]:=by
   have:=hcell 0
   rw[Nat.add_zero]at this
   rw[this,Array.getElem?_eq_getElem hlt]
  have hisagg:(isAgg t).run P w= .ok false w:=by
   simp only[isAgg,Sem.run_bind,run_underlying q2,Result.andThen_ok]
   cases d<;>first | (simp at q9; done) | rfl
  refine⟨arr[p], ?_, ?_⟩
  ·simp only[loadVar,Sem.run_bind,hisagg,Result.andThen_ok,Bool.false_eq_true,if_false,run_load,hc']
  ·simp only[Sj,Bool.false_eq_true,if_false,hs]
   have:arr.toList.drop p=arr[p]::arr.toList.drop (p+1):=by
    rw[List.drop_eq_getElem_cons (by simpa using hlt)]; simp
   rw[this]; rfl
end Go.Own
