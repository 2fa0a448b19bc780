/- A calculus for runs on plain data (part 2): whoever runs code on data, with its owners checked, runs the program. No conditions. -/
import Derived.Test.YtjfgchodolnmcaaGreatOwn0
set_option linter.unusedVariables false
set_option linter.unusedSimpArgs false
set_option linter.unnecessarySimpa false
namespace Go.Own
open Go.RowKit

def B.put(F:FA)(b:B)(d:Nat)(f:Nat→Nat→K):B:=
 { sl:=(d,qM (F.shOf d) f)::b.sl.filter (fun q=> !(Nat.beq q.1 d)&& !(aX d (aI (F.shOf q.1)))),ob:=b.ob }

theorem HF{F:FA}{b:B}{d:Nat}{f:Nat→Nat→K}{i:Nat}:(b.put F d f).has i=(Nat.beq i d||(!(aX d (aI (F.shOf i)))&&b.has i)):=by
 simp only[B.has,B.put,dK]; cases h:Nat.beq i d with
 | true=>rfl
 | false=>
  simp only[z11,z40]; rw[fN (fun i=> !(Nat.beq i d)&& !(aX d (aI (F.shOf i)))) i b.sl]
  simp only[h,RH,z32]; cases aX d (aI (F.shOf i))<;>simp

theorem dQ{i d:Nat}(h:i≠d):Nat.beq i d=false:=by
 cases e:Nat.beq i d with
 | false=>rfl
 | true=>exact absurd (z16 e) h

theorem NG{F:FA}{b:B}{d:Nat}{f:Nat→Nat→K}{i k j:Nat}(h:i≠d)(hr:aX d (aI (F.shOf i))=false):(b.put F d f).get (.s i k j)=b.get (.s i k j):=by
 simp only[B.get,B.put,dK,dQ h,z11]; rw[fN (fun i=> !(Nat.beq i d)&& !(aX d (aI (F.shOf i)))) i b.sl]
 simp only[dQ h,hr,RH,z87,if_true]

theorem Ba{F:FA}{b:B}{d:Nat}{f:Nat→Nat→K}{k j:Nat}:(b.put F d f).get (.s d k j)=CU (qM (F.shOf d) f) k j:=by
 simp only[B.get,B.put,dK,z42,z15]

theorem Ag.put{F:FA}{b:B}{x:D}(h:Ag F b x){d:Nat}{r:V}{f:Nat→Nat→K}(hr:r= .tup []∨fits r (F.shOf d)=true):Ag F (b.put F d f) (x.put d r):=by
 refine⟨fun i hi=> ?_,h.ob⟩
 by_cases e:i=d
 ·subst e; simpa [D.put]using hr
 ·simp only[D.put,z14 e]
  rw[HF,dQ e]at hi; simp only[z40,z7]at hi; exact h.sl i hi.2

theorem ED{s:St}{d:Nat}{r:V}{κ:Nat→Nat→K}{k j:Nat}:(s.put d r κ).fl (.s d k j)=κ k j:=by simp [St.put]

theorem HE{F:FA}{n:Nat}{b:B}{x:D}{s:St}(hA:Ag F b x)(h:Low n b x s){d:Nat}{r:V}{κ f:Nat→Nat→K}(hr:r= .tup []∨fits r (F.shOf d)=true)
  (hl: ∀k j t,r.leaf k j=some t→(κ k j).lo (f k j)=true)(hc: ∀k xs,r.comp k=some (.cp xs)→(κ k 0).lo (f k 0)=true)(ha:aI r≠ .none→f 0 0≠ .D→κ 0 0≠ .D):
  Low n (b.put F d f) (x.put d r) (s.put d r κ):=by
 have hhas: ∀i,i≠d→(b.put F d f).has i=true→b.has i=true∧aX d (aI (F.shOf i))=false:=fun i e hi=>by
  rw[HF,dQ e]at hi; simpa [and_comm]using hi
 have hroot: ∀i,i≠d→(b.put F d f).has i=true→aX d (aI (s.sl i))=false:=fun i e hi=>by
  obtain⟨h1,h2⟩:=hhas i e hi; rw[h.sl i h1]; rcases hA.sl i h1 with e2 | e2
  ·rw[e2]; rfl
  ·rw[eP e2]; exact h2
 have hkd: ∀i k j,i≠d→(b.put F d f).has i=true→(b.put F d f).kd (.s i k j)=b.kd (.s i k j):=fun i k j e hi=>by
  simp only[B.kd,NG e (hhas i e hi).2]
 have hfl: ∀i k j,i≠d→(b.put F d f).has i=true→(s.put d r κ).fl (.s i k j)=s.fl (.s i k j):=fun i k j e hi=>by
  simp only[St.put,z14 e]; rw[z14]; rintro ⟨_,_,h3⟩
  rw[hroot i e hi]at h3; cases h3
 have hnf:fits r (F.shOf d)=true∨((∀k j t,r.leaf k j≠some t)∧(∀k xs,r.comp k≠some (.cp xs))∧aI r= .none):=by
  rcases hr with e | e
  ·right
   subst e; refine⟨fun k j t=> ?_,fun k xs=> ?_,rfl⟩
   ·cases k<;>simp [V.leaf,W.leaf]
   ·cases k<;>simp [V.comp]
  ·exact .inl e
 refine⟨h.n,fun i hi=> ?_,fun o ho=>h.ob o ho,fun l t hL ht=> ?_,fun i k xs hi hx=> ?_,fun i hi hr' hf=> ?_⟩
 ·by_cases e:i=d
  ·subst e; simp [St.put,D.put]
  ·simp only[St.put,D.put,z14 e]; exact h.sl i (hhas i e hi).1
 ·cases l with
  | s i k j=>
   by_cases e:i=d
   ·subst e
    have ht':r.leaf k j=some t:=by simpa [D.at,atL,D.put]using ht
    rcases hnf with h1 | h1
    ·rw[ED]
     simp only[B.kd,Ba]; rw[CP h1 f ht']; exact hl k j t ht'
    ·exact absurd ht' (h1.1 k j t)
   ·rw[hfl i k j e hL,hkd i k j e hL]
    refine h.fl (.s i k j) t (hhas i e hL).1 ?_
    simpa [D.at,atL,D.put,e]using ht
  | oc o j=>exact h.fl (.oc o j) t hL ht
  | _=>cases hL
 ·by_cases e:i=d
  ·subst e
   have hx':r.comp k=some (.cp xs):=by simpa [D.put]using hx
   rcases hnf with h1 | h1
   ·rw[ED]
    simp only[B.kd,Ba]; rw[Gl h1 f hx']; exact hc k xs hx'
   ·exact absurd hx' (h1.2.1 k xs)
  ·rw[hfl i k 0 e hi,hkd i k 0 e hi]
   exact h.cp i k xs (hhas i e hi).1 (by simpa [D.put,e]using hx)
 ·by_cases e:i=d
  ·subst e
   have hr2:aI r≠ .none:=by simpa [D.put]using hr'
   rcases hnf with h1 | h1
   ·rw[ED]
    simp only[B.kd,Ba]at hf; rw[Jw h1 f hr2]at hf; exact ha hr2 hf
   ·exact absurd h1.2.2 hr2
  ·rw[hfl i 0 0 e hi]
   rw[hkd i 0 0 e hi]at hf; exact h.al i (hhas i e hi).1 (by simpa [D.put,e]using hr') hf

def B.setf(F:FA)(b:B)(R:Loc→Bool)(f:Loc→K→K):B:=(b.mapK f).filt fun i=> !(R (aI (F.shOf i)))

theorem sA{F:FA}{b:B}{R:Loc→Bool}{f:Loc→K→K}{i:Nat}:(b.setf F R f).has i=(!(R (aI (F.shOf i)))&&b.has i):=by
 rw[B.setf,fP,MO]
theorem gV{F:FA}{b:B}{R:Loc→Bool}{f:Loc→K→K}{o:Nat}:(b.setf F R f).hasO o=b.hasO o:=by
 rw[B.setf,Aa,JH]

theorem wB{F:FA}{b:B}{R:Loc→Bool}{f:Loc→K→K}{l:Loc}(h:(b.setf F R f).hasL l=true):(b.setf F R f).get l=(b.get l).map (f l):=by
 rw[B.setf,AL]; cases l with
 | s i k j=>
  have h:(b.setf F R f).has i=true:=h; rw[sA,z7]at h; simp only; rw[z19 h.1,Ha]
 | _=>exact Ha _ _ _

theorem Ag.setf{F:FA}{b:B}{x:D}(h:Ag F b x)(R:Loc→Bool)(f:Loc→K→K):Ag F (b.setf F R f) x:=by
 refine⟨fun i hi=>h.sl i ?_,fun o ho=>h.ob o ?_⟩
 ·rw[sA,z7]at hi; exact hi.2
 ·rw[gV]at ho; exact ho

theorem kQ{F:FA}{n:Nat}{b:B}{x:D}{s:St}(hA:Ag F b x)(h:Low n b x s){R:Loc→Bool}{f:Loc→K}{f':Loc→K→K}(hR:R .none=false)
  (hl: ∀l,b.hasL l=true→(s.fl l).lo (b.kd l)=true→(f l).lo (f' l (b.kd l))=true)(ha: ∀i,b.has i=true→(b.kd (.s i 0 0)≠ .D→s.fl (.s i 0 0)≠ .D)→f' (.s i 0 0) (b.kd (.s i 0 0))≠ .D→f (.s i 0 0)≠ .D):
  Low n (b.setf F R f') x (s.setf R f):=by
 have hhas: ∀i,(b.setf F R f').has i=true→b.has i=true∧R (aI (F.shOf i))=false:=fun i hi=>by
  rw[sA]at hi; simpa [and_comm]using hi
 have hroot: ∀i,(b.setf F R f').has i=true→R (aI (s.sl i))=false:=fun i hi=>by
  obtain⟨h1,h2⟩:=hhas i hi; rw[h.sl i h1]; rcases hA.sl i h1 with e2 | e2
  ·rw[e2]; exact hR
  ·rw[eP e2]; exact h2
 have hfl: ∀i k j,(b.setf F R f').has i=true→(s.setf R f).fl (.s i k j)=f (.s i k j):=fun i k j hi=>by
  simp only[St.setf]; rw[z14]; rintro ⟨_,_,h3⟩
  rw[hroot i hi]at h3; cases h3
 have key: ∀l,(b.setf F R f').hasL l=true→(b.hasL l=true):=fun l hL=>by
  cases l with
  | s i k j=>exact(hhas i hL).1
  | oc o j=>have hL:(b.setf F R f').hasO o=true:=hL; rw[gV]at hL; exact hL
  | _=>cases hL
 have hkd: ∀l,(b.setf F R f').hasL l=true→(b.setf F R f').kd l= .D∨(b.setf F R f').kd l=f' l (b.kd l):=fun l hL=>by
  simp only[B.kd,wB hL]; cases b.get l with
  | none=>exact .inl rfl
  | some q=>exact .inr rfl
 have hlo: ∀l,(b.setf F R f').hasL l=true→(s.fl l).lo (b.kd l)=true→(f l).lo ((b.setf F R f').kd l)=true:=fun l hL h1=>by
  rcases hkd l hL with e | e
  ·rw[e]; exact Ik _
  ·rw[e]; exact hl l (key l hL) h1
 refine⟨h.n,fun i hi=>h.sl i (hhas i hi).1,fun o ho=>h.ob o (by rw[gV]at ho; exact ho),fun l t hL ht=> ?_,fun i k xs hi hx=> ?_,fun i hi hr hf=> ?_⟩
 ·have h1:=hlo l hL (h.fl l t (key l hL) ht)
  cases l with
  | s i k j=>rw[hfl i k j hL]; exact h1
  | oc o j=>exact h1
  | _=>cases hL
 ·rw[hfl i k 0 hi]
  exact hlo (.s i k 0) hi (h.cp i k xs (hhas i hi).1 hx)
 ·rw[hfl i 0 0 hi]
  rcases hkd (.s i 0 0) hi with e | e
  ·exact absurd e hf
  ·rw[e]at hf
   exact ha i (hhas i hi).1 (fun hk=>h.al i (hhas i hi).1 hr hk) hf

def jR(M:List (Loc×Loc))(l:Loc):Bool:=M.all fun m=> !(decide (l=m.1))&& !(decide (l=m.2))
def B.mvs(F:FA)(b:B)(M:List (Loc×Loc)):B:=match M with
 | []=>b
 | _=>b.setf F (fun l=> !(jR M l)) (fun l _=>mvK M b.kd l)

theorem SC(M:List (Loc×Loc)): ∀ {f g:Loc→K} {l:Loc},(f l).lo (g l)=true→(∀m∈M,(f m.1).lo (g m.1)=true∧(f m.2).lo (g m.2)=true)→(mvK M f l).lo (mvK M g l)=true:=by
 induction M with
 | nil=>intro f g l h _; exact h
 | cons m r ih=>
  intro f g l h hM; obtain⟨a,b⟩:=m; have ha:=(hM (a,b) z34).1; have key: ∀m,(f m).lo (g m)=true→(if m=b then f a else if m=a then(f a).cp else f m).lo (if m=b then g a else if m=a then(g a).cp else g m)=true:=fun m hm=>by
   by_cases e1:m=b
   ·rw[z19 e1,z19 e1]; exact ha
   ·rw[z14 e1,z14 e1]
    by_cases e2:m=a
    ·rw[z19 e2,z19 e2]; exact lo_cp ha
    ·rw[z14 e2,z14 e2]; exact hm
  exact ih (key l h) (fun m' hm'=>by
   obtain⟨h1,h2⟩:=hM m' (z29 _ hm'); exact⟨key _ h1,key _ h2⟩)

theorem Ag.mvs{F:FA}{b:B}{x:D}(h:Ag F b x)(M:List (Loc×Loc)):Ag F (b.mvs F M) x:=by
 cases M with
 | nil=>exact h
 | cons m r=>exact h.setf (fun l=> !(jR (m::r) l)) (fun l _=>mvK (m::r) b.kd l)

theorem Kg{F:FA}{n:Nat}{b:B}{x:D}{s:St}(hA:Ag F b x)(h:Low n b x s){M:List (Loc×Loc)}(hM: ∀m∈M,(b.hasL m.1=true∧ ∃t,x.at m.1=some t)∧(b.hasL m.2=true∧ ∃t,x.at m.2=some t)):
  Low n (b.mvs F M) x (s.mvs M):=by
 cases hM0:M with
 | nil=>exact h
 | cons m0 r0=>
 have hB:b.mvs F (m0::r0)=b.setf F (fun l=> !(jR M l)) (fun l _=>mvK M b.kd l):=by rw[←hM0,hM0]; rfl
 rw[hB, ←hM0]; have hat: ∀l,b.hasL l=true→s.at l=x.at l:=fun l hL=>by
  cases l with
  | s i k j=>rw[St.at_s,h.sl i hL]; rfl
  | oc o j=>rw[St.at_oc,h.ob o hL]; rfl
  | _=>cases hL
 have hMs: ∀m∈M,(∃y,s.at m.1=some y)∧(∃y,s.at m.2=some y):=fun m hm=>by
  obtain⟨⟨h1,t1,e1⟩,h2,t2,e2⟩:=hM m hm; exact⟨⟨t1,(hat _ h1).trans e1⟩,⟨t2,(hat _ h2).trans e2⟩⟩
 have hMn: ∀m∈M,m.1≠ .none∧m.2≠ .none:=fun m hm=>by
  obtain⟨⟨y1,h1⟩,⟨y2,h2⟩⟩:=hMs m hm; exact⟨(Hj h1).1,(Hj h2).1⟩
 have hMlo: ∀m∈M,(s.fl m.1).lo (b.kd m.1)=true∧(s.fl m.2).lo (b.kd m.2)=true:=fun m hm=>by
  obtain⟨⟨h1,t1,e1⟩,h2,t2,e2⟩:=hM m hm; exact⟨h.fl _ t1 h1 e1,h.fl _ t2 h2 e2⟩
 have hhas: ∀i,(b.setf F (fun l=> !(jR M l)) (fun l _=>mvK M b.kd l)).has i=true→b.has i=true∧jR M (aI (F.shOf i))=true:=fun i hi=>by
  rw[sA]at hi; simpa [and_comm]using hi
 have hkd: ∀l,(b.setf F (fun l=> !(jR M l)) (fun l _=>mvK M b.kd l)).hasL l=true→(b.setf F (fun l=> !(jR M l)) (fun l _=>mvK M b.kd l)).kd l= .D∨
   (b.setf F (fun l=> !(jR M l)) (fun l _=>mvK M b.kd l)).kd l=mvK M b.kd l:=fun l hL=>by
  simp only[B.kd,wB hL]; cases b.get l with
  | none=>exact .inl rfl
  | some q=>exact .inr rfl
 have hapart: ∀l,jR M l=true→ ∀m∈M,l≠m.1∧l≠m.2:=fun l hl m hm=>by
  have:=z18.1 hl m hm; simpa using this
 have hnd: ∀i k,b.has i=true→(∀t,(x.sl i).leaf k 0≠some t)→ ∀m∈M,Loc.s i k 0≠m.1∧Loc.s i k 0≠m.2:=fun i k hi hno m hm=>by
  obtain⟨⟨h1,t1,e1⟩,h2,t2,e2⟩:=hM m hm; refine⟨fun e=> ?_,fun e=> ?_⟩
  ·rw[←e]at e1; exact hno t1 e1
  ·rw[←e]at e2; exact hno t2 e2
 have hflo: ∀i k,b.has i=true→jR M (aI (F.shOf i))=true→(∀t,(x.sl i).leaf k 0≠some t)→(s.mvs M).fl (.s i k 0)=s.fl (.s i k 0)∧mvK M b.kd (.s i k 0)=b.kd (.s i k 0):=fun i k hi hra hno=>by
  have hap:=hnd i k hi hno; refine⟨?_,Uj M hap⟩
  have hr: ∀m∈M,aI (s.sl i)≠m.1∧aI (s.sl i)≠m.2:=by
   rw[h.sl i hi]; rcases hA.sl i hi with e | e
   ·rw[e]; exact fun m hm=>⟨Ne.symm (hMn m hm).1,Ne.symm (hMn m hm).2⟩
   ·rw[eP e]; exact hapart _ hra
  exact LU M hr hap
 refine⟨(YY M s).trans h.n,fun i hi=>by rw[YW]; exact h.sl i (hhas i hi).1,fun o ho=>by rw[YX]; rw[gV]at ho; exact h.ob o ho,fun l t hL ht=> ?_,fun i k xs hi hx=> ?_,fun i hi hr hf=> ?_⟩
 ·have hLb:b.hasL l=true:=by
   cases l with
   | s i k j=>exact(hhas i hL).1
   | oc o j=>have hL:(b.setf F _ _).hasO o=true:=hL; rw[gV]at hL; exact hL
   | _=>cases hL
  rcases hkd l hL with e | e
  ·rw[e]; exact Ik _
  ·rw[e,YZ M ((hat l hLb).trans ht) hMs hMn]
   exact SC M (h.fl l t hLb ht) hMlo
 ·obtain⟨h1,h2⟩:=hhas i hi
  have hno: ∀t,(x.sl i).leaf k 0≠some t:=fun t ht=>by
   cases hv:x.sl i with
   | one w=>
    rw[hv]at hx ht; cases k with
    | zero=>simp only[V.comp,z10]at hx; subst hx; simp [V.leaf,W.leaf]at ht
    | succ k=>simp [V.comp]at hx
   | tup ws=>rw[hv]at hx ht; simp only[V.comp]at hx; simp [V.leaf,hx,W.leaf]at ht
  obtain⟨e1,e2⟩:=hflo i k h1 h2 hno; rcases hkd (.s i k 0) hi with e | e
  ·rw[e]; exact Ik _
  ·rw[e,e1,e2]; exact h.cp i k xs h1 hx
 ·obtain⟨h1,h2⟩:=hhas i hi
  have hno: ∀t,(x.sl i).leaf 0 0≠some t:=fun t ht=>hr (by
   rcases hA.sl i h1 with e | e
   ·rw[e]; rfl
   ·rw[eP e]; exact hA.leaf_root h1 ht)
  obtain⟨e1,e2⟩:=hflo i 0 h1 h2 hno; rcases hkd (.s i 0 0) hi with e | e
  ·exact absurd e hf
  ·rw[e,e2]at hf
   rw[e1]; exact h.al i h1 hr hf
end Go.Own

namespace Go.Own
open Go.RowKit

def Fa(d:Nat):W→Bool
  | .ptr o _=>Nat.beq o d
  | .fn _ cs=>cs.any fun c=>decide (c.1=d)
  | _=>false
def Tk(d:Nat):V→Bool
  | .one w=>Fa d w
  | .tup ws=>ws.any (Fa d)

theorem Gh{d:Nat}{w:W}(h:Fa d w=false):w.kill d=w:=by
  cases w with
  | ptr o p=>
    have:o≠d:=fun e=>by subst e; simp [Fa,z42]at h
    simp [W.kill,this]
  | fn f cs=>
    show(if(cs.any fun c=>c.1 == d)then W.junk else W.fn f cs)=W.fn f cs
    rw[z14]; intro e; have h:(cs.any fun c=>decide (c.1=d))=false:=h
    rw[show(fun c:Nat×Nat=>c.1 == d)=fun c=>decide (c.1=d)from rfl,h]at e
    cases e
  | _=>rfl

theorem JF{d:Nat}{v:V}(h:Tk d v=false):v.kill d=v:=by
  cases v with
  | one w=>exact congrArg V.one (Gh h)
  | tup ws=>
    have h':ws.any (Fa d)=false:=h; rw[Xg]at h'; simp only[V.kill]; congr 1
    exact(z49 fun w hw=>Gh (by simpa using h' w hw)).trans (List.map_id ws)

theorem Gq{d:Nat}{v s:W}(h:bX v s=true)(hs:Fa d s=false):Fa d v=false:=by
  cases v<;>cases s<;>simp only[bX,z7,z54]at h<;>first | rfl | skip
  · obtain⟨h1,_⟩:=h
    rw[z16 h1]; exact hs
  · obtain⟨_,h2⟩:=h
    have:=of_decide_eq_true h2; subst this; exact hs

theorem Ed{d:Nat}: ∀ {xs ys:List W},nJ xs ys=true→ys.any (Fa d)=false→xs.any (Fa d)=false
  | [],[],_,_=>rfl
  | [],_::_,h,_=>by simp [nJ]at h
  | _::_,[],h,_=>by simp [nJ]at h
  | x::xs,y::ys,h,hs=>by
    simp only[nJ,z7]at h; simp only[Vl,z43]at hs ⊢; exact⟨Gq h.1 hs.1,Ed h.2 hs.2⟩

theorem JV{d:Nat}{v s:V}(h:fits v s=true)(hs:Tk d s=false):Tk d v=false:=by
  cases v with
  | one w=>cases s with
    | one y=>exact Gq h hs
    | tup ys=>simp [fits]at h
  | tup ws=>cases s with
    | one y=>simp [fits]at h
    | tup ys=>exact Ed h hs

def wP(F:FA)(d i:Nat):Bool:= !(Nat.beq i d)&& !(aX d (aI (F.shOf i)))&& !(wA d (aI (F.shOf i)))&& !(Tk d (F.shOf i))

def B.alloc(F:FA)(b:B)(d:Nat)(κ:Nat→K):B:=
  { sl:=(d,[[.S]])::b.sl.filter (fun q=>wP F d q.1)
    ob:=(d,RN κ 0 (F.obOf d))::b.ob.filter (fun q=> !(Nat.beq q.1 d)) }

theorem EQ{F:FA}{b:B}{d:Nat}{κ:Nat→K}{i:Nat}:(b.alloc F d κ).has i=(Nat.beq i d||(wP F d i&&b.has i)):=by
  simp only[B.has,B.alloc,dK]; cases h:Nat.beq i d with
  | true=>rfl
  | false=>
    simp only[z11,z40]; rw[fN (wP F d) i b.sl]; cases wP F d i<;>simp

theorem Bk{F:FA}{b:B}{d:Nat}{κ:Nat→K}{o:Nat}:(b.alloc F d κ).hasO o=(Nat.beq o d||b.hasO o):=by
  simp only[B.hasO,B.alloc,dK]; cases h:Nat.beq o d with
  | true=>rfl
  | false=>
    simp only[z11,z40]; rw[fN (fun o=> !(Nat.beq o d)) o b.ob]
    simp [h]

theorem KF{F:FA}{b:B}{d:Nat}{κ:Nat→K}{i k j:Nat}(h:i≠d)(hp:wP F d i=true):(b.alloc F d κ).get (.s i k j)=b.get (.s i k j):=by
  simp only[B.get,B.alloc,dK,dQ h,z11]; rw[fN (wP F d) i b.sl,z19 hp]
theorem FU{F:FA}{b:B}{d:Nat}{κ:Nat→K}{o j:Nat}(h:o≠d):(b.alloc F d κ).get (.oc o j)=b.get (.oc o j):=by
  simp only[B.get,B.alloc,dK,dQ h,z11]; rw[fN (fun o=> !(Nat.beq o d)) o b.ob]
  simp [dQ h]

theorem Ag.alloc{F:FA}{b:B}{x:D}(h:Ag F b x){d:Nat}{cells:List T}{κ:Nat→K}(hs:F.shOf d= .one (.ptr d 0))(hc:fY cells (F.obOf d)=true):Ag F (b.alloc F d κ) ((x.put d (.one (.ptr d 0))).setO d cells):=by
  refine⟨fun i hi=> ?_,fun o ho=> ?_⟩
  · by_cases e:i=d
    · subst e
      right
      simp [D.setO,D.put,hs,fits,bX]
    · simp only[D.setO,D.put,z14 e]
      rw[EQ,dQ e]at hi; simp only[z40,z7]at hi; exact h.sl i hi.2
  · by_cases e:o=d
    · subst e
      exact⟨cells,by simp [D.setO],hc⟩
    · simp only[D.setO,D.put,z14 e]
      rw[Bk,dQ e]at ho; exact h.ob o (by simpa using ho)

theorem Jg{F:FA}{n:Nat}{b:B}{x:D}{s:St}(hA:Ag F b x)(h:Low n b x s){d:Nat}{cells:List T}{κ f:Nat→K}(hc:fY cells (F.obOf d)=true)(hl: ∀j,(κ j).lo (f j)=true):
    Low n (b.alloc F d f) ((x.put d (.one (.ptr d 0))).setO d cells) (s.alloc d cells κ):=by
  have hhas: ∀i,i≠d→(b.alloc F d f).has i=true→b.has i=true∧wP F d i=true:=fun i e hi=>by
    rw[EQ,dQ e]at hi; simpa [and_comm]using hi
  have hall: ∀i,i≠d→(b.alloc F d f).has i=true→(aX d (aI (s.sl i))||wA d (aI (s.sl i)))=false∧Tk d (s.sl i)=false:=fun i e hi=>by
    obtain⟨h1,h2⟩:=hhas i e hi; rw[h.sl i h1]; rcases hA.sl i h1 with e2 | e2
    · rw[e2]; exact⟨rfl,rfl⟩
    · rw[eP e2]
      simp only[wP,z7,z38]at h2; exact⟨by simp [h2.1.1.2,h2.1.2],JV e2 h2.2⟩
  have hkd: ∀i k j,i≠d→(b.alloc F d f).has i=true→(b.alloc F d f).kd (.s i k j)=b.kd (.s i k j):=fun i k j e hi=>by
    simp only[B.kd,KF e (hhas i e hi).2]
  have hfl: ∀i k j,i≠d→(b.alloc F d f).has i=true→(s.alloc d cells κ).fl (.s i k j)=s.fl (.s i k j):=fun i k j e hi=>by
    simp only[St.alloc,z14 e]; rw[z14]; rintro ⟨_,_,h3⟩
    rw[(hall i e hi).1]at h3; cases h3
  have hO: ∀o,o≠d→(b.alloc F d f).hasO o=true→b.hasO o=true:=fun o e ho=>by
    rw[Bk,dQ e]at ho; simpa using ho
  refine⟨h.n,fun i hi=> ?_,fun o ho=> ?_,fun l t hL ht=> ?_,fun i k xs hi hx=> ?_,fun i hi hr' hf=> ?_⟩
  · by_cases e:i=d
    · subst e; simp [St.alloc,D.put,D.setO]
    · simp only[St.alloc,D.put,D.setO,z14 e]
      rw[JF (hall i e hi).2]; exact h.sl i (hhas i e hi).1
  · by_cases e:o=d
    · subst e; simp [St.alloc,D.setO]
    · simp only[St.alloc,D.put,D.setO,z14 e]; exact h.ob o (hO o e ho)
  · cases l with
    | s i k j=>
      by_cases e:i=d
      · subst e
        exfalso
        simp only[D.at,atL,D.setO,D.put,if_true]at ht; cases k<;>simp [V.leaf,W.leaf]at ht
      · rw[hfl i k j e hL,hkd i k j e hL]
        refine h.fl (.s i k j) t (hhas i e hL).1 ?_
        simpa [D.at,atL,D.setO,D.put,e]using ht
    | oc o j=>
      by_cases e:o=d
      · subst e
        have ht':cells[j]? =some t:=by simpa [D.at,atL,D.setO]using ht
        have hj:j<(F.obOf o).length:=by rw[←Ac hc]; exact cR ht'
        have e1:(s.alloc o cells κ).fl (.oc o j)=κ j:=by simp [St.alloc]
        have e2:(b.alloc F o f).kd (.oc o j)=f j:=by
          simp only[B.kd,B.get,B.alloc,dK,z42,z15,Ck,z19 hj,z28]
        rw[e1,e2]; exact hl j
      · have e1:(s.alloc d cells κ).fl (.oc o j)=s.fl (.oc o j):=by simp [St.alloc,e]
        have e2:(b.alloc F d f).kd (.oc o j)=b.kd (.oc o j):=by simp only[B.kd,FU e]
        rw[e1,e2]; exact h.fl (.oc o j) t (hO o e hL) (by simpa [D.at,atL,D.setO,D.put,e]using ht)
    | _=>cases hL
  · by_cases e:i=d
    · subst e
      exfalso
      simp only[D.setO,D.put,if_true]at hx; cases k<;>simp [V.comp]at hx
    · rw[hfl i k 0 e hi,hkd i k 0 e hi]
      exact h.cp i k xs (hhas i e hi).1 (by simpa [D.setO,D.put,e]using hx)
  · by_cases e:i=d
    · subst e
      exact absurd (show aI (((x.put i (.one (.ptr i 0))).setO i cells).sl i)= .none from by simp [D.setO,D.put,aI]) hr'
    · rw[hfl i 0 0 e hi]
      rw[hkd i 0 0 e hi]at hf; exact h.al i (hhas i e hi).1 (by simpa [D.setO,D.put,e]using hr') hf

def B.write(F:FA)(b:B)(o p m:Nat)(κ:Nat→K):B:=
  (b.mapK (fun l q=>match l with | .oc o' j=>if Nat.beq o' o&&Nat.ble p j&&Nat.blt j (p+m)then κ (j - p)else q | _=>q)).filt fun i=> !(wA o (aI (F.shOf i)))

theorem AN{F:FA}{b:B}{o p m:Nat}{κ:Nat→K}{i:Nat}:(b.write F o p m κ).has i=(!(wA o (aI (F.shOf i)))&&b.has i):=by rw[B.write,fP,MO]
theorem wX{F:FA}{b:B}{o p m:Nat}{κ:Nat→K}{o':Nat}:(b.write F o p m κ).hasO o'=b.hasO o':=by rw[B.write,Aa,JH]

theorem Ag.write{F:FA}{b:B}{x:D}(h:Ag F b x){o p m:Nat}{cells:List T}{κ:Nat→K}(hc:fY cells (F.obOf o)=true):Ag F (b.write F o p m κ) (x.setO o cells):=by
  refine⟨fun i hi=> ?_,fun o' ho=> ?_⟩
  · rw[AN,z7]at hi; exact h.sl i hi.2
  · rw[wX]at ho
    by_cases e:o'=o
    · subst e; exact⟨cells,by simp [D.setO],hc⟩
    · simp only[D.setO,z14 e]; exact h.ob o' ho

theorem Pi{F:FA}{n:Nat}{b:B}{x:D}{s:St}(hA:Ag F b x)(h:Low n b x s){o p:Nat}{xs cells:List T}{κ:Nat→K}(hc:x.ob o=some cells)(hle:p+xs.length≤cells.length):
    Low n (b.write F o p xs.length κ) (x.setO o (cells.take p++xs++cells.drop (p+xs.length))) (s.write o p xs cells κ):=by
  have hhas: ∀i,(b.write F o p xs.length κ).has i=true→b.has i=true∧wA o (aI (s.sl i))=false:=fun i hi=>by
    rw[AN,z7]at hi; refine⟨hi.2, ?_⟩
    rw[h.sl i hi.2]; rcases hA.sl i hi.2 with e2 | e2
    · rw[e2]; rfl
    · rw[eP e2]; simpa using hi.1
  have hkd: ∀i k j,(b.write F o p xs.length κ).has i=true→(b.write F o p xs.length κ).kd (.s i k j)=b.kd (.s i k j):=fun i k j hi=>by
    have h0:=hi; rw[AN,z7]at h0; rw[B.write,gU (by exact h0.1),PC]
    simp only[B.kd]
  have hfl: ∀i k j,(b.write F o p xs.length κ).has i=true→(s.write o p xs cells κ).fl (.s i k j)=s.fl (.s i k j):=fun i k j hi=>by
    simp only[St.write]; rw[z14]; rintro ⟨_,_,h3⟩
    rw[(hhas i hi).2]at h3; cases h3
  refine⟨h.n,fun i hi=>h.sl i (hhas i hi).1,fun o' ho=> ?_,fun l t hL ht=> ?_,fun i k ys hi hx=> ?_,fun i hi hr' hf=> ?_⟩
  · rw[wX]at ho
    by_cases e:o'=o
    · subst e; simp [St.write,D.setO]
    · simp only[St.write,D.setO,z14 e]; exact h.ob o' ho
  · cases l with
    | s i k j=>rw[hfl i k j hL,hkd i k j hL]; exact h.fl (.s i k j) t (hhas i hL).1 ht
    | oc o' j=>
      have hL':b.hasO o'=true:=by have hL:(b.write F o p xs.length κ).hasO o'=true:=hL; rw[wX]at hL; exact hL
      have e2:(b.write F o p xs.length κ).kd (.oc o' j)=match b.get (.oc o' j)with | some q=>(if Nat.beq o' o&&Nat.ble p j&&Nat.blt j (p+xs.length)then κ (j - p)else q) | none=> .D:=by
        rw[B.write,Gr,PC]; cases b.get (.oc o' j)<;>rfl
      rw[e2]; show(if o'=o∧p≤j∧j<p+xs.length then κ (j - p)else s.fl (.oc o' j)).lo _=true
      by_cases e:o'=o∧p≤j∧j<p+xs.length
      · rw[z19 e]
        have hb:(Nat.beq o' o&&Nat.ble p j&&Nat.blt j (p+xs.length))=true:=by
          obtain⟨rfl,h1,h2⟩:=e; simp [z42,Nat.blt,h1,Nat.succ_le_of_lt h2]
        cases b.get (.oc o' j)with
        | none=>exact Ik _
        | some q=>simp only[hb,if_true]; exact dR _
      · rw[z14 e]
        have hb:(Nat.beq o' o&&Nat.ble p j&&Nat.blt j (p+xs.length))=false:=by
          rw[Bool.eq_false_iff]; intro hh; simp only[z7]at hh; exact e ⟨z16 hh.1.1,z33 hh.1.2,z33 hh.2⟩
        have ht':x.at (.oc o' j)=some t:=by
          by_cases eo:o'=o
          · subst eo
            have hj: ¬ (p≤j∧j<p+xs.length):=fun h=>e ⟨rfl,h⟩
            simp only[D.at,atL,D.setO,if_true,z8]at ht ⊢; rw[sD cells xs p hle j,z14 hj]at ht; rw[hc]; exact ht
          · simpa [D.at,atL,D.setO,eo]using ht
        have h1:=h.fl (.oc o' j) t hL' ht'; simp only[B.kd]at h1; cases hg:b.get (.oc o' j)with
        | none=>exact Ik _
        | some q=>rw[hg]at h1; simp only[hb]; exact h1
    | _=>cases hL
  · rw[hfl i k 0 hi,hkd i k 0 hi]; exact h.cp i k ys (hhas i hi).1 hx
  · rw[hfl i 0 0 hi]
    rw[hkd i 0 0 hi]at hf; exact h.al i (hhas i hi).1 hr' hf
end Go.Own

namespace Go.Own
open Go.RowKit

def mem(d:Nat):List Nat→Bool
 | []=>false
 | i::r=>Nat.beq d i||mem d r

def sU(F:FA)(x:D)(d:Nat)(v:V):Option D:=bif fits v (F.shOf d)then some (x.put d v)else none

theorem cM{F:FA}{x x':D}{d:Nat}{v:V}(h:sU F x d v=some x'):fits v (F.shOf d)=true∧x'=x.put d v:=by
 unfold sU at h; cases e:fits v (F.shOf d)with
 | true=>rw[e]at h; simp only[z15,z10]at h; exact⟨rfl,h.symm⟩
 | false=>rw[e]at h; cases h

structure OpS (P:Program) (F:FA) (n:Nat) (o:Oper) (b:B) (x:D) (b':B) (x':D):Prop where
 ag:Ag F b' x'
 ok: ∀g0 w0,pW P g0 w0 o (b.S n x) (b'.S n x')

theorem OpS.fin{P:Program}{F:FA}{n:Nat}{o:Oper}{b:B}{x:D}{b':B}{x':D}{s:St}(hA:Ag F b' x')(h: ∀g0 w0,pW P g0 w0 o (b.S n x) s)(hL:Low n b' x' s):OpS P F n o b x (b'.nrm F) x':=
 ⟨hA.nrm,fun g0 w0=>(h g0 w0).relax (hL.le hA)⟩

def dO(b:B):Operand→Bool
 | .tmp t=>b.has t
 | _=>true
def oP(F:FA):Operand→V
 | .tmp t=>F.shOf t
 | .const v=>bQ v
 | .func f=> .one (.fn f [])
 | .global _=> .one .junk
def GZ(b:B):Operand→Nat→Nat→K
 | .tmp t,k,j=>(b.kd (.s t k j)).cp
 | .const v,k,j=>jF (bQ v) k j
 | _,_,_=> .S

theorem tR{n:Nat}{b:B}{x:D}{v:Operand}:opK (b.S n x) v=GZ b v:=by cases v<;>rfl

theorem rG{n:Nat}{b:B}{x:D}{t:Nat}(h:b.has t=true):(b.S n x).sl t=x.sl t:=by simp only[B.S]; rw[z19 h]
theorem Lz{n:Nat}{b:B}{x:D}{t:Nat}(h:b.hasO t=true):(b.S n x).ob t=x.ob t:=by simp only[B.S]; rw[z19 h]
theorem pG{n:Nat}{b:B}{x:D}{v:Operand}(h:dO b v=true):ev (b.S n x).sl v=ev x.sl v:=by
 cases v with
 | tmp t=>exact rG h
 | _=>rfl

theorem Ag.fits{F:FA}{b:B}{x:D}(hA:Ag F b x){t:Nat}(h:b.has t=true)(hj:x.sl t≠ .tup []):fits (x.sl t) (F.shOf t)=true:=by
 rcases hA.sl t h with e | e
 ·exact absurd e hj
 ·exact e

def gH:V→Bool
 | .tup []=>false
 | _=>true
theorem Iu{v:V}(h:gH v=true):v≠ .tup []:=fun e=>by subst e; cases h

theorem zN(v:Value):aI (bQ v)= .none:=by unfold bQ; (repeat' split)<;>rfl

theorem PU{F:FA}{b:B}{x:D}(hA:Ag F b x){v:Operand}(h:dO b v=true):aI (ev x.sl v)≠ .none→aI (ev x.sl v)=aI (oP F v):=by
 cases v with
 | tmp t=>
  intro h1; rcases hA.sl t h with e | e
  ·exact absurd (show aI (x.sl t)= .none by rw[e]; rfl) h1
  ·exact eP e
 | _=>intro _; rfl

def range':Nat→Nat→List Nat
 | _,0=> []
 | i,m+1=>i::range' (i+1) m
theorem rD: ∀ {m i j:Nat},j∈range' i m↔i≤j∧j<i+m
 | 0,i,j=>by
  simp only[range',Vp,false_iff]; omega
 | m+1,i,j=>by
  simp only[range',Qg,rD (m:=m)]; omega
def HL:W→List Nat
 | .c _=> [0]
 | .ag xs=>range' 0 xs.length
 | _=> []
def AH:Nat→List W→List (Nat×Nat)
 | _,[]=> []
 | k,w::r=>(HL w).map (fun j=>(k,j))++AH (k+1) r
def nI:V→List (Nat×Nat)
 | .one w=>(HL w).map fun j=>(0,j)
 | .tup ws=>AH 0 ws

theorem Gi{x y:W}(h:bX x y=true){j:Nat}(hj:j∈HL y): ∃t,x.leaf j=some t:=by
 cases y<;>simp only[HL,Vp,z67]at hj<;>try exact absurd hj (by simp)
 ·subst hj
  cases x<;>simp [bX]at h
  exact⟨_,rfl⟩
 ·rename_i ys
  cases x<;>simp [bX]at h
  rename_i xs; have:=(rD.1 hj).2; rw[z28, ←Ac h]at this; exact⟨xs[j],z12 this⟩

theorem EZ: ∀ {ys:List W} {xs:List W} {k0 k j:Nat},nJ xs ys=true→(k,j)∈AH k0 ys→ ∃w t,xs[k - k0]? =some w∧w.leaf j=some t∧k0≤k
 | [],_,_,_,_,_,hm=>by simp [AH]at hm
 | y::ys,[],_,_,_,h,_=>by simp [nJ]at h
 | y::ys,x::xs,k0,k,j,h,hm=>by
  simp only[nJ,z7]at h; simp only[AH,z91,z50,z41,exists_eq_right_right]at hm; rcases hm with⟨h1,rfl⟩ | hm
  ·obtain⟨t,ht⟩:=Gi h.1 h1
   exact⟨x,t,by simp,ht,z39 _⟩
  ·obtain⟨w,t,h1,h2,h3⟩:=EZ h.2 hm
   refine⟨w,t, ?_,h2,by omega⟩
   rw[show k - k0=(k - (k0+1))+1 by omega,z25]
   exact h1

theorem rP{v s:V}(h:Own.fits v s=true){k j:Nat}(hm:(k,j)∈nI s): ∃t,v.leaf k j=some t:=by
 cases v with
 | one w=>
  cases s with
  | tup ws=>simp [Own.fits]at h
  | one y=>
   simp only[nI,z50,z41,exists_eq_right_right]at hm; obtain⟨h1,rfl⟩:=hm; exact Gi h h1
 | tup ws=>
  cases s with
  | one y=>simp [Own.fits]at h
  | tup ys=>
   obtain⟨w,t,h1,h2,_⟩:=EZ (k0:=0) h hm; exact⟨t,by simp only[V.leaf]; rw[z180]at h1; rw[h1]; exact h2⟩

def holds(F:FA)(b:B)(t:Nat):List (Nat×Nat):=(nI (F.shOf t)).filter fun m=>(b.kd (.s t m.1 m.2)).hold

theorem Ru{F:FA}{b:B}{x:D}(hA:Ag F b x){d:Nat}{r:V}{f:Nat→Nat→K}{l:Loc}{t:T}(h:b.hasL l=true)(hd:aX d l=false)(ht:x.at l=some t):(b.put F d f).hasL l=true∧ ∃t,(x.put d r).at l=some t:=by
 cases l with
 | s i k j=>
  have hi:b.has i=true:=h; have hne:i≠d:=fun e=>by subst e; simp [aX]at hd
  have hr:=hA.leaf_root hi ht; refine⟨?_,t, ?_⟩
  ·show(b.put F d f).has i=true
   rw[HF,dQ hne,hr,hi]; rfl
  ·simpa [D.at,atL,D.put,hne]using ht
 | oc o j=>exact⟨h,t,ht⟩
 | _=>cases h

theorem Uc{F:FA}{b:B}{x:D}{d:Nat}{r:V}{f:Nat→Nat→K}{k j:Nat}(h: ∃t,r.leaf k j=some t):(b.put F d f).hasL (.s d k j)=true∧ ∃t,(x.put d r).at (.s d k j)=some t:=by
 obtain⟨t,h⟩:=h; refine⟨?_,t,by simpa [D.at,atL,D.put]using h⟩
 show(b.put F d f).has d=true; rw[HF,z42]; rfl

theorem OpS.put{P:Program}{F:FA}{n:Nat}{o:Oper}{b:B}{x:D}(hA:Ag F b x){d:Nat}{r:V}{κ:Nat→Nat→K}{M:List (Loc×Loc)}(hr:Own.fits r (F.shOf d)=true)
  (h: ∀g0 w0,pW P g0 w0 o (b.S n x) (((b.S n x).put d r κ).mvs M))(hM: ∀m∈M,(b.hasL m.1=true∧aX d m.1=false∧ ∃t,x.at m.1=some t)∧ ∃k j,m.2= .s d k j∧ ∃t,r.leaf k j=some t):
  OpS P F n o b x (((b.put F d κ).mvs F M).nrm F) (x.put d r):=by
 have h1:=hA.put (f:=κ) (.inr hr); have h2:=HE hA (Low.self n b x) (κ:=κ) (f:=κ) (.inr hr) (fun _ _ _ _=>dR _) (fun _ _ _=>dR _) (fun _ h=>h)
 refine OpS.fin (h1.mvs M) h (Kg h1 h2 (fun m hm=> ?_))
 obtain⟨⟨q1,q2,t,q3⟩,k,j,q4,q5⟩:=hM m hm; refine⟨Ru hA q1 q2 q3, ?_⟩
 rw[q4]; exact Uc q5

def zM(F:FA)(x:D)(d:Nat)(v:Operand):Option D:=bif gH (ev x.sl v)then sU F x d (ev x.sl v)else none
def Qp(F:FA)(b:B)(d:Nat)(take:Bool):Operand→List (Loc×Loc)
 | .tmp t=>bif take then(holds F b t).map fun m=>(.s t m.1 m.2, .s d m.1 m.2)else []
 | _=> []
def HX(d:Nat)(v:V):Bool:=match aI v with | .none=>true | l=> !(aX d l)
def Ia(d:Nat):Operand→Bool
 | .tmp t=> !(Nat.beq t d)
 | _=>true
def UD(F:FA)(b:B)(d:Nat)(take:Bool)(v:Operand):Option B:=
 bif Nat.blt d F.n&&dO b v&&HX d (oP F v)&&Ia d v then some (((b.put F d (GZ b v)).mvs F (Qp F b d take v)).nrm F)else none

theorem cZ{a b:Nat}(h:Nat.blt a b=true):a<b:=z33 h
theorem LR{d:Nat}{v:V}(h:HX d v=true)(hv:aI v≠ .none):aX d (aI v)=false:=by
 unfold HX at h; split at h
 ·rename_i e; exact absurd e hv
 ·simpa using h
theorem AU{d t:Nat}(h:Ia d (.tmp t)=true):t≠d:=fun e=>by subst e; simp [Ia,z42]at h

section
variable {P:Program} {τ:TypeId→Option TI} {F:FA} {o:Oper} {b b':B} {x x':D} {d:Nat}

theorem aK{α:Type}{c:Bool}{a:Option α}{y:α}(h:(bif c then a else none)=some y):c=true∧a=some y:=by
 cases c with
 | true=>exact⟨rfl,h⟩
 | false=>cases h

theorem TP(hA:Ag F b x){v:Operand}{take:Bool}(hd:o.dst=some d)(ho:o.op= .assign v∨o.op= .move v)(h1:zM F x d v=some x')(h2:UD F b d take v=some b'):OpS P F F.n o b x b' x':=by
 obtain⟨c,h2⟩:=aK h2; simp only[z7]at c; obtain⟨⟨⟨c1,c2⟩,c3⟩,c4⟩:=c; cases h2; unfold zM at h1; obtain⟨hth,h1⟩:=aK h1; obtain⟨e1,rfl⟩:=cM h1; have hroot:aI (ev x.sl v)≠ .none→aX d (aI (ev x.sl v))=false:=fun h=>by
  have:=PU hA c2 h; rw[this]at h ⊢; exact LR c3 h
 have hMs: ∀m∈Qp F b d take v, ∃t k j,v= .tmp t∧m=(.s t k j, .s d k j)∧ ∃y,(x.sl t).leaf k j=some y:=fun m hm=>by
  cases v with
  | tmp t=>
   simp only[Qp]at hm; cases take with
   | false=>simp at hm
   | true=>
    simp only[z15,z50]at hm; obtain⟨⟨k,j⟩,hm,rfl⟩:=hm; have hm:=(z80.1 hm).1; refine⟨t,k,j,rfl,rfl, ?_⟩
    have hj:x.sl t≠ .tup []:=Iu hth; exact rP (hA.fits c2 hj) hm
  | _=>simp [Qp]at hm
 refine OpS.put hA e1 (fun g0 w0=> ?_) (fun m hm=> ?_)
 ·have h0: ∀L:List (Nat×Nat),(∀m∈L, ∃t,v= .tmp t∧t≠d∧ ∃y,(x.sl t).leaf m.1 m.2=some y)→_:=fun L hL=>Uk (P:=P) (g0:=g0) (w0:=w0) (st:=b.S F.n x) L hd (cZ c1) ho (by rw[pG c2]; exact hroot) (fun m hm=>by
   obtain⟨t,rfl,h1,y,h2⟩:=hL m hm; exact⟨t,rfl,h1,y,by rw[St.at_s,rG c2]; exact h2⟩)
  rw[pG c2,tR]at h0; cases v with
  | tmp t=>
   cases take with
   | true=>
    exact h0 (holds F b t) (fun m hm=>by
     obtain⟨t',k,j,e,e2,y,e3⟩:=hMs (.s t m.1 m.2, .s d m.1 m.2) (List.mem_map_of_mem (f:=fun m=>(Loc.s t m.1 m.2,Loc.s d m.1 m.2)) hm)
     cases e; simp only[z41,Loc.s.injEq]at e2; obtain⟨⟨_,rfl,rfl⟩,_⟩:=e2; exact⟨t,rfl,AU c4,y,e3⟩)
   | false=>exact h0 [] (fun m hm=>by simp at hm)
  | const u=>exact h0 [] (fun m hm=>by simp at hm)
  | func f=>exact h0 [] (fun m hm=>by simp at hm)
  | global i=>exact h0 [] (fun m hm=>by simp at hm)
 ·obtain⟨t,k,j,rfl,rfl,y,e3⟩:=hMs m hm
  exact⟨⟨c2,by simp [aX,AU c4],y,e3⟩,k,j,rfl,y,e3⟩

def uU(F:FA)(x:D)(d:Nat):Operand→Option D
 | .tmp t=>match x.sl t with
  | .one (.c (.sl _))=>sU F x d (.one (.al (.s t 0 0) []))
  | _=>none
 | _=>none
def OY(F:FA)(b:B)(d:Nat):Operand→Option B
 | .tmp t=>bif Nat.blt d F.n&&b.has t&& !(Nat.beq t d)&&(b.kd (.s t 0 0)).hold then some ((b.put F d (fun _ _=> .F)).nrm F)else none
 | _=>none

theorem Ve(hA:Ag F b x){v:Operand}(hd:o.dst=some d)(ho:o.op= .move v)(h1:uU F x d v=some x')(h2:OY F b d v=some b'):OpS P F F.n o b x b' x':=by
 cases v with
 | tmp t=>
  simp only[OY]at h2; obtain⟨c,h2⟩:=aK h2; simp only[z7]at c; obtain⟨⟨⟨c1,c2⟩,c3⟩,c4⟩:=c; cases h2; simp only[uU]at h1; split at h1<;>try cases h1
  rename_i es hs; obtain⟨e1,rfl⟩:=cM h1; refine OpS.put (M:=[]) hA e1 (fun g0 w0=> ?_) (fun m hm=>by simp at hm)
  exact Su hd (cZ c1) ho (fun e=>by subst e; simp [z42]at c3) (by rw[rG c2]; exact hs) c4
 | _=>cases h2

def pY(F:FA)(x:D)(d k:Nat):Operand→Option D
 | .tmp t=>match x.sl t with
  | .tup ws=>match ws[k]? with | some w=>sU F x d (.one w) | none=>none
  | _=>none
 | _=>none
def Hi(F:FA)(b:B)(d k:Nat):Operand→Option B
 | .tmp t=>bif Nat.blt d F.n&&b.has t&& !(Nat.beq t d)&&decide (aI (F.shOf d)= .none)then
   some (((b.put F d (fun _ j=>(b.kd (.s t k j)).cp)).mvs F (((nI (F.shOf d)).filter fun m=>(b.kd (.s t k m.2)).hold).map fun m=>(.s t k m.2, .s d 0 m.2))).nrm F)else none
 | _=>none

theorem CN{s:V}{w:W}(h:Own.fits (.one w) s=true){k j:Nat}(hm:(k,j)∈nI s):k=0:=by
 cases s with
 | tup ws=>simp [Own.fits]at h
 | one y=>
  simp only[nI,z50,z41,exists_eq_right_right]at hm; exact hm.2.symm

theorem QV(hA:Ag F b x){v:Operand}{k:Nat}(hd:o.dst=some d)(ho:o.op= .extract v k)(h1:pY F x d k v=some x')(h2:Hi F b d k v=some b'):OpS P F F.n o b x b' x':=by
 cases v with
 | tmp t=>
  simp only[Hi]at h2; obtain⟨c,h2⟩:=aK h2; simp only[z7]at c; obtain⟨⟨⟨c1,c2⟩,c3⟩,c4⟩:=c; cases h2; simp only[pY]at h1; split at h1<;>try cases h1
  rename_i ws hs; split at h1<;>try cases h1
  rename_i w hw; obtain⟨e1,rfl⟩:=cM h1; have hne:t≠d:=fun e=>by subst e; simp [z42]at c3
  have hl: ∀j,(0,j)∈nI (F.shOf d)→ ∃y,w.leaf j=some y:=fun j hj=>by
   obtain⟨y,hy⟩:=rP e1 hj; exact⟨y,hy⟩
  refine OpS.put hA e1 (fun g0 w0=> ?_) (fun m hm=> ?_)
  ·have:=NY (P:=P) (g0:=g0) (w0:=w0) (st:=b.S F.n x) (((nI (F.shOf d)).filter fun m=>(b.kd (.s t k m.2)).hold).map (·.2)) hd (cZ c1) ho hne (by rw[rG c2]; exact hs) hw
    (by rw[eP e1]; exact of_decide_eq_true c4) (fun j hj=>by
     obtain⟨⟨k',j'⟩,hm,rfl⟩:=z50.1 hj; have hm:=(z80.1 hm).1; have:=CN e1 hm; subst this; exact hl _ hm)
   rw[Vj]at this; exact this
  ·obtain⟨⟨k',j⟩,hm',rfl⟩:=z50.1 hm
   have hm':=(z80.1 hm').1; have:=CN e1 hm'; subst this; obtain⟨y,hy⟩:=hl _ hm'; exact⟨⟨c2,by simp [aX,hne],y,by simp [D.at,atL,hs,V.leaf,hw,hy]⟩,0,j,rfl,y,hy⟩
 | _=>cases h2
end
end Go.Own

namespace Go.Own
open Go.RowKit

section
variable {P:Program} {τ:TypeId→Option TI} {F:FA} {o:Oper} {b b':B} {x x':D} {d:Nat}

theorem OpS.put0(hA:Ag F b x){r:V}{κ:Nat→Nat→K}(hr:Own.fits r (F.shOf d)=true)(h: ∀g0 w0,pW P g0 w0 o (b.S F.n x) ((b.S F.n x).put d r κ)):OpS P F F.n o b x ((b.put F d κ).nrm F) (x.put d r):=
 OpS.put (M:=[]) hA hr h (fun m hm=>by simp at hm)

def Fc(F:FA)(x:D)(d:Nat)(c y z:Operand):Option D:=
 match ev x.sl c with
 | .one (.c (.bool true))=>(match ev x.sl y with | .one (.c r)=>bif scal r then sU F x d (.one (.c r))else none | _=>none)
 | .one (.c (.bool false))=>(match ev x.sl z with | .one (.c r)=>bif scal r then sU F x d (.one (.c r))else none | _=>none)
 | _=>none
def XY(F:FA)(b:B)(d:Nat)(c y z:Operand):Option B:=bif Nat.blt d F.n&&dO b c&&dO b y&&dO b z then some ((b.put F d (fun _ _=> .S)).nrm F)else none

theorem YU(hA:Ag F b x){c y z:Operand}(hd:o.dst=some d)(ho:o.op= .pick c y z)(h1:Fc F x d c y z=some x')(h2:XY F b d c y z=some b'):OpS P F F.n o b x b' x':=by
 obtain⟨hc,h2⟩:=aK h2; simp only[z7]at hc; obtain⟨⟨⟨c1,c2⟩,c3⟩,c4⟩:=hc; cases h2; unfold Fc at h1; split at h1
 ·rename_i hcv
  split at h1<;>try cases h1
  rename_i r hr; obtain⟨hs,h1⟩:=aK h1; obtain⟨e1,rfl⟩:=cM h1; refine OpS.put0 hA e1 (fun g0 w0=> ?_)
  exact Oq (b:=true) (r1:=r) (r2:=r) hd (cZ c1) ho (by rw[pG c2]; exact hcv) (fun _=>⟨by rw[pG c3]; exact hr,hs⟩) (fun e=>by cases e)
 ·rename_i hcv
  split at h1<;>try cases h1
  rename_i r hr; obtain⟨hs,h1⟩:=aK h1; obtain⟨e1,rfl⟩:=cM h1; refine OpS.put0 hA e1 (fun g0 w0=> ?_)
  exact Oq (b:=false) (r1:=r) (r2:=r) hd (cZ c1) ho (by rw[pG c2]; exact hcv) (fun e=>by cases e) (fun _=>⟨by rw[pG c4]; exact hr,hs⟩)
 ·cases h1

def wN(τ:TypeId→Option TI)(F:FA)(x:D)(d:Nat)(s:TypeId)(v:Operand)(f:Nat):Option D:=
 match tk τ s with
 | some (.struct fs)=>(match fs[f]? with
  | some q=>(match BT (q.1,q.2.1) (ev x.sl v)with | some r=>sU F x d r | none=>none)
  | none=>none)
 | _=>none
def Ii(F:FA)(b:B)(d:Nat)(v:Operand):Bool:=match oP F v with
 | .one (.pp l _ _ _)=>(match aI (oP F v)with | .none=>false | _=>true)&& !(aX d l)&& !(decide (GZ b v 0 0= .D))
 | .one (.al _ _)=>false
 | _=>true
def TW(F:FA)(b:B)(d:Nat)(v:Operand):Option B:=bif Nat.blt d F.n&&dO b v&&Ii F b d v then some ((b.put F d (fun _ _=>GZ b v 0 0)).nrm F)else none

theorem Ct{F:FA}{b:B}{x:D}(hA:Ag F b x){v:Operand}(hk:dO b v=true)(h:Ii F b d v=true){l:Loc}{p:List (Nat×Nat)}{i j:Nat}(hv:ev x.sl v= .one (.pp l p i j)):l≠ .none∧aX d l=false∧GZ b v 0 0≠ .D:=by
 cases v with
 | tmp t=>
  have hf:=hA.fits hk (t:=t) (by have hv:x.sl t=_:=hv; rw[hv]; simp)
  have hv:x.sl t=_:=hv; rw[hv]at hf; have hs: ∃p' i' ,F.shOf t= .one (.pp l p' i' j):=by
   cases hsh:F.shOf t with
   | tup ws=>rw[hsh]at hf; simp [Own.fits]at hf
   | one y=>
    rw[hsh]at hf; cases y<;>simp [Own.fits,bX]at hf
    obtain⟨⟨rfl,_⟩,e⟩:=hf; subst e; exact⟨_,_,rfl⟩
  obtain⟨p',i',hs⟩:=hs; unfold Ii at h; have hs':oP F (.tmp t)= .one (.pp l p' i' j):=hs; rw[hs']at h; simp only[aI,z7]at h; obtain⟨⟨h1,h2⟩,h3⟩:=h; refine⟨fun e=> ?_,by simpa using h2,by simpa using h3⟩
  subst e; simp at h1
 | const u=>exact absurd (zN u) (by have hv:bQ u=_:=hv; rw[hv]; intro e; have:l= .none:=e; subst this; unfold bQ at hv; (repeat' split at hv)<;>cases hv)
 | _=>cases hv

theorem VM(hT:bE P τ)(hA:Ag F b x){s:TypeId}{v:Operand}{f:Nat}(hd:o.dst=some d)(ho:o.op= .fieldAddr s v f)(h1:wN τ F x d s v f=some x')(h2:TW F b d v=some b'):OpS P F F.n o b x b' x':=by
 obtain⟨hc,h2⟩:=aK h2; simp only[z7]at hc; obtain⟨⟨c1,c2⟩,c3⟩:=hc; cases h2; unfold wN at h1; split at h1<;>try cases h1
 rename_i fs hfs; split at h1<;>try cases h1
 rename_i q hq; split at h1<;>try cases h1
 rename_i r hr; obtain⟨e1,rfl⟩:=cM h1; obtain⟨off,size,agg⟩:=q; refine OpS.put0 hA e1 (fun g0 w0=> ?_)
 have h0:=KA (g0:=g0) (w0:=w0) (st:=b.S F.n x) hT hd (cZ c1) ho hfs hq (r:=r) (by rw[pG c2]; exact hr) (by
  rw[pG c2,tR]; intro hroot; unfold BT at hr; split at hr<;>try cases hr
  ·rename_i hv; rw[hv]at hroot; exact absurd rfl hroot
  ·rename_i hv; rw[hv]at hroot; exact absurd rfl hroot
  ·rename_i l p i j hv
   obtain⟨a1,a2,a3⟩:=Ct hA c2 c3 hv; rw[hv]; exact⟨a2,a3⟩) (by
  rw[pG c2]; intro l p i j hv; exact(Ct hA c2 c3 hv).1)
 rw[tR]at h0; exact h0

def Mw(F:FA)(x:D)(d:Nat)(v:Operand):Option D:=match ev x.sl v with
 | .one (.ptr o p)=>sU F x d (.one (.ptr o p))
 | .one (.cp xs)=>sU F x d (.one (.cp xs))
 | .one (.fn f cs)=>sU F x d (.one (.fn f cs))
 | .one (.pp l p i j)=>sU F x d (.one (.pp l p i j))
 | _=>none
def cNil(F:FA)(b:B)(d:Nat)(v:Operand):Option B:=bif Nat.blt d F.n&&dO b v&&Ii F b d v then some ((b.put F d (GZ b v)).nrm F)else none

theorem nil_S(hA:Ag F b x){v:Operand}(hd:o.dst=some d)(ho:o.op= .nilCheck v)(h1:Mw F x d v=some x')(h2:cNil F b d v=some b'):OpS P F F.n o b x b' x':=by
 obtain⟨hc,h2⟩:=aK h2; simp only[z7]at hc; obtain⟨⟨c1,c2⟩,c3⟩:=hc; cases h2; have key:Own.fits (ev x.sl v) (F.shOf d)=true∧x'=x.put d (ev x.sl v)∧match ev x.sl v with | .one (.ptr _ _)=>True | .one (.cp _)=>True | .one (.fn _ _)=>True | .one (.pp l _ _ _)=>l≠ .none∧aX d l=false∧GZ b v 0 0≠ .D | _=>False:=by
  unfold Mw at h1; split at h1<;>try cases h1
  all_goals
   rename_i hv; obtain⟨e1,rfl⟩:=cM h1; rw[hv]; refine⟨e1,rfl, ?_⟩
   first | trivial | exact Ct hA c2 c3 hv
 obtain⟨e1,rfl,e3⟩:=key; refine OpS.put0 hA e1 (fun g0 w0=> ?_)
 have h0:=LT (P:=P) (g0:=g0) (w0:=w0) (st:=b.S F.n x) hd (cZ c1) ho (by rw[pG c2,tR]; exact e3)
 rw[tR,pG c2]at h0; exact h0

def Dx(F:FA)(x:D)(d:Nat)(f:FuncId)(caps:Array Operand):Option D:=match zA (caps.toList.map (ev x.sl))with
 | some cs=>sU F x d (.one (.fn f cs))
 | none=>none
def XZ(F:FA)(b:B)(d:Nat)(caps:Array Operand):Option B:=bif Nat.blt d F.n&&caps.toList.all (dO b)then some ((b.put F d (fun _ _=> .S)).nrm F)else none

theorem Yi(hA:Ag F b x){f:FuncId}{caps:Array Operand}(hd:o.dst=some d)(ho:o.op= .makeFunc (.func f) #[] caps)(h1:Dx F x d f caps=some x')(h2:XZ F b d caps=some b'):OpS P F F.n o b x b' x':=by
 obtain⟨hc,h2⟩:=aK h2; simp only[z7]at hc; obtain⟨c1,c2⟩:=hc; cases h2; unfold Dx at h1; split at h1<;>try cases h1
 rename_i cs hcs; obtain⟨e1,rfl⟩:=cM h1; refine OpS.put0 hA e1 (fun g0 w0=> ?_)
 have hm:caps.toList.map (ev (b.S F.n x).sl)=caps.toList.map (ev x.sl):=z49 fun v hv=>pG (z18.1 c2 v hv)
 exact LX hd (cZ c1) ho (by rw[hm]; exact hcs)

def kn(b:B)(F:FA):Operand→Bool
 | .tmp t=>b.has t&&(match aI (F.shOf t)with | .none=>true | l=>b.hasL l)
 | _=>true

def KQ(F:FA)(b:B)(m:Bool):Operand→Bool
 | .tmp t=>match F.shOf t with
  | .one (.al _ _)=> !m&& !(decide (b.kd (.s t 0 0)= .D))
  | .one (.pp _ _ _ _)=>false
  | .one (.c z)=>scal z||(match b.kd (.s t 0 0)with | .D=>false | .F=>true | .S=>true | .N=>true | _=> !m)
  | .one (.cp _)=>(match b.kd (.s t 0 0)with | .D=>false | .F=>true | _=> !m)
  | _=>true
 | _=>true

theorem Kd(hA:Ag F b x){n:Nat}{m:Bool}{v:Operand}(hk:dO b v=true)(h:KQ F b m v=true):Rdy (b.S n x) m v:=by
 cases v with
 | tmp t=>
  have hsl:(b.S n x).sl t=x.sl t:=rG hk; have hfl:(b.S n x).fl (.s t 0 0)=b.kd (.s t 0 0):=rfl; simp only[Rdy]; rw[hsl,hfl]; rcases hA.sl t hk with e | e
  ·rw[e]; trivial
  ·simp only[KQ]at h
   cases hv:x.sl t with
   | tup ws=>trivial
   | one w=>
    rw[hv]at e; cases hs:F.shOf t with
    | tup ws=>rw[hs]at e; simp [Own.fits]at e
    | one y=>
     rw[hs]at e h; cases w with
     | c z=>
      cases y<;>simp [Own.fits,bX]at e
      rename_i y; simp only[z47]at h; rcases h with h | h
      ·exact .inl ((Ad e).trans h)
      ·right
       cases hq:b.kd (.s t 0 0)<;>rw[hq]at h<;>cases m<;>simp_all
     | cp xs=>
      cases y<;>simp [Own.fits,bX]at e
      cases hq:b.kd (.s t 0 0)<;>rw[hq]at h<;>cases m<;>simp_all
     | al l p=>
      cases y<;>simp [Own.fits,bX]at e
      simpa using h
     | pp l p i j=>
      cases y<;>simp [Own.fits,bX]at e
      cases h
     | _=>trivial
 | _=>trivial

def evD(x:D)(v:Operand):V:=wF x.sl x.ob (ev x.sl v)

theorem AJ{v:Operand}(h:kn b F v=true):dO b v=true:=by
 cases v with
 | tmp t=>simp only[kn,z7]at h; exact h.1
 | _=>rfl

theorem Uz(hA:Ag F b x){v:Operand}(h:kn b F v=true)(hr:aI (ev x.sl v)≠ .none):b.hasL (aI (ev x.sl v))=true:=by
 cases v with
 | tmp t=>
  simp only[kn,z7]at h; have e:=PU hA (v:= .tmp t) h.1 hr; have h2:=h.2; rw[e]at hr ⊢; have hr':aI (F.shOf t)≠ .none:=hr; show b.hasL (aI (F.shOf t))=true; split at h2
  ·rename_i e; exact absurd e hr'
  ·exact h2
 | const u=>exact absurd (zN u) hr
 | _=>exact absurd rfl hr

theorem Nr(hA:Ag F b x){n:Nat}{v:Operand}(h:kn b F v=true):evR (b.S n x) v=evD x v:=by
 unfold evR evD; rw[pG (AJ h)]; generalize hv:ev x.sl v=y; cases y with
 | tup ws=>rfl
 | one w=>
  cases w with
  | al l p=>
   have hL:l≠ .none→b.hasL l=true:=fun e=>by have:=Uz hA h (by rw[hv]; exact e); rw[hv]at this; exact this
   simp only[wF]; have:atL (b.S n x).sl (b.S n x).ob l=atL x.sl x.ob l:=by
    by_cases e:l= .none
    ·subst e; rfl
    ·exact KW (n:=n) (hL e)
   rw[this]
  | _=>rfl

def pE(τ:TypeId→Option TI)(F:FA)(x:D)(d:Nat)(op:Op):Option D:=match iF τ (evD x) op with
 | some r=>sU F x d (.one (.c r))
 | none=>none
def XX(F:FA):Op→Bool
 | .binOp _ _ _ y _=>(match y with | .const _=>true | .tmp t=>(match F.shOf t with | .one (.ifc _)=>false | _=>true) | _=>true)
 | _=>true
def Lj(F:FA)(b:B)(d:Nat)(op:Op):Option B:=
 bif Nat.blt d F.n&&op.operands.toList.all (kn b F)&&XX F op&&op.operands.toList.all (KQ F b false)then
  some ((b.put F d (fun _ _=>bif Jo op&&(match F.shOf d with | .one (.c z)=> !(scal z) | _=>true)then(bif op.operands.toList.all (KQ F b true)then .F else .V)else .S)).nrm F)else none
end
end Go.Own

namespace Go.Own
open Go.RowKit

theorem Hx{ρ ρ':Operand→V}{len:Nat}{lo hi mx:Option Operand}(h1: ∀x,lo=some x→ρ x=ρ' x)(h2: ∀x,hi=some x→ρ x=ρ' x)(h3: ∀x,mx=some x→ρ x=ρ' x):oM ρ len lo hi mx=oM ρ' len lo hi mx:=by
 cases lo<;>cases hi<;>cases mx<;>simp only[oM]<;>first | rfl | (try rw[h1 _ rfl])<;>(try rw[h2 _ rfl])<;>(try rw[h3 _ rfl])

theorem zE{τ:TypeId→Option TI}{ρ ρ':Operand→V}(o:Op)(h: ∀x∈o.operands,ρ x=ρ' x):iF τ ρ o=iF τ ρ' o:=by
 cases o with
 | binOp op t x y u=>simp only[Op.operands]at h; simp only[iF,h x (by simp),h y (by simp)]
 | unOp op t x=>simp only[Op.operands]at h; simp only[iF,h x (by simp)]
 | convert s d x=>simp only[Op.operands]at h; simp only[iF,h x (by simp)]
 | index t x i=>simp only[Op.operands]at h; simp only[iF,h x (by simp),h i (by simp)]
 | slice t x lo hi mx=>
  simp only[Op.operands]at h
  have e: ∀n m',(m'=none∨m'=mx)→oM ρ n lo hi m'=oM ρ' n lo hi m':=fun n m' hm=>Hx (fun y hy=>h y (by subst hy; simp)) (fun y hy=>h y (by subst hy; simp)) (fun y hy=>h y (by
   rcases hm with rfl | rfl
   ·cases hy
   ·subst hy; simp))
  simp only[iF,h x (by simp),e _ _ (.inl rfl),e _ _ (.inr rfl)]
 | call c=>
  simp only[Op.operands,Call.operands]at h; have e: ∀x∈c.args.toList,ρ x=ρ' x:=fun x hx=>h x (by simp; exact .inr (by simpa using hx))
  simp only[iF]; split
  ·rename_i x t h1 h2 h3
   rw[e x (by rw[h2]; simp)]
  ·rename_i l x y h1 h2
   rw[e x (by rw[h2]; simp),e y (by rw[h2]; simp)]
  ·rename_i l x y h1 h2
   rw[e x (by rw[h2]; simp),e y (by rw[h2]; simp)]
  ·rfl
 | _=>rfl

section
variable {P:Program} {τ:TypeId→Option TI} {F:FA} {o:Oper} {b b':B} {x x':D} {d:Nat}

theorem QU{r z:T}(h:Own.fits (.one (.c r)) (.one (.c z))=true):scal r=scal z:=Ad h

theorem ON(hT:bE P τ)(hA:Ag F b x)(hd:o.dst=some d)(h1:pE τ F x d o.op=some x')(h2:Lj F b d o.op=some b'):OpS P F F.n o b x b' x':=by
 unfold Lj at h2; obtain⟨hc,h2⟩:=aK h2; simp only[z7]at hc; obtain⟨⟨⟨c1,c2⟩,c3⟩,c4⟩:=hc; unfold pE at h1; split at h1<;>try cases h1
 rename_i r hr; obtain⟨e1,rfl⟩:=cM h1; have hk: ∀v∈o.op.operands,kn b F v=true:=fun v hv=>z18.1 c2 v (by simpa using hv)
 have hev: ∀v∈o.op.operands,evR (b.S F.n x) v=evD x v:=fun v hv=>Nr hA (hk v hv)
 have hc2: ∀op t v y u,o.op= .binOp op t v y u→evR (b.S F.n x) y= .one (.ifc true)→ ∃c,y= .const c:=by
  intro op t v y u ho hy; rw[ho]at c3; rw[hev y (by rw[ho]; simp [Op.operands])]at hy
  cases y with
  | const c=>exact⟨c,rfl⟩
  | tmp t=>
   exfalso
   have hkn:=hk (.tmp t) (by rw[ho]; simp [Op.operands])
   have hx:x.sl t= .one (.ifc true):=by
    have hy:wF x.sl x.ob (x.sl t)= .one (.ifc true):=hy; unfold wF at hy; split at hy
    ·split at hy<;>cases hy
    ·exact hy
   have hf:=hA.fits (AJ hkn) (t:=t) (by rw[hx]; simp)
   rw[hx]at hf; simp only[XX]at c3; cases hs:F.shOf t with
   | tup ws=>rw[hs]at hf; simp [Own.fits]at hf
   | one z=>
    rw[hs]at hf c3; cases z<;>simp [Own.fits,bX]at hf
    cases c3
  | func f=>cases hy
  | global i=>cases hy
 have main: ∀m:Bool,(∀v∈o.op.operands.toList,KQ F b m v=true)→ ∀g0 w0,pW P g0 w0 o (b.S F.n x) ((b.S F.n x).put d (.one (.c r)) (fun _ _=>if Jo o.op&& !scal r then(if m then .F else .V)else .S)):=fun m hm g0 w0=>
  UZ hT hd (cZ c1) (fun v hv=>Kd hA (AJ (hk v hv)) (hm v (by simpa using hv))) hc2 (by rw[zE o.op hev]; exact hr)
 have hsub: ∀z,F.shOf d= .one (.c z)→scal r=scal z:=fun z hz=>by rw[hz]at e1; exact QU e1
 have hshape: ∃z,F.shOf d= .one (.c z):=by
  cases hs:F.shOf d with
  | tup ws=>rw[hs]at e1; simp [Own.fits]at e1
  | one z=>
   rw[hs]at e1; cases z<;>simp [Own.fits,bX]at e1
   exact⟨_,rfl⟩
 obtain⟨z,hz⟩:=hshape; have hrz:=hsub z hz; rw[hz]at h2; simp only at h2; rw[←hrz]at h2; cases hm:o.op.operands.toList.all (KQ F b true)with
 | true=>
  rw[hm]at h2; cases h2; refine OpS.put0 hA e1 (fun g0 w0=> ?_)
  have:=main true (z18.1 hm) g0 w0; cases hb:(Jo o.op&& !scal r)with
  | true=>rw[hb]at this; exact this
  | false=>rw[hb]at this; exact this
 | false=>
  rw[hm]at h2; cases h2; refine OpS.put0 hA e1 (fun g0 w0=> ?_)
  have:=main false (z18.1 c4) g0 w0; cases hb:(Jo o.op&& !scal r)with
  | true=>rw[hb]at this; exact this
  | false=>rw[hb]at this; exact this

def idx(τ:TypeId→Option TI)(e:TypeId)(es:List (List T))(n:Int):Option (List T):=match τ e with
 | some ei=>if 0≤n then(match es[n.toNat]? with | some row=>bif Nat.beq row.length ei.size then some row else none | none=>none)else none
 | none=>none

theorem Cq{e:TypeId}{es:List (List T)}{n:Int}{row:List T}(h:idx τ e es n=some row): ∃ei,τ e=some ei∧0≤n∧es[n.toNat]? =some row∧row.length=ei.size:=by
 unfold idx at h; split at h<;>try cases h
 rename_i ei he; split at h<;>try cases h
 rename_i hn; split at h<;>try cases h
 rename_i row' hr; obtain⟨hs,h⟩:=aK h; cases h; exact⟨ei,he,hn,hr,z16 hs⟩

def nK(τ:TypeId→Option TI)(F:FA)(x:D)(d:Nat)(t:TypeId)(v i:Operand):Option D:=
 match tk τ t,ev x.sl i with
 | some (.sl e), .one (.c (.int _ n))=>(match ev x.sl v with
  | .one (.al l p)=>(match(x.at l).bind (nav · p)with
   | some (.sl es)=>(match idx τ e es n with | some _=>sU F x d (.one (.pp l p n.toNat 0)) | none=>none)
   | _=>none)
  | .one (.c (.sl es))=>(match idx τ e es n with | some row=>sU F x d (.one (.cp row)) | none=>none)
  | _=>none)
 | some (.arr len e), .one (.c (.int _ n))=>(match ev x.sl v,τ e with
  | .one (.ptr ob p),some ei=>if 0≤n∧n<len then sU F x d (.one (.ptr ob (p+n.toNat*ei.size)))else none
  | _,_=>none)
 | _,_=>none

def Cg(F:FA)(b:B)(d:Nat):Operand→Bool
 | .tmp t=>match F.shOf t with
  | .one (.al l _)=>(match l with | .none=>false | _=>true)&& !(aX d l)&& !(decide (b.kd (.s t 0 0)= .D))&&b.hasL l
  | .one (.pp l _ _ _)=>(match l with | .none=>false | _=>true)&& !(aX d l)&& !(decide (b.kd (.s t 0 0)= .D))&&b.hasL l
  | _=>true
 | _=>true

theorem tG(hA:Ag F b x){t:Nat}(hk:b.has t=true)(h:Cg F b d (.tmp t)=true){l:Loc}(hv:(∃p,x.sl t= .one (.al l p))∨ ∃p i j,x.sl t= .one (.pp l p i j)):l≠ .none∧aX d l=false∧b.kd (.s t 0 0)≠ .D∧b.hasL l=true:=by
 have hf:=hA.fits hk (t:=t) (by rcases hv with⟨p,hv⟩ | ⟨p,i,j,hv⟩<;>(rw[hv]; simp))
 simp only[Cg]at h; have fin: ∀l':Loc,((match l' with | .none=>false | _=>true)&& !(aX d l')&& !(decide (b.kd (.s t 0 0)= .D))&&b.hasL l')=true→l=l'→l≠ .none∧aX d l=false∧b.kd (.s t 0 0)≠ .D∧b.hasL l=true:=by
  rintro l' h rfl
  simp only[z7]at h; obtain⟨⟨⟨h1,h2⟩,h3⟩,h4⟩:=h; exact⟨fun e=>(by subst e; cases h1),by simpa using h2,by simpa using h3,h4⟩
 cases hs:F.shOf t with
 | tup ws=>rcases hv with⟨p,hv⟩ | ⟨p,i,j,hv⟩<;>(rw[hv,hs]at hf; simp [Own.fits]at hf)
 | one y=>
  rw[hs]at hf h; rcases hv with⟨p,hv⟩ | ⟨p,i,j,hv⟩
  ·rw[hv]at hf
   cases y<;>simp [Own.fits,bX]at hf
   exact fin _ h hf.1
  ·rw[hv]at hf
   cases y<;>simp [Own.fits,bX]at hf
   exact fin _ h hf.1.1

def LI(F:FA)(b:B)(d:Nat)(v i:Operand):Option B:=
 bif Nat.blt d F.n&&dO b v&&dO b i then
  match oP F v with
  | .one (.al _ _)=>bif Cg F b d v then some ((b.put F d (fun _ _=> .F)).nrm F)else none
  | .one (.c _)=>bif kn b F v&&KQ F b false v then some ((b.put F d (fun _ _=>bif KQ F b true v then .F else .V)).nrm F)else none
  | .one (.ptr _ _)=>some ((b.put F d (fun _ _=> .S)).nrm F)
  | _=>none
 else none

theorem CE(hA:Ag F b x){v:Operand}(hk:dO b v=true){y:W}(hv:ev x.sl v= .one y)(hj:y≠ .junk):Own.fits (.one y) (oP F v)=true∨(∀t,v≠ .tmp t)∧oP F v= .one y:=by
 cases v with
 | tmp t=>
  have hv':x.sl t=_:=hv; left
  rw[←hv]; exact hA.fits hk (by rw[hv']; simpa using hj)
 | _=>exact .inr ⟨fun _ e=>(by cases e),hv⟩

theorem evD_c{v:Operand}{z:T}(h:ev x.sl v= .one (.c z)):evD x v= .one (.c z):=by unfold evD; rw[h]; rfl

theorem VF(hT:bE P τ)(hA:Ag F b x){t:TypeId}{v i:Operand}(hd:o.dst=some d)(ho:o.op= .indexAddr t v i)(h1:nK τ F x d t v i=some x')(h2:LI F b d v i=some b'):OpS P F F.n o b x b' x':=by
 unfold LI at h2; obtain⟨hc,h2⟩:=aK h2; simp only[z7]at hc; obtain⟨⟨c1,c2⟩,c3⟩:=hc; unfold nK at h1; split at h1
 ·rename_i e k n hte hi
  split at h1
  ·-- a place's slice
   rename_i l p hv; split at h1<;>try cases h1
   rename_i es hnav; split at h1<;>try cases h1
   rename_i row hrow; obtain⟨e1,rfl⟩:=cM h1; obtain⟨ei,q1,q2,q3,q4⟩:=Cq hrow; cases v with
   | tmp tv=>
    rcases CE hA c2 hv (by simp)with hf | ⟨hn,_⟩
    ·have hs: ∃p',oP F (.tmp tv)= .one (.al l p'):=by
      cases hs:oP F (.tmp tv)with
      | tup ws=>rw[hs]at hf; simp [Own.fits]at hf
      | one y=>
       rw[hs]at hf; cases y<;>simp [Own.fits,bX]at hf
       obtain⟨rfl,_⟩:=hf; exact⟨_,rfl⟩
     obtain⟨p',hs⟩:=hs; rw[hs]at h2; obtain⟨c4,h2⟩:=aK h2; cases h2; obtain⟨a1,a2,a3,a4⟩:=tG hA c2 c4 (.inl ⟨p,hv⟩); simp only[z22]at hnav; obtain⟨x0,hx0,hnav⟩:=hnav; refine OpS.put0 hA e1 (fun g0 w0=> ?_)
     exact Hu hT hd (cZ c1) ho hte q1 (by rw[rG c2]; exact hv) a1 a3 a2 (by rw[KW a4]; exact hx0) hnav (by rw[pG c3]; exact hi) q2 q3 q4
    ·exact absurd rfl (hn tv)
   | const u=>exact absurd (zN u) (by have hv:bQ u=_:=hv; unfold bQ at hv; (repeat' split at hv)<;>cases hv)
   | _=>cases hv
  ·-- a slice that is read
   rename_i es hv; split at h1<;>try cases h1
   rename_i row hrow; obtain⟨e1,rfl⟩:=cM h1; obtain⟨ei,q1,q2,q3,q4⟩:=Cq hrow; have hs: ∃z,oP F v= .one (.c z):=by
    rcases CE hA c2 hv (by simp)with hf | ⟨_,hs⟩
    ·cases hs:oP F v with
     | tup ws=>rw[hs]at hf; simp [Own.fits]at hf
     | one y=>
      rw[hs]at hf; cases y<;>simp [Own.fits,bX]at hf
      exact⟨_,rfl⟩
    ·exact⟨_,hs⟩
   obtain⟨z,hs⟩:=hs; rw[hs]at h2; obtain⟨c4,h2⟩:=aK h2; simp only[z7]at c4; cases h2; have main: ∀m:Bool,KQ F b m v=true→ ∀g0 w0,pW P g0 w0 o (b.S F.n x) ((b.S F.n x).put d (.one (.cp row)) (fun _ _=>if m then .F else .V)):=fun m hm g0 w0=>
    Jx hT hd (cZ c1) ho hte q1 (by rw[Nr hA c4.1]; exact evD_c hv) (Kd hA c2 hm) (by rw[pG c3]; exact hi) q2 q3 q4
   refine OpS.put0 hA e1 (fun g0 w0=> ?_)
   cases hm:KQ F b true v with
   | true=>exact main true hm g0 w0
   | false=>exact main false c4.2 g0 w0
  ·cases h1
 ·-- an object's array
  rename_i len e k n hte hi; split at h1<;>try cases h1
  rename_i ob p ei hv he; split at h1<;>try cases h1
  rename_i hn; obtain⟨e1,rfl⟩:=cM h1; have hs: ∃ob' p',oP F v= .one (.ptr ob' p'):=by
   rcases CE hA c2 hv (by simp)with hf | ⟨_,hs⟩
   ·cases hs:oP F v with
    | tup ws=>rw[hs]at hf; simp [Own.fits]at hf
    | one y=>
     rw[hs]at hf; cases y<;>simp [Own.fits,bX]at hf
     exact⟨_,_,rfl⟩
   ·exact⟨_,_,hs⟩
  obtain⟨ob',p',hs⟩:=hs; rw[hs]at h2; cases h2; refine OpS.put0 hA e1 (fun g0 w0=> ?_)
  exact Lb hT hd (cZ c1) ho hte he (by rw[pG c2]; exact hv) (by rw[pG c3]; exact hi) hn.1 hn.2
 ·cases h1
end
end Go.Own

namespace Go.Own
open Go.RowKit

section
variable {P:Program} {τ:TypeId→Option TI} {F:FA} {o:Oper} {b b':B} {x x':D} {d:Nat}

theorem xB{i:TI}{xs:List T}{r:V}(h:pD i xs=some r){k j:Nat}{y:T}(hy:r.leaf k j=some y):k=0∧xs[j]? =some y:=by
 unfold pD at h; split at h<;>try cases h
 split at h
 ·simp only[z10]at h
  subst h; cases k with
  | succ k=>simp [V.leaf]at hy
  | zero=>
   refine⟨rfl, ?_⟩
   simp only[V.leaf,W.leaf,z79]at hy
   split at hy<;>simp_all
 ·split at h<;>cases h
  cases k with
  | succ k=>simp [V.leaf]at hy
  | zero=>
   cases j with
   | zero=>exact⟨rfl,by simpa [V.leaf,W.leaf]using hy⟩
   | succ j=>simp [V.leaf,W.leaf]at hy

def Fb(τ:TypeId→Option TI)(t:TypeId):Bool:=match tk τ t with | some (.sl _)=>true | _=>false
theorem MX{t:TypeId}(h:Fb τ t=true): ∃e,tk τ t=some (.sl e):=by
 unfold Fb at h; split at h
 ·rename_i e he; exact⟨e,he⟩
 ·cases h
def slT:Option T→Bool
 | some (.sl _)=>true
 | _=>false
theorem TB{y:Option T}(h:slT y=true): ∃es,y=some (.sl es):=by
 unfold slT at h; split at h
 ·exact⟨_,rfl⟩
 ·cases h

def oS(τ:TypeId→Option TI)(F:FA)(x:D)(d:Nat)(t:TypeId)(v:Operand)(al:Bool):Option D:=
 match τ t,ev x.sl v with
 | some i, .one (.ptr ob p)=>(match x.ob ob with
  | some cells=>bif al then(bif Fb τ t&&slT (cells[p]?)then sU F x d (.one (.al (.oc ob p) []))else none)
   else(match pD i (cells.drop p)with | some r=>sU F x d r | none=>none)
  | none=>none)
 | some i, .one (.cp xs)=>(match pD i xs with | some r=>sU F x d r | none=>none)
 | some i, .one (.pp l p n j)=>(match(x.at l).bind (nav · p)with
  | some (.sl es)=>(match es[n]? with
   | some row=>bif al then(bif Fb τ t&&slT (row[j]?)then sU F x d (.one (.al l (p++[(n,j)])))else none)
    else(match pD i (row.drop j)with | some r=>sU F x d r | none=>none)
   | none=>none)
  | _=>none)
 | _,_=>none

def Qw(F:FA)(b:B)(d ob p:Nat)(take:Bool):List Nat:=bif take then(((nI (F.shOf d)).map (·.2)).filter fun j=>(b.kd (.oc ob (p+j))).hold)else []

def RD(τ:TypeId→Option TI)(F:FA)(b:B)(d:Nat)(t:TypeId)(v:Operand)(al take:Bool):Option B:=
 bif Nat.blt d F.n&&dO b v then
  match τ t,oP F v with
  | some i, .one (.ptr ob p)=>
   bif al then(bif b.hasO ob&&(b.kd (.oc ob p)).hold then some ((b.put F d (fun _ _=> .F)).nrm F)else none)
   else(bif b.hasO ob then some (((b.put F d (fun _ j=>if kM i.zero j then .S else(b.kd (.oc ob (p+j))).cp)).mvs F ((Qw F b d ob p take).map fun j=>(.oc ob (p+j), .s d 0 j))).nrm F)else none)
  | some i, .one (.cp _)=>bif !(decide (GZ b v 0 0= .D))then some ((b.put F d (fun _ j=>if kM i.zero j then .S else GZ b v 0 0)).nrm F)else none
  | some i, .one (.pp _ _ _ _)=>bif Cg F b d v then(bif al then some ((b.put F d (fun _ _=> .F)).nrm F)else some ((b.put F d (fun _ j=>if kM i.zero j then .S else .V)).nrm F))else none
  | _,_=>none
 else none

theorem Ku(hA:Ag F b x){v:Operand}(hk:dO b v=true){ob p:Nat}(hv:ev x.sl v= .one (.ptr ob p)):oP F v= .one (.ptr ob p):=by
 rcases CE hA hk hv (by simp)with hf | ⟨_,hs⟩
 ·cases hs:oP F v with
  | tup ws=>rw[hs]at hf; simp [Own.fits]at hf
  | one y=>
   rw[hs]at hf; cases y<;>simp [Own.fits,bX]at hf
   obtain⟨rfl,rfl⟩:=hf; rfl
 ·exact hs

theorem WG(hA:Ag F b x){v:Operand}(hk:dO b v=true){xs:List T}(hv:ev x.sl v= .one (.cp xs)): ∃ys,oP F v= .one (.cp ys):=by
 rcases CE hA hk hv (by simp)with hf | ⟨_,hs⟩
 ·cases hs:oP F v with
  | tup ws=>rw[hs]at hf; simp [Own.fits]at hf
  | one y=>
   rw[hs]at hf; cases y<;>simp [Own.fits,bX]at hf
   exact⟨_,rfl⟩
 ·exact⟨_,hs⟩

theorem Qq(hA:Ag F b x){v:Operand}(hk:dO b v=true){l:Loc}{p:List (Nat×Nat)}{i j:Nat}(hv:ev x.sl v= .one (.pp l p i j)): ∃t p' i',v= .tmp t∧oP F v= .one (.pp l p' i' j):=by
 cases v with
 | tmp t=>
  rcases CE hA hk hv (by simp)with hf | ⟨hn,hs⟩
  ·cases hs:oP F (.tmp t)with
   | tup ws=>rw[hs]at hf; simp [Own.fits]at hf
   | one y=>
    rw[hs]at hf; cases y<;>simp [Own.fits,bX]at hf
    obtain⟨⟨rfl,_⟩,rfl⟩:=hf; exact⟨t,_,_,rfl,rfl⟩
  ·exact absurd rfl (hn t)
 | const u=>have hv:bQ u=_:=hv; unfold bQ at hv; (repeat' split at hv)<;>cases hv
 | _=>cases hv

theorem Yb(hT:bE P τ)(hA:Ag F b x){t:TypeId}{v:Operand}{al take:Bool}(hd:o.dst=some d)(ho:o.op= .load t v)(h1:oS τ F x d t v al=some x')(h2:RD τ F b d t v al take=some b'):OpS P F F.n o b x b' x':=by
 unfold RD at h2; obtain⟨hc,h2⟩:=aK h2; simp only[z7]at hc; obtain⟨c1,c2⟩:=hc; unfold oS at h1; split at h1
 ·-- an object's cells
  rename_i i ob p hi hv; split at h1<;>try cases h1
  rename_i cells hcells; rw[hi,Ku hA c2 hv]at h2; simp only at h2; cases al with
  | true=>
   simp only[z15]at h1 h2; obtain⟨hs,h1⟩:=aK h1; obtain⟨hk,h2⟩:=aK h2; simp only[z7]at hs hk; obtain⟨e1,rfl⟩:=cM h1; cases h2; obtain⟨e,he⟩:=MX hs.1; obtain⟨es,hes⟩:=TB hs.2; exact OpS.put0 hA e1 (fun g0 w0=>Ju hT hd (cZ c1) ho hi he (by rw[pG c2]; exact hv) (by rw[Lz hk.1]; exact hcells) hes hk.2)
  | false=>
   simp only[z11]at h1 h2; split at h1<;>try cases h1
   rename_i r hr; obtain⟨e1,rfl⟩:=cM h1; obtain⟨hk,h2⟩:=aK h2; cases h2; have hl: ∀j∈Qw F b d ob p take, ∃y,r.leaf 0 j=some y:=fun j hj=>by
    unfold Qw at hj; cases take with
    | false=>simp at hj
    | true=>
     simp only[z15]at hj; have hj:=(z80.1 hj).1; obtain⟨⟨k,j'⟩,hm,rfl⟩:=z50.1 hj; obtain⟨y,hy⟩:=rP e1 hm; obtain⟨rfl,_⟩:=xB hr hy; exact⟨y,hy⟩
   refine OpS.put hA e1 (fun g0 w0=> ?_) (fun m hm=> ?_)
   ·exact Ur (st:=b.S F.n x) hT (Qw F b d ob p take) hd (cZ c1) ho hi (by rw[pG c2]; exact hv) (by rw[Lz hk]; exact hcells) hr hl
   ·obtain⟨j,hj,rfl⟩:=z50.1 hm
    obtain⟨y,hy⟩:=hl j hj; obtain⟨_,hy2⟩:=xB hr hy; exact⟨⟨hk,rfl,y,by simp only[D.at,atL,hcells,z8]; rw[z45]at hy2; exact hy2⟩,0,j,rfl,y,hy⟩
 ·-- cells that are read
  rename_i i xs hi hv; split at h1<;>try cases h1
  rename_i r hr; obtain⟨e1,rfl⟩:=cM h1; obtain⟨ys,hs⟩:=WG hA c2 hv; rw[hi,hs]at h2; obtain⟨hk,h2⟩:=aK h2; cases h2; refine OpS.put0 hA e1 (fun g0 w0=> ?_)
  have:=LY (g0:=g0) (w0:=w0) (st:=b.S F.n x) hT hd (cZ c1) ho hi (by rw[pG c2]; exact hv) (by rw[tR]; simpa using hk) hr
  rw[tR]at this; exact this
 ·-- a place's cells
  rename_i i l p n j hi hv; split at h1<;>try cases h1
  rename_i es hnav; split at h1<;>try cases h1
  rename_i row hrow; obtain⟨tv,p',i',rfl,hs⟩:=Qq hA c2 hv; rw[hi,hs]at h2; obtain⟨ha,h2⟩:=aK h2; obtain⟨a1,a2,a3,a4⟩:=tG hA c2 ha (.inr ⟨p,n,j,hv⟩); simp only[z22]at hnav; obtain⟨x0,hx0,hnav⟩:=hnav; cases al with
  | true=>
   simp only[z15]at h1 h2; obtain⟨hs,h1⟩:=aK h1; simp only[z7]at hs; obtain⟨e1,rfl⟩:=cM h1; cases h2; obtain⟨e,he⟩:=MX hs.1; obtain⟨es',hes⟩:=TB hs.2; exact OpS.put0 hA e1 (fun g0 w0=>Bt hT hd (cZ c1) ho hi he (by rw[rG c2]; exact hv) a1 a3 a2 (by rw[KW a4]; exact hx0) hnav hrow hes)
  | false=>
   simp only[z11]at h1 h2; split at h1<;>try cases h1
   rename_i r hr; obtain⟨e1,rfl⟩:=cM h1; cases h2; exact OpS.put0 hA e1 (fun g0 w0=>Jt hT hd (cZ c1) ho hi (by rw[rG c2]; exact hv) a1 a3 (by rw[KW a4]; exact hx0) hnav hrow hr)
 ·cases h1

def Qx(d:Nat):V→Bool
 | .one (.ptr o p)=>Nat.beq o d&&Nat.beq p 0
 | _=>false
theorem MY{d:Nat}{v:V}(h:Qx d v=true):v= .one (.ptr d 0):=by
 unfold Qx at h; split at h
 ·simp only[z7]at h
  rw[z16 h.1,z16 h.2]
 ·cases h

def Cc(τ:TypeId→Option TI)(F:FA)(x:D)(d:Nat)(t:TypeId):Option D:=match τ t with
 | some i=>bif fY i.zero (F.obOf d)then some ((x.put d (.one (.ptr d 0))).setO d i.zero)else none
 | none=>none
def OX(τ:TypeId→Option TI)(F:FA)(b:B)(d:Nat)(t:TypeId):Option B:=match τ t with
 | some i=>bif Nat.blt d F.n&&Qx d (F.shOf d)then some ((b.alloc F d (Dr i.zero)).nrm F)else none
 | none=>none

theorem Vd(hT:bE P τ)(hA:Ag F b x){t:TypeId}(hd:o.dst=some d)(ho:o.op= .alloc t)(h1:Cc τ F x d t=some x')(h2:OX τ F b d t=some b'):OpS P F F.n o b x b' x':=by
 unfold OX at h2; unfold Cc at h1; split at h2<;>try cases h2
 rename_i i hi; rw[hi]at h1; obtain⟨hc,h2⟩:=aK h2; simp only[z7]at hc; obtain⟨e1,h1⟩:=aK h1; cases h1; cases h2; have hs:=MY hc.2; exact OpS.fin (hA.alloc hs e1) (fun g0 w0=>Sr hT hd (cZ hc.1) ho hi) (Jg hA (Low.self _ _ _) e1 (fun _=>dR _))

def RY(F:FA)(x:D)(d:Nat)(v:Operand):Option D:=match v with
 | .tmp t=>(match aV (x.sl t)with
  | some xs=>bif fY xs (F.obOf d)then some ((x.put d (.one (.ptr d 0))).setO d xs)else none
  | none=>none)
 | _=>none
def boxM(F:FA)(b:B)(d t:Nat):List Nat:=(range' 0 (F.obOf d).length).filter fun j=>(b.kd (.s t 0 j)).hold
def cBox(F:FA)(b:B)(d:Nat)(v:Operand):Option B:=match v with
 | .tmp t=>bif Nat.blt d F.n&&Qx d (F.shOf d)&&b.has t&&wP F d t then
   some (((b.alloc F d (fun j=>(b.kd (.s t 0 j)).cp)).mvs F ((boxM F b d t).map fun j=>(.s t 0 j, .oc d j))).nrm F)else none
 | _=>none

theorem box_S(hA:Ag F b x){ty:TypeId}{v:Operand}(hd:o.dst=some d)(ho:o.op= .box ty v)(h1:RY F x d v=some x')(h2:cBox F b d v=some b'):OpS P F F.n o b x b' x':=by
 cases v with
 | tmp t=>
  simp only[cBox]at h2; obtain⟨hc,h2⟩:=aK h2; simp only[z7]at hc; obtain⟨⟨⟨c1,c2⟩,c3⟩,c4⟩:=hc; cases h2; simp only[RY]at h1; split at h1<;>try cases h1
  rename_i xs hxs; obtain⟨e1,h1⟩:=aK h1; cases h1; have hs:=MY c2; have hne:t≠d:=fun e=>by subst e; simp [wP,z42]at c4
  have hM: ∀j∈boxM F b d t,j<xs.length:=fun j hj=>by
   have:=(rD.1 (z80.1 hj).1).2; rw[Ac e1]; omega
  refine OpS.fin ((hA.alloc hs e1).mvs _) (fun g0 w0=>aAB (boxM F b d t) hd (cZ c1) ho (by rw[rG c3]; exact hxs) hne hM) (Kg (hA.alloc hs e1) (Jg hA (Low.self _ _ _) e1 (fun _=>dR _)) (fun m hm=> ?_))
  obtain⟨j,hj,rfl⟩:=z50.1 hm; have hlt:=hM j hj; refine⟨⟨?_,xs[j], ?_⟩, ?_,xs[j], ?_⟩
  ·show(b.alloc F d _).has t=true
   rw[EQ,dQ hne,c4,c3]; rfl
  ·simp only[D.at,atL,D.setO,D.put,z14 hne]
   rw[Bh hxs j,z12 hlt]
  ·show(b.alloc F d _).hasO d=true
   rw[Bk,z42]; rfl
  ·simp only[D.at,atL,D.setO,if_true,z8]
   exact z12 hlt
 | _=>cases h2

def qO(F:FA)(x:D)(i:TI)(ob p:Nat)(xs:List T):Option D:=match x.ob ob with
 | some cells=>bif Nat.beq xs.length i.size&&Nat.ble (p+xs.length) cells.length&&fY (cells.take p++xs++cells.drop (p+xs.length)) (F.obOf ob)then some (x.setO ob (cells.take p++xs++cells.drop (p+xs.length)))else none
 | none=>none
def IX(F:FA)(b:B):Operand→List (Nat×Nat)
 | .tmp t=>((nI (F.shOf t)).filter fun m=>Nat.beq m.1 0&&(b.kd (.s t 0 m.2)).hold).map fun m=>(t,m.2)
 | _=> []
def Dp(F:FA)(b:B)(i:TI)(ob p:Nat)(v y:Operand):Option B:=
 bif dO b v&&dO b y&&b.hasO ob then
  some (((b.write F ob p i.size (GZ b y 0)).mvs F ((IX F b y).map fun m=>(.s m.1 0 m.2, .oc ob (p+m.2)))).nrm F)else none

theorem UN(hT:bE P τ)(hA:Ag F b x){t:TypeId}{v y:Operand}{i:TI}{ob p:Nat}{xs:List T}(hd:o.dst=none)(ho:o.op= .store t v y)(hi:τ t=some i)(hv:ev x.sl v= .one (.ptr ob p))(hy:aV (ev x.sl y)=some xs)
  (h1:qO F x i ob p xs=some x')(h2:Dp F b i ob p v y=some b'):OpS P F F.n o b x b' x':=by
 unfold Dp at h2; obtain⟨hc,h2⟩:=aK h2; simp only[z7]at hc; obtain⟨⟨c1,c2⟩,c3⟩:=hc; cases h2; unfold qO at h1; split at h1<;>try cases h1
 rename_i cells hcells; obtain⟨hq,h1⟩:=aK h1; simp only[z7]at hq; obtain⟨⟨q1,q2⟩,q3⟩:=hq; cases h1; have hsz:=z16 q1; have hle:=z33 q2; have hM: ∀m∈IX F b y,m.2<xs.length∧y= .tmp m.1∧ ∃t,(x.sl m.1).leaf 0 m.2=some t:=fun m hm=>by
  cases y with
  | tmp t'=>
   simp only[IX,z50]at hm; obtain⟨⟨k,j⟩,hm,rfl⟩:=hm; have hm:=z80.1 hm; simp only[z7]at hm; have hk0:=z16 hm.2.1; subst hk0; have hj:x.sl t'≠ .tup []:=fun e=>by have hy:aV (x.sl t')=some xs:=hy; rw[e]at hy; simp [aV]at hy
   obtain⟨u,hu⟩:=rP (hA.fits c2 hj) hm.1; refine⟨?_,rfl,u,hu⟩
   have hu':(ev x.sl (.tmp t')).leaf 0 j=some u:=hu; rw[Bh hy]at hu'; exact cR hu'
  | _=>simp [IX]at hm
 have h3:=Pi hA (Low.self F.n b x) (p:=p) (xs:=xs) (κ:=GZ b y 0) hcells hle; have hAw:=hA.write (o:=ob) (p:=p) (m:=xs.length) (κ:=GZ b y 0) q3; rw[←hsz]; refine OpS.fin (hAw.mvs _) (fun g0 w0=> ?_) (Kg hAw h3 (fun m hm=> ?_))
 ·have:=Rj (P:=P) (g0:=g0) (w0:=w0) (st:=b.S F.n x) hT (IX F b y) hd ho hi (by rw[pG c1]; exact hv) (by rw[Lz c3]; exact hcells) (by rw[pG c2]; exact hy) hsz hle (fun m hm=>by
   obtain⟨a1,a2,_⟩:=hM m hm; exact⟨a1,a2⟩)
  rw[tR]at this; exact this
 ·obtain⟨m',hm',rfl⟩:=z50.1 hm
  obtain⟨a1,rfl,u,a3⟩:=hM m' hm'; refine⟨⟨?_,u,a3⟩, ?_, ?_⟩
  ·show(b.write F ob p xs.length _).has m'.1=true
   rw[AN,hA.leaf_root c2 a3]; exact(z7 _ _).mpr ⟨rfl,c2⟩
  ·show(b.write F ob p xs.length _).hasO ob=true
   rw[wX]; exact c3
  ·refine⟨xs[m'.2], ?_⟩
   simp only[D.at,atL,D.setO,if_true,z8]; rw[sD cells xs p hle,z19 ⟨by omega,by omega⟩,z82]
   exact z12 a1
end
end Go.Own

namespace Go.Own
open Go.RowKit

section
variable {P:Program} {τ:TypeId→Option TI} {F:FA} {o:Oper} {b b':B} {x x':D} {d:Nat}

theorem OpS.setPut{n:Nat}{s1:St}{b1:B}(hA:Ag F b1 x)(h1:Low n b1 x s1){r:V}{κ:Nat→Nat→K}(hr:Own.fits r (F.shOf d)=true)(h: ∀g0 w0,pW P g0 w0 o (b.S n x) (s1.put d r κ)):OpS P F n o b x ((b1.put F d κ).nrm F) (x.put d r):=
 OpS.fin (hA.put (.inr hr)) h (HE hA h1 (.inr hr) (fun _ _ _ _=>dR _) (fun _ _ _=>dR _) (fun _ h=>h))

def B.killV(F:FA)(b:B):B:=b.setf F (fun _=>false) (fun _ q=>if q= .V then .D else q)

theorem EJ{n:Nat}(hA:Ag F b x):Low n (b.killV F) x (b.S n x).killV:=
 kQ hA (Low.self n b x) rfl (fun _ _ _=>dR _) (fun _ _ _ hf=>hf)

def B.lowO(F:FA)(b:B)(l:Loc):B:=if l.place then b.setf F (fun m=>decide (m=l)) (fun m q=>if m=l then .D else q)else b

theorem Ag.lowO(hA:Ag F b x)(l:Loc):Ag F (b.lowO F l) x:=by
 unfold B.lowO; split
 ·exact hA.setf _ _
 ·exact hA

theorem MS{n:Nat}{s:St}(hA:Ag F b x)(h:Low n b x s)(l:Loc):Low n (b.lowO F l) x (s.lowO l):=by
 unfold B.lowO St.lowO; by_cases hp:l.place=true
 ·rw[z19 hp,z19 hp]
  refine kQ hA h (by simp [Ne.symm (Loc.place_ne hp).1]) (fun m _ hl=> ?_) (fun i _ hi hf=> ?_)
  ·by_cases e:m=l
   ·rw[z19 e,z19 e]; rfl
   ·rw[z14 e,z14 e]; exact hl
  ·by_cases e:Loc.s i 0 0=l
   ·rw[z19 e]at hf; exact absurd rfl hf
   ·rw[z14 e]at hf ⊢; exact hi hf
 ·rw[z14 hp,z14 hp]; exact h

def xW(τ:TypeId→Option TI)(u:TypeId)(e:TypeId):Bool:=match tk τ u with | some (.sl e')=>Nat.beq e' e | some .str=>true | _=>false
theorem Mz{u e:TypeId}(h:xW τ u e=true):tk τ u=some (.sl e)∨tk τ u=some .str:=by
 unfold xW at h; split at h
 ·rename_i e' h1; left; rw[h1,z16 h]
 ·rename_i h1; exact .inr h1
 ·cases h

def RG(ei:TI)(es1 es2:List (List T)):Bool:=es1.all (fun e=>Nat.beq e.length ei.size)&&es2.all (fun e=>fY e ei.zero)&&Nat.ble (es1.length+es2.length) maxLen&&Nat.ble ((es1.length+es2.length)*ei.bytes) 140737488355328

def tV(τ:TypeId→Option TI)(F:FA)(x:D)(d:Nat)(t u:TypeId)(v y:Operand):Option D:=
 match tk τ t with
 | some (.sl e)=>(match τ e,ev x.sl v,Hq (ev x.sl y)with
  | some ei, .one (.c (.sl es1)),some es2=>bif xW τ u e&&RG ei es1 es2 then sU F x d (.one (.c (.sl (es1++es2))))else none
  | _,_,_=>none)
 | _=>none

def Nk(b:B):Operand→K
 | .tmp t=>b.kd (.s t 0 0)
 | .const v=>jF (bQ v) 0 0
 | _=> .S
def wJ(b:B):Operand→Loc
 | .tmp t=>if(b.kd (.s t 0 0)).hold then .s t 0 0 else .none
 | _=> .none
def sndB(F:FA)(b:B)(zero:List T)(f:Bool)(y:Operand):Bool:=
 match oP F y with
 | .one (.c (.str _))=>true
 | _=>match Nk b y with
  | .D=>false
  | .V=>qQ zero
  | .F=>qQ zero|| !f
  | .A s=>(s == zero.length)&&(qQ zero|| !f)
  | .U s=>s == zero.length&& !(s == 0)
  | .S=>false
  | .N=>true

def Kr(τ:TypeId→Option TI)(F:FA)(b:B)(d:Nat)(t:TypeId)(v y:Operand):Option B:=
 match tk τ t with
 | some (.sl e)=>(match τ e with
  | some ei=>bif Nat.blt d F.n&&dO b v&&dO b y&&(Nk b v).app ei.size&&(!(mem d F.dp)||(Nk b v).deep)&&sndB F b ei.zero (mem d F.dp) y&&(!((wJ b y).place)|| !(decide (wJ b y=wJ b v)))then
    some (((((b.killV F).lowO F (wJ b v)).lowO F (wJ b y)).put F d (fun _ _=>bif mem d F.dp then .U ei.size else .A ei.size)).nrm F)else none
  | none=>none)
 | _=>none

theorem HZ{n:Nat}{v:Operand}:Ms (b.S n x) v=Nk b v:=by cases v<;>rfl
theorem AT{n:Nat}{v:Operand}:jP (b.S n x) v=wJ b v:=by cases v<;>rfl

theorem UQ(hA:Ag F b x){n:Nat}{zero:List T}{f:Bool}{y:Operand}{es:List (List T)}(hk:dO b y=true)(hy:Hq (ev x.sl y)=some es)(h:sndB F b zero f y=true):LL (b.S n x) zero f y=true:=by
 have hw: ∃z,ev x.sl y= .one (.c z):=by
  unfold Hq at hy; split at hy
  ·rename_i e; exact⟨_,e⟩
  ·rename_i e; exact⟨_,e⟩
  ·cases hy
 obtain⟨z,hz⟩:=hw; have hs: ∃z',oP F y= .one (.c z')∧tY z z'=true:=by
  rcases CE hA hk hz (by simp)with hf | ⟨_,hs⟩
  ·cases hs:oP F y with
   | tup ws=>rw[hs]at hf; simp [Own.fits]at hf
   | one w=>
    rw[hs]at hf; cases w<;>simp [Own.fits,bX]at hf
    exact⟨_,rfl,hf⟩
  ·exact⟨z,hs,by cases z<;>first | (rw[hz]at hy; simp [Hq]at hy; done) | simp [tY]⟩
 obtain⟨z',hs,hc⟩:=hs; unfold LL; rw[pG hk,hz,HZ]; unfold sndB at h; rw[hs]at h; cases z with
 | str s=>rfl
 | sl es'=>
  cases z'<;>simp [tY]at hc
  simp only at h ⊢; revert h
  cases Nk b y<;>simp
 | hole=>rw[hz]at hy; simp [Hq]at hy
 | int k m=>rw[hz]at hy; simp [Hq]at hy
 | bool m=>rw[hz]at hy; simp [Hq]at hy
 | np=>rw[hz]at hy; simp [Hq]at hy

theorem Sp(hT:bE P τ)(hA:Ag F b x){t u:TypeId}{v y:Operand}(hd:o.dst=some d)(ho:o.op= .call { callee:= .builtin .append,args:= #[v,y],argTypes:= #[t,u] })
  (h1:tV τ F x d t u v y=some x')(h2:Kr τ F b d t v y=some b'):OpS P F F.n o b x b' x':=by
 unfold tV at h1; split at h1<;>try cases h1
 rename_i e he; split at h1<;>try cases h1
 rename_i ei es1 es2 hei hv hy; obtain⟨hq,h1⟩:=aK h1; simp only[z7]at hq; obtain⟨q1,q2⟩:=hq; obtain⟨e1,rfl⟩:=cM h1; unfold Kr at h2; rw[he]at h2; simp only[hei]at h2; obtain⟨hc,h2⟩:=aK h2; simp only[z7]at hc; obtain⟨⟨⟨⟨⟨⟨c1,c2⟩,c3⟩,c4⟩,c5⟩,c6⟩,c7⟩:=hc; cases h2; simp only[RG,z7]at q2; obtain⟨⟨⟨a1,a2⟩,a3⟩,a4⟩:=q2; have hA0:Ag F (b.killV F) x:=hA.setf _ _; have hA1:=hA0.lowO (F:=F) (wJ b v); refine OpS.setPut (hA1.lowO (wJ b y)) (MS hA1 (MS hA0 (EJ (n:=F.n) hA) (wJ b v)) (wJ b y)) e1 (fun g0 w0=> ?_)
 have:=Qc (P:=P) (g0:=g0) (w0:=w0) (st:=b.S F.n x) hT (mem d F.dp) hd (cZ c1) ho he (Mz q1) hei (by rw[pG c2]; exact hv) (by rw[HZ]; exact c4)
  (fun hf=>by rw[HZ]; rw[hf]at c5; simpa using c5) (by rw[pG c3]; exact hy) (UQ hA c3 hy c6) (fun hp=>by
   rw[AT]at hp ⊢; rw[AT]; rw[hp]at c7; simpa using c7) (fun e' he'=>z16 (z18.1 a1 e' he')) (fun e' he'=>z18.1 a2 e' he') (z33 a3) (z33 a4)
 rw[AT,AT]at this; cases hm:mem d F.dp with
 | true=>rw[hm]at this; exact this
 | false=>rw[hm]at this; exact this

def wE:List V→Option (List (List T))
 | []=>some []
 | v::r=>match aV v,wE r with
  | some xs,some xss=>some (xs::xss)
  | _,_=>none
theorem Em: ∀ {l:List V} {es:List (List T)},wE l=some es→l.map aV=es.map some
 | [],es,h=>by cases h; rfl
 | v::r,es,h=>by
  unfold wE at h; split at h<;>try cases h
  rename_i xs xss h1 h2; simp [h1,Em h2]

def As:Nat→List (Nat×Operand)→Bool
 | _,[]=>true
 | i,p::r=>Nat.beq p.1 i&&As (i+1) r
theorem Gg: ∀ {l:List (Nat×Operand)} {i:Nat},As i l=true→l=((l.map (·.2)).zipIdx i).map fun p=>(p.2,p.1)
 | [],i,_=>rfl
 | p::r,i,h=>by
  simp only[As,z7]at h; simp only[z52,z169]; have:=z16 h.1; rw[←Gg h.2, ←this]

def XT(t:Nat)(l:List Operand):Bool:=l.all (Ia t)
def sC:List Operand→Bool
 | []=>true
 | .tmp t::r=>XT t r&&sC r
 | _::r=>sC r
theorem ML{t:Nat}: ∀ {l:List Operand} {i:Nat},XT t l=true→l[i]? ≠some (.tmp t):=by
 intro l i h e; have:=z18.1 h _ (z20 e); simp [Ia,z42]at this
theorem Ei: ∀ {l:List Operand},sC l=true→ ∀(i i' t:Nat),l[i]? =some (Operand.tmp t)→l[i']? =some (Operand.tmp t)→i=i'
 | [],_,_,_,_,h,_=>by simp at h
 | p::r,h,i,i',t,h1,h2=>by
  have hr:sC r=true:=by
   cases p with
   | tmp t'=>simp only[sC,z7]at h; exact h.2
   | _=>exact h
  cases i with
  | zero=>
   cases i' with
   | zero=>rfl
   | succ i'=>
    exfalso
    simp only[z24,z10]at h1
    subst h1; simp only[sC,z7]at h; simp only[z25]at h2
    exact ML h.1 h2
  | succ i=>
   cases i' with
   | zero=>
    exfalso
    simp only[z24,z10]at h2
    subst h2; simp only[sC,z7]at h; simp only[z25]at h1
    exact ML h.1 h1
   | succ i'=>
    simp only[z25]at h1 h2
    rw[Ei hr i i' t h1 h2]

def OD(τ:TypeId→Option TI)(F:FA)(x:D)(d:Nat)(t:TypeId)(n:Nat)(parts:Array (Nat×Operand)):Option D:=
 match tk τ t with
 | some (.sl e)=>(match τ e,wE ((parts.toList.map (·.2)).map (ev x.sl))with
  | some ei,some es=>bif As 0 parts.toList&&Nat.beq n parts.toList.length&&es.all (fun e=>Nat.beq e.length ei.size)&&Nat.ble (n*ei.size) 16777216 then sU F x d (.one (.c (.sl es)))else none
  | _,_=>none)
 | _=>none
def Ky(b:B):Operand→Nat→K
 | .tmp t,j=>b.kd (.s t 0 j)
 | .const v,j=>jF (bQ v) 0 j
 | _,_=> .D
def B.lowT(F:FA)(b:B)(ps:List Operand):B:=b.setf F (dY ps) (fun m q=>if dY ps m=true∧q.hold=true then .D else q)
def cLit(τ:TypeId→Option TI)(F:FA)(b:B)(d:Nat)(t:TypeId)(parts:Array (Nat×Operand)):Option B:=
 match tk τ t with
 | some (.sl e)=>(match τ e with
  | some ei=>bif Nat.blt d F.n&&(parts.toList.map (·.2)).all (dO b)&&sC (parts.toList.map (·.2))&&(parts.toList.map (·.2)).all (fun v=>(range' 0 ei.size).all fun j=>(Ky b v j).part (mem d F.dp))then
    some (((b.lowT F (parts.toList.map (·.2))).put F d (fun _ _=>bif mem d F.dp then .U ei.size else .A ei.size)).nrm F)else none
  | none=>none)
 | _=>none

theorem SF{n:Nat}(hA:Ag F b x)(ps:List Operand):Low n (b.lowT F ps) x ((b.S n x).lowT ps):=
 kQ hA (Low.self n b x) rfl (fun _ _ _=>dR _) (fun _ _ _ hf=>hf)

theorem lit_S(hT:bE P τ)(hA:Ag F b x){t:TypeId}{n:Nat}{parts:Array (Nat×Operand)}(hd:o.dst=some d)(ho:o.op= .buildSlice t n parts)
  (h1:OD τ F x d t n parts=some x')(h2:cLit τ F b d t parts=some b'):OpS P F F.n o b x b' x':=by
 unfold OD at h1; split at h1<;>try cases h1
 rename_i e he; split at h1<;>try cases h1
 rename_i ei es hei hes; obtain⟨hq,h1⟩:=aK h1; simp only[z7]at hq; obtain⟨⟨⟨q1,q2⟩,q3⟩,q4⟩:=hq; obtain⟨e1,rfl⟩:=cM h1; unfold cLit at h2; rw[he]at h2; simp only[hei]at h2; obtain⟨hc,h2⟩:=aK h2; simp only[z7]at hc; obtain⟨⟨⟨c1,c2⟩,c3⟩,c4⟩:=hc; cases h2; have hps:(parts.toList.map (·.2)).map (fun v=>aV (ev (b.S F.n x).sl v))=es.map some:=by
  rw[←Em hes]; have key: ∀ps:List Operand,ps.all (dO b)=true→ps.map (fun v=>aV (ev (b.S F.n x).sl v))=(ps.map (ev x.sl)).map aV:=fun ps h=>by
   rw[Vj]; refine z49 fun v hv=> ?_
   simp only[Function.comp]; rw[pG (z18.1 h v hv)]
  exact key _ c2
 refine OpS.setPut (hA.setf _ _) (SF (n:=F.n) hA _) e1 (fun g0 w0=> ?_)
 have:=Yc (P:=P) (g0:=g0) (w0:=w0) (st:=b.S F.n x) hT (mem d F.dp) hd (cZ c1) ho (Gg q1) (by rw[z66]; exact z16 q2) he hei hps
  (fun e' he'=>z16 (z18.1 q3 e' he')) (z33 q4) (Ei c3) (fun v hv j hj=>by
   have h:=z18.1 (z18.1 c4 v hv) j (rD.2 ⟨z86 _,by omega⟩)
   have e:FZ (b.S F.n x) v j=Ky b v j:=by cases v<;>rfl
   rw[e]; exact h)
 cases hm:mem d F.dp with
 | true=>rw[hm]at this; exact this
 | false=>rw[hm]at this; exact this

def Fd(τ:TypeId→Option TI)(F:FA)(x:D)(d:Nat)(t:TypeId)(v y:Operand):Option D:=
 match tk τ t with
 | some (.sl e)=>(match τ e,ev x.sl v,ev x.sl y with
  | some ei, .one (.c (.int _ n)), .one (.c (.int _ n'))=>if n=n'∧0≤n∧n≤maxLen∧ei.bytes*n≤281474976710656 then sU F x d (.one (.c (.sl (List.replicate n.toNat ei.zero))))else none
  | _,_,_=>none)
 | _=>none
def UE(τ:TypeId→Option TI)(F:FA)(b:B)(d:Nat)(t:TypeId)(v y:Operand):Option B:=
 match tk τ t with
 | some (.sl e)=>(match τ e with
  | some ei=>bif Nat.blt d F.n&&dO b v&&dO b y then some ((b.put F d (fun _ _=> .U ei.size)).nrm F)else none
  | none=>none)
 | _=>none

theorem Ya(hT:bE P τ)(hA:Ag F b x){t:TypeId}{v y:Operand}(hd:o.dst=some d)(ho:o.op= .makeSlice t v y)
  (h1:Fd τ F x d t v y=some x')(h2:UE τ F b d t v y=some b'):OpS P F F.n o b x b' x':=by
 unfold Fd at h1; split at h1<;>try cases h1
 rename_i e he; split at h1<;>try cases h1
 rename_i ei k n k' n' hei hv hy; split at h1<;>try cases h1
 rename_i hq; obtain⟨rfl,q1,q2,q3⟩:=hq; obtain⟨e1,rfl⟩:=cM h1; unfold UE at h2; rw[he]at h2; simp only[hei]at h2; obtain⟨hc,h2⟩:=aK h2; simp only[z7]at hc; obtain⟨⟨c1,c2⟩,c3⟩:=hc; cases h2; exact OpS.put0 hA e1 (fun g0 w0=>Um hT hd (cZ c1) ho he hei (by rw[pG c2]; exact hv) (by rw[pG c3]; exact hy) q1 q2 q3)
end
end Go.Own

namespace Go.Own
open Go.RowKit

section
variable {P:Program} {τ:TypeId→Option TI} {F:FA} {o:Oper} {b b':B} {x x':D} {d:Nat}

theorem Gu(fs:List (Nat×Nat×Bool)): ∀(l:List (Nat×V)) {cs rs:List T},tP fs cs l=some rs→rs.length=cs.length
 | [],cs,rs,h=>by cases h; rfl
 | (i,v)::r,cs,rs,h=>by
  unfold tP at h; split at h<;>try cases h
  rename_i off size _ xs h1 h2; split at h<;>try cases h
  rename_i hq; rw[Gu fs r h]; simp only[z17,z64,z77]; omega

theorem Eo(fs:List (Nat×Nat×Bool)): ∀(l:List (Nat×V)) {cs rs:List T},tP fs cs l=some rs→ ∀ {p i:Nat} {v:V},l[p]? =some (i,v)→ ∃off size bb xs,fs[i]? =some (off,size,bb)∧aV v=some xs∧xs.length=size∧off+size≤cs.length
 | [],cs,rs,h,p,i,v,hp=>by simp at hp
 | (i0,v0)::r,cs,rs,h,p,i,v,hp=>by
  unfold tP at h; split at h<;>try cases h
  rename_i off size bb xs h1 h2; split at h<;>try cases h
  rename_i hq; cases p with
  | zero=>
   simp only[z24,z10,z41]at hp
   obtain⟨rfl,rfl⟩:=hp; exact⟨off,size,bb,xs,h1,h2,hq.1,hq.2⟩
  | succ p=>
   simp only[z25]at hp
   obtain⟨off',size',bb',xs',e1,e2,e3,e4⟩:=Eo fs r h hp; refine⟨off',size',bb',xs',e1,e2,e3, ?_⟩
   simp only[z17,z64,z77]at e4; omega

def XW(fs:List (Nat×Nat×Bool))(k:Nat)(ps:List (Nat×Operand)):Bool:=ps.all fun p=>match fs[p.1]? with
 | some (off,size,_)=>Nat.blt k off||Nat.ble (off+size) k
 | none=>true
theorem SZ{fs:List (Nat×Nat×Bool)}{k:Nat}{ps:List (Nat×Operand)}(h:XW fs k ps=true):Cb fs k ps:=by
 intro p hp off size bb hf; have:=z18.1 h p hp; rw[hf]at this; simp only[z47]at this; rcases this with h | h
 ·exact .inl (z33 h)
 ·exact .inr (z33 h)

def zB(b:B)(d:Nat)(fs:List (Nat×Nat×Bool)):List (Nat×Operand)→List (Loc×Loc)
 | []=> []
 | (i, .tmp t)::r=>(match fs[i]? with
  | some (off,size,_)=>((range' 0 size).filter fun j=>(b.kd (.s t 0 j)).hold&&XW fs (off+j) r&& !(Nat.beq t d)).map fun j=>(.s t 0 j, .s d 0 (off+j))
  | none=> [])++zB b d fs r
 | _::r=>zB b d fs r

theorem Je(fs:List (Nat×Nat×Bool)): ∀ {l:List (Nat×Operand)} {m:Loc×Loc},m∈zB b d fs l→ ∃(p i off size j t:Nat) (bb:Bool),l[p]? =some (i,Operand.tmp t)∧fs[i]? =some (off,size,bb)∧j<size∧Cb fs (off+j) (l.drop (p+1))∧m=(.s t 0 j, .s d 0 (off+j))∧t≠d
 | [],m,h=>by simp [zB]at h
 | (i,v)::r,m,h=>by
  have rest:m∈zB b d fs r→ ∃(p i' off size j t:Nat) (bb:Bool),((i,v)::r)[p]? =some (i',Operand.tmp t)∧fs[i']? =some (off,size,bb)∧j<size∧Cb fs (off+j) (((i,v)::r).drop (p+1))∧m=(.s t 0 j, .s d 0 (off+j))∧t≠d:=fun h=>by
   obtain⟨p,i',off,size,j,t,bb,h1,h2⟩:=Je fs h; exact⟨p+1,i',off,size,j,t,bb,h1,h2⟩
  cases v with
  | tmp t=>
   simp only[zB,z91]at h; rcases h with h | h
   ·split at h
    ·rename_i off size bb hf
     obtain⟨j,hj,rfl⟩:=z50.1 h; have hj:=z80.1 hj; simp only[z7]at hj; obtain⟨q1,⟨_,q2⟩,q3⟩:=hj; exact⟨0,i,off,size,j,t,bb,rfl,hf,by have:=(rD.1 q1).2; omega,SZ q2,rfl,fun e=>by subst e; simp [z42]at q3⟩
    ·simp at h
   ·exact rest h
  | _=>exact rest h

def yX(τ:TypeId→Option TI)(F:FA)(x:D)(d:Nat)(t:TypeId)(parts:Array (Nat×Operand)):Option D:=
 match τ t with
 | some ti=>(match ti.kind with
  | .struct fs=>(match tP fs ti.zero (parts.toList.map fun p=>(p.1,ev x.sl p.2))with
   | some rs=>sU F x d (.one (.ag rs))
   | none=>none)
  | _=>none)
 | none=>none
def OW(τ:TypeId→Option TI)(F:FA)(b:B)(d:Nat)(t:TypeId)(parts:Array (Nat×Operand)):Option B:=
 match τ t with
 | some ti=>(match ti.kind with
  | .struct fs=>bif Nat.blt d F.n&&parts.toList.all (fun p=>dO b p.2)then
    some (((b.put F d (fun _=>Cd fs (Dr ti.zero) (parts.toList.map fun p=>(p.1,GZ b p.2 0)))).mvs F (zB b d fs parts.toList)).nrm F)else none
  | _=>none)
 | none=>none

theorem VX(hT:bE P τ)(hA:Ag F b x){t:TypeId}{parts:Array (Nat×Operand)}(hd:o.dst=some d)(ho:o.op= .build t parts)
  (h1:yX τ F x d t parts=some x')(h2:OW τ F b d t parts=some b'):OpS P F F.n o b x b' x':=by
 unfold yX at h1; split at h1<;>try cases h1
 rename_i ti hti; split at h1<;>try cases h1
 rename_i fs hfs; split at h1<;>try cases h1
 rename_i rs hrs; obtain⟨e1,rfl⟩:=cM h1; unfold OW at h2; rw[hti]at h2; simp only[hfs]at h2; obtain⟨hc,h2⟩:=aK h2; simp only[z7]at hc; obtain⟨c1,c2⟩:=hc; cases h2; have hk: ∀p∈parts.toList,dO b p.2=true:=fun p hp=>z18.1 c2 p hp
 have hmap:parts.toList.map (fun p=>(p.1,ev (b.S F.n x).sl p.2))=parts.toList.map (fun p=>(p.1,ev x.sl p.2)):=z49 fun p hp=>by rw[pG (hk p hp)]
 have hM: ∀m∈zB b d fs parts.toList, ∃(p i off size j t':Nat) (bb:Bool),parts.toList[p]? =some (i,Operand.tmp t')∧fs[i]? =some (off,size,bb)∧j<size∧Cb fs (off+j) (parts.toList.drop (p+1))∧m=(.s t' 0 j, .s d 0 (off+j))∧t'≠d∧(∃y,(x.sl t').leaf 0 j=some y)∧b.has t'=true∧off+j<rs.length:=fun m hm=>by
  obtain⟨p,i,off,size,j,t',bb,h1,h2,h3,h4,h5,h6⟩:=Je fs hm; have hp:(parts.toList.map fun p=>(p.1,ev x.sl p.2))[p]? =some (i,x.sl t'):=by rw[z30,h1]; rfl
  obtain⟨off',size',bb',xs,e1,e2,e3,e4⟩:=Eo fs _ hrs hp; rw[h2]at e1; cases e1; refine⟨p,i,off,size,j,t',bb,h1,h2,h3,h4,h5,h6,⟨xs[j], ?_⟩,hk _ (bV h1), ?_⟩
  ·rw[Bh e2 j]; exact z12 (by omega)
  ·rw[Gu fs _ hrs]; omega
 refine OpS.put hA e1 (fun g0 w0=> ?_) (fun m hm=> ?_)
 ·have:=Sn (P:=P) (g0:=g0) (w0:=w0) (st:=b.S F.n x) hT (zB b d fs parts.toList) hd (cZ c1) ho hti hfs (by rw[hmap]; exact hrs) (fun m hm=>by
   obtain⟨p,i,off,size,j,t',bb,h1,h2,h3,h4,h5,h6,⟨y,h7⟩,h8,_⟩:=hM m hm; exact⟨p,i,off,size,j,t',bb,h1,h2,h3,h4,h5,h6,y,by rw[St.at_s,rG h8]; exact h7⟩)
  have e:(parts.toList.map fun p=>(p.1,opK (b.S F.n x) p.2 0))=parts.toList.map fun p=>(p.1,GZ b p.2 0):=z49 fun p _=>by rw[tR]
  rw[e]at this; exact this
 ·obtain⟨p,i,off,size,j,t',bb,h1,h2,h3,h4,rfl,h6,⟨y,h7⟩,h8,h9⟩:=hM m hm
  exact⟨⟨h8,by simp [aX,h6],y,h7⟩,0,off+j,rfl,rs[off+j],z12 h9⟩

end
end Go.Own

namespace Go.Own
open Go.RowKit

def cL:T→List (Nat×Nat)→T→T
 | _,[],y=>y
 | .sl es,(i,j)::p,y=> .sl (es.set i ((es.getD i []).set j (cL ((es.getD i []).getD j (.sl [])) p y)))
 | x,_::_,_=>x

theorem yA{α:Type}{l:List α}{i:Nat}{x d:α}(h:l[i]? =some x):l.getD i d=x:=by simp [List.getD,h]

theorem wZ{es:List (List T)}{i j:Nat}{row:List T}{c:T}{p:List (Nat×Nat)}{y:T}(h1:es[i]? =some row)(h2:row[j]? =some c):cL (.sl es) ((i,j)::p) y= .sl (es.set i (row.set j (cL c p y))):=by
 simp only[cL,yA h1,yA h2]

theorem lU{α:Type}{l:List α}{i:Nat}{y:α}(k:Nat)(h:i<l.length):(l.set i y)[k]? =if k=i then some y else l[k]? :=by
 rw[List.getElem?_set]
 by_cases e:i=k
 ·subst e; simp [h]
 ·rw[z14 e,z14 (Ne.symm e)]

theorem Ow.part{w:World}{p:List (Nat×Nat)}: ∀ {Z:Nat→Prop} {t:Option Nat} {F:Nat→Prop} {v:Value} {x:T} {v':Value} {x':T},Ow Z true w t F v x→Pl w v x p v' x'→
  ∃Fp:Nat→Prop,(∀b,Fp b→F b)∧Ow Z true w (if p=[]then t else none) Fp v' x'∧
   ∀(Z':Nat→Prop) (w':World) (N Gd:Nat→Prop) (y:T),(∀b,F b→ ¬ Fp b→Gd b∧w'.heap[b]? =w.heap[b]?)→(∀b,N b→Gd b)→(∀b,N b→F b→Fp b)→Ow Z' true w' (if p=[]then t else none) N v' y→Ow Z' true w' t Gd v (cL x p y):=by
 induction p with
 | nil=>
  intro Z t F v x v' x' h hp; cases hp; refine⟨F,fun _ h=>h,by simpa using h,fun Z' w' N Gd y _ h2 _ h4=> ?_⟩
  have h4:Ow Z' true w' t N v y:=by simpa using h4
  have:cL x [] y=y:=by cases x<;>rfl
  rw[this]; exact h4.mono (fun e=>e) (fun e=>by cases e) (fun b hb=>⟨h2 b hb,rfl⟩)
 | cons ij p ih=>
  intro Z t F v x v' x' h hp; cases hp with
  | cons b off len cap es e c y0 i j p v' x' he hy hc hp=>
   classical
   cases h with
   | nil t F a=>simp at he
   | frz F v x hd h=>cases hd
   | sl t F b len cap s arr ty es own cs ht hb hh hl hcl hcap hs ha hm hr=>
    have e1:=hs i e he; have hcell:arr[i*s+j]? =some (cs i j):=hm i e j y0 he hy; rw[cV w b _ arr ty (0,0) hh,z28,e1,hcell]at hc; cases hc; obtain⟨Fp,q1,q2,q3⟩:=ih (hr i e j y0 he hy) hp; refine⟨Fp,fun k hk=>(q1 k hk).1, ?_,fun Z' w' N Gd y h1 h2 h3 h4=> ?_⟩
    ·rw[z14 (by simp)]
     by_cases e:p=[]
     ·rw[z19 e]at q2; exact q2
     ·rw[z14 e]at q2; exact q2
    rw[z14 (by simp)]at h4
    have hjlt:j<e.length:=cR hy; have hilt:i<es.length:=cR he; have hnb: ¬ Fp b:=fun hk=>(q1 b hk).2.1 rfl
    have hNb: ∀k,N k→k≠b:=fun k hk e=>by subst e; exact hnb (h3 k hk hb)
    have hkeep:=h1 b hb hnb; rw[wZ he hy]; have hsub:=q3 Z' w' N (fun k=>Gd k∧k≠b∧(if N k then(i,j)else own k)=(i,j)) y (fun k hk hn=>by
     obtain⟨g1,g2⟩:=h1 k hk.1 hn; refine⟨⟨g1,hk.2.1, ?_⟩,g2⟩
     have: ¬ N k:=fun hN=>hn (h3 k hN hk.1)
     rw[z14 this]; exact hk.2.2) (fun k hk=>⟨h2 k hk,hNb k hk,by rw[z19 hk]⟩) (fun k hN hk=>h3 k hN hk.1) (by
      by_cases e:p=[]
      ·rw[z19 e]; exact h4
      ·rw[z14 e]; exact h4)
    refine .sl t Gd b len cap s arr ty _ (fun k=>if N k then(i,j)else own k) cs ht hkeep.1 (hkeep.2.trans hh) (by simpa using hl) hcl hcap (fun i' e' he'=> ?_) ha (fun i' e' j' x he' hx=> ?_) (fun i' e' j' x he' hx=> ?_)
    ·rw[lU i' hilt]at he'
     by_cases ei:i'=i
     ·rw[z19 ei]at he'; cases he'; simpa using e1
     ·rw[z14 ei]at he'; exact hs i' e' he'
    ·rw[lU i' hilt]at he'
     by_cases ei:i'=i
     ·rw[z19 ei]at he'; cases he'
      rw[lU j' hjlt]at hx; by_cases ej:j'=j
      ·rw[ei,ej]; exact hcell
      ·rw[z14 ej]at hx; rw[ei]; exact hm i e j' x he hx
     ·rw[z14 ei]at he'; exact hm i' e' j' x he' hx
    ·have other: ∀e0 x0,es[i']? =some e0→e0[j']? =some x0→(i',j')≠(i,j)→Ow Z' true w' none (fun k=>Gd k∧k≠b∧(if N k then(i,j)else own k)=(i',j')) (cs i' j') x0:=fun e0 x0 h5 h6 hne=>
      (hr i' e0 j' x0 h5 h6).mono (fun e=>e) (fun e=>by cases e) (fun k hk=>by
       have hnp: ¬ Fp k:=fun hp=>hne (by rw[←hk.2.2,(q1 k hp).2.2])
       obtain⟨g1,g2⟩:=h1 k hk.1 hnp; refine⟨⟨g1,hk.2.1, ?_⟩,g2⟩
       have: ¬ N k:=fun hN=>hnp (h3 k hN hk.1)
       rw[z14 this]; exact hk.2.2)
     rw[lU i' hilt]at he'; by_cases ei:i'=i
     ·rw[z19 ei]at he'; cases he'
      rw[lU j' hjlt]at hx; by_cases ej:j'=j
      ·rw[z19 ej]at hx; cases hx
       rw[ei,ej]; exact hsub
      ·rw[z14 ej]at hx
       subst ei; exact other e x he hx (by simp [ej])
     ·rw[z14 ei]at he'
      exact other e' x he' hx (by simp [ei])

theorem Ow.cells{Z Z':Nat→Prop}{deep:Bool}{w w':World}{t:Option Nat}{F:Nat→Prop}{b off len cap:Nat}{es:List (List T)}(h:Ow Z deep w t F (.slice (some ⟨b,off,none⟩) len cap) (.sl es))(hne: ¬ (deep=false∧t=none))
  {i j:Nat}{row ys:List T}{vs:List Value}{N:Nat→Prop}{ownN:Nat→Nat}{arr arr':Array Value}{ty:TypeId}(hrow:es[i]? =some row)(hle:j+ys.length≤row.length)(hlen:vs.length=ys.length)
  (hh:w.heap[b]? =some (.cells arr ty (0,0)))(hh':w'.heap[b]? =some (.cells arr' ty (0,0)))(hsz:arr'.size=arr.size)(harr: ∀k,arr'[k]? =if off+i*row.length+j≤k∧k<off+i*row.length+j+ys.length then vs[k - (off+i*row.length+j)]? else arr[k]?)
  (hZ:deep=false→ ∀k,Z k→Z' k∧w'.heap[k]? =w.heap[k]?)(hF: ∀k,F k→k≠b→w'.heap[k]? =w.heap[k]?)(hN: ∀k,N k→ ¬ F k)
  (hnew: ∀(c:Nat) y,ys[c]? =some y→ ∃u,vs[c]? =some u∧Ow Z' deep w' none (fun k=>N k∧ownN k=c) u y):
  Ow Z' deep w' t (fun k=>F k∨N k) (.slice (some ⟨b,off,none⟩) len cap) (.sl (es.set i (row.take j++ys++row.drop (j+ys.length)))):=by
 cases h with
 | nil t F a=>simp at hrow
 | frz F v x hd h=>exact absurd ⟨hd,rfl⟩ hne
 | sl t F b len cap s arr0 ty0 es own cs ht hb hh0 hl hcl hcap hs ha hm hr=>
  rw[hh]at hh0; cases hh0; have hilt:i<es.length:=cR hrow; have e1:=hs i row hrow; have hseg:=sD row ys j hle; simp only[z28,e1]at harr; classical
  have hlt: ∀(i':Nat) e' (j':Nat) x,es[i']? =some e'→e'[j']? =some x→j'<s:=fun i' e' j' x h1 h2=>by rw[←hs i' e' h1]; exact cR h2
  have hnl: ∀i' j',j'<s→(i'*s+j'=i*s+j'∧i'=i)∨ ¬ (i*s+j≤i'*s+j'∧i'*s+j'<i*s+j+ys.length):=by
   intro i' j' hj'; rcases Nat.lt_trichotomy i' i with h | h | h
   ·right
    have:(i'+1)*s≤i*s:=z57 s h; rw[z96]at this; omega
   ·left; subst h; exact⟨rfl,rfl⟩
   ·right
    have:(i+1)*s≤i'*s:=z57 s h; rw[z96]at this; rw[e1]at hle; omega
  refine .sl t _ b len cap s arr' ty _ (fun k=>if N k then(i,j+ownN k)else own k) (fun i' j'=>if i'=i∧j≤j'∧j'<j+ys.length then vs.getD (j' - j) undef else cs i' j') ht (.inl hb) hh' (by simpa using hl) hcl hcap (fun i' e' he'=> ?_) (by rw[hsz]; exact ha) (fun i' e' j' x he' hx=> ?_) (fun i' e' j' x he' hx=> ?_)
  ·rw[lU i' hilt]at he'
   by_cases ei:i'=i
   ·rw[z19 ei]at he'; cases he'
    simp only[z17,z64,z77]; omega
   ·rw[z14 ei]at he'; exact hs i' e' he'
  ·rw[lU i' hilt]at he'
   by_cases ei:i'=i
   ·rw[z19 ei]at he'; cases he'
    rw[hseg j']at hx; subst ei; rw[harr]; by_cases ej:j≤j'∧j'<j+ys.length
    ·rw[z19 ej]at hx
     rw[z19 ⟨by omega,by omega⟩]
     simp only[ej,and_self,if_true]; have:j' - j<vs.length:=by omega
     rw[show i'*s+j' - (i'*s+j)=j' - j by omega]
     simp [List.getD,z12 this]
    ·rw[z14 ej]at hx
     rw[z14 (by omega)]
     simp only[ej,and_false,if_false]; exact hm i' row j' x hrow hx
   ·rw[z14 ei]at he'
    have hj':=hlt i' e' j' x he' hx; rw[harr]; rw[z14 (by rcases hnl i' j' hj' with h | h; exact absurd h.2 ei; exact h)]
    simp only[ei,false_and,if_false]; exact hm i' e' j' x he' hx
  ·have keep: ∀e0 x0,es[i']? =some e0→e0[j']? =some x0→Ow Z' deep w' none (fun k=>(F k∨N k)∧k≠b∧(if N k then(i,j+ownN k)else own k)=(i',j')) (cs i' j') x0:=fun e0 x0 h5 h6=>
    (hr i' e0 j' x0 h5 h6).mono (fun e=>e) (fun e=>hZ e) (fun k hk=>by
     refine⟨⟨.inl hk.1,hk.2.1, ?_⟩,hF k hk.1 hk.2.1⟩
     have: ¬ N k:=fun h=>hN k h hk.1
     rw[z14 this]; exact hk.2.2)
   rw[lU i' hilt]at he'; by_cases ei:i'=i
   ·rw[z19 ei]at he'; cases he'
    rw[hseg j']at hx; subst ei; by_cases ej:j≤j'∧j'<j+ys.length
    ·rw[z19 ej]at hx
     simp only[ej,and_self,if_true]; obtain⟨u,hu,ho⟩:=hnew _ _ hx; have:vs.getD (j' - j) undef=u:=yA hu; rw[this]; refine ho.mono (fun e=>e) (fun e k hk=>⟨hk,rfl⟩) (fun k hk=>⟨⟨.inr hk.1,fun e=>by subst e; exact hN k hk.1 hb, ?_⟩,rfl⟩)
     rw[z19 hk.1,hk.2,Nat.add_sub_cancel' ej.1]
    ·rw[z14 ej]at hx
     simp only[ej,and_false,if_false]; exact keep row x hrow hx
   ·rw[z14 ei]at he'
    simp only[ei,false_and,if_false]; exact keep e' x he' hx
end Go.Own

namespace Go.Own
open Go.RowKit

def W.setLeaf:W→Nat→T→W
  | .c _,0,z=> .c z
  | .ag xs,j,z=> .ag (xs.set j z)
  | w,_,_=>w
def V.setLeaf:V→Nat→Nat→T→V
  | .one w,0,j,z=> .one (w.setLeaf j z)
  | .tup ws,k,j,z=> .tup (match ws[k]? with | some w=>ws.set k (w.setLeaf j z) | none=>ws)
  | v,_,_,_=>v

def lM(sl:Nat→V)(l:Loc)(z:T)(i:Nat):V:=match l with
  | .s i' k j=>if i=i' then(sl i).setLeaf k j z else sl i
  | _=>sl i
def uL(ob:Vz)(l:Loc)(z:T)(o:Nat):Option (List T):=match l with
  | .oc o' j=>if o=o' then(ob o).map (·.set j z)else ob o
  | _=>ob o

def Jj:V→Bool
  | .one (.al _ [])=>true
  | .one (.pp _ [] _ _)=>true
  | _=>false
def Rows(x z:T):Prop:= ∀es,x= .sl es→ ∃es',z= .sl es'∧ ∀(i:Nat) e,es[i]? =some e→ ∃e',es'[i]? =some e'∧e'.length=e.length
def St.upd(st:St)(l:Loc)(z:T):St:=
  { n:=st.n
    sl:=lM st.sl l z
    ob:=uL st.ob l z
    fl:=fun m=>match m with
      | .s i k j=>if k=0∧j=0∧aI (st.sl i)=l∧Jj (st.sl i)=false then .D else st.fl (.s i k j)
      | m=>st.fl m }

theorem W.setLeaf_leaf{w:W}{j:Nat}{z t:T}(h:w.leaf j=some t)(j':Nat):(w.setLeaf j z).leaf j'=if j'=j then some z else w.leaf j':=by
  cases w with
  | c y=>
    cases j with
    | zero=>cases j'<;>simp [W.setLeaf,W.leaf]
    | succ j=>simp [W.leaf]at h
  | ag xs=>
    simp only[W.setLeaf,W.leaf]; exact lU j' (cR h)
  | _=>simp [W.leaf]at h

theorem V.setLeaf_leaf{v:V}{k j:Nat}{z t:T}(h:v.leaf k j=some t)(k' j':Nat):(v.setLeaf k j z).leaf k' j'=if k'=k∧j'=j then some z else v.leaf k' j':=by
  cases v with
  | one w=>
    cases k with
    | succ k=>simp [V.leaf]at h
    | zero=>
      cases k' with
      | succ k'=>simp [V.setLeaf,V.leaf]
      | zero=>simp only[V.setLeaf,V.leaf,Nv]; exact W.setLeaf_leaf h j'
  | tup ws=>
    simp only[V.leaf,z22]at h; obtain⟨w,hw,h⟩:=h; simp only[V.setLeaf,hw,V.leaf]; rw[lU k' (cR hw)]; by_cases e:k'=k
    · subst e
      rw[z19 rfl,hw]; simp only[z8,Nv]; exact W.setLeaf_leaf h j'
    · rw[z14 e]; simp [e]

theorem V.setLeaf_root{v:V}{k j:Nat}{z t:T}(h:v.leaf k j=some t):aI (v.setLeaf k j z)= .none∧aI v= .none:=by
  cases v with
  | tup ws=>exact⟨rfl,rfl⟩
  | one w=>
    cases k with
    | succ k=>simp [V.leaf]at h
    | zero=>
      cases w with
      | c y=>cases j<;>exact⟨rfl,rfl⟩
      | ag xs=>exact⟨rfl,rfl⟩
      | _=>simp [V.leaf,W.leaf]at h

theorem upd_at{st:St}{l m:Loc}{z t:T}(h:st.at l=some t):(st.upd l z).at m=if m=l then some z else st.at m:=by
  cases m with
  | s i k j=>
    show((lM st.sl l z) i).leaf k j=_; cases l with
    | s i' k' j'=>
      simp only[lM]; by_cases e:i=i'
      · subst e
        rw[z19 rfl]; rw[V.setLeaf_leaf (by exact h)]
        by_cases e2:k=k'∧j=j'
        · rw[z19 e2,z19 (by rw[e2.1,e2.2])]
        · rw[z14 e2,z14 (by simpa using e2)]; rfl
      · rw[z14 e,z14 (by simp [e])]; rfl
    | oc o' j'=>rfl
    | _=>simp [St.at,atL]at h
  | oc o j=>
    show((uL st.ob l z) o).bind (·[j]?)=_
    cases l with
    | oc o' j'=>
      simp only[uL]; by_cases e:o=o'
      · subst e
        rw[z19 rfl]; simp only[St.at,atL,z22]at h; obtain⟨cells,hc,hj⟩:=h; rw[hc]; simp only[z36,z8]; rw[lU j (cR hj)]; by_cases e2:j=j'
        · subst e2; simp
        · rw[z14 e2,z14 (by simp [e2])]; simp only[St.at,atL,hc,z8]
      · rw[z14 e,z14 (by simp [e])]; rfl
    | s i' k' j'=>rfl
    | _=>simp [St.at,atL]at h
  | _=>cases l<;>first | rfl | (simp [St.at,atL]at h)

theorem Sy{st:St}{l m:Loc}{z t:T}(hl:l≠ .none)(hm:st.at m=some t):(st.upd l z).fl m=st.fl m:=by
  cases m with
  | s i k j=>
    simp only[St.upd]; rw[z14]; rintro ⟨rfl,rfl,h,_⟩
    rw[vN hm]at h; exact hl h.symm
  | _=>rfl

theorem cC.upd{g0:G}{w0:World}{st:St}{a:Act}{g:G}{w:World}(h:cC g0 w0 st a g w){g':G}{w':World}{X:Loc→Prop}(hC:AM g w g' w' X st)(hβ: ∀o,g'.β o=g.β o){l:Loc}{x0 z:T}{v0:Value}
    (hat:st.at l=some x0)(hv:vAt a.tmps g.β w l=some v0)(hX: ∀m x,(st.fl m).hold=true→st.at m=some x→m≠l→ ¬ X m)(hpp:(∀i n j,st.sl i= .one (.pp l [] n j)→st.fl (.s i 0 0)= .D)∨Rows x0 z)(hnew:LF g' w' (st.fl l) l v0 z):cC g0 w0 (st.upd l z) a g' w':=by
  have hlp:=at_isPlace hat; have hln:=(Loc.place_ne hlp).1; have hobj: ∀o b,g.own b= .obj o→g'.own b= .obj o∧w'.heap[b]? =w.heap[b]? :=fun o b hb=>by
    have hlt:b<w.heap.size:=h.ok.own b (by rw[hb]; simp)
    obtain⟨e1,e2⟩:=hC.evo.keep b hlt (fun hx=>(hC.X _ hx).2 o hb)
    exact⟨e1.trans hb,e2⟩
  have hvn:oQ v0:=by
    obtain⟨v,e1,e2,_⟩:=h.get hat; rw[hv]at e1; cases e1; exact e2
  have hlf: ∀m x v,st.at m=some x→m≠l→LF g w (st.fl m) m v x→LF g' w' (st.fl m) m v x:=fun m x v hm hne hf=>hC.lf h.ok (Loc.place_ne (at_isPlace hm)).1 (fun hk=>hX m x hk hm hne) hf
  have hcp: ∀i k xs b off,(st.sl i).comp k=some (.cp xs)→CpR g w (st.fl (.s i k 0)) b off xs→CpR g' w' (st.fl (.s i k 0)) b off xs:=fun i k xs b off hc hr=>by
    rcases hC.V with hV | hV
    · exact hr.evo hC.evo hC.none (.inr (.inr hV))
    · have:=hV (.s i k 0)
      cases hk:st.fl (.s i k 0)with
      | D=>trivial
      | F=>rw[hk]at hr; exact hr.evo hC.evo hC.none (.inr (.inl rfl))
      | V=>exact absurd hk this
      | _=>rw[hk]at hr; exact hr.elim
  have hother: ∀i,aI (st.sl i)≠l→(∀k j,(st.upd l z).fl (.s i k j)=st.fl (.s i k j)):=fun i hr k j=>by
    simp only[St.upd]; rw[z14 (fun e=>hr e.2.2.1)]
  have hrv: ∀i,(∀k j,Loc.s i k j≠l)→RV g' w' (fun k j=>(st.upd l z).fl (.s i k j)) (fun k j=> .s i k j) (a.tmps.getD i undef) (st.sl i):=fun i hi=>by
    by_cases hr:aI (st.sl i)=l
    · have:=h.slots i
      exact(Vf (by rw[hr]; exact hln)).mp (by
        have:RV g' w' (fun k j=>st.fl (.s i k j)) (fun k j=> .s i k j) (a.tmps.getD i undef) (st.sl i):=by
          cases hs:st.sl i with
          | tup ws=>rw[hs]at hr; exact absurd hr.symm hln
          | one y=>rw[hs]at hr; cases y<;>first | trivial | exact absurd hr.symm hln
        exact this)
    · have e:(fun k j=>(st.upd l z).fl (.s i k j))=fun k j=>st.fl (.s i k j):=by funext k j; exact hother i hr k j
      rw[e]; have hs:=h.slots i; have key:=hs.map (g':=g) (w':=w) (κ':=fun k j=>st.fl (.s i k j)) (l':=fun k j=> .s i k j) (fun _=>rfl) (fun _ _ _ _ _ _ _ hf=>hf) (fun _ _ _ _ _ hc=>hc)
      exact RV.map hβ (fun k j t u hj hu hn hf=>hlf (.s i k j) t u hj (hi k j) hf) (fun k xs hx b off hc=>hcp i k xs b off hx hc) hs
  refine⟨h.framed.trans hC.framed,hC.ok,h.size,h.defers,fun i=> ?_,fun o cells hc=> ?_,fun i hi hf=> ?_,fun o ho=>(hβ o).trans (h.bp o ho),h.nle⟩
  · show RV g' w' (fun k j=>(st.upd l z).fl (.s i k j)) (fun k j=> .s i k j) (a.tmps.getD i undef) (lM st.sl l z i)
    cases l with
    | s i' k' j'=>
      by_cases e:i=i'
      · subst e
        have hs:=h.slots i; have hleaf:(st.sl i).leaf k' j'=some x0:=hat; have hroot:=(V.setLeaf_root (z:=z) hleaf).2; have efl:(fun k j=>(st.upd (.s i k' j') z).fl (.s i k j))=fun k j=>st.fl (.s i k j):=by funext k j; exact hother i (by rw[hroot]; simp) k j
        rw[efl]; simp only[lM,if_true]; have hcell: ∀(k j:Nat) t u,(st.sl i).leaf k j=some t→oQ u→LF g w (st.fl (.s i k j)) (.s i k j) u t→(k,j)≠(k',j')→LF g' w' (st.fl (.s i k j)) (.s i k j) u t:=fun k j t u h1 h2 h3 h4=>hlf (.s i k j) t u h1 (by simpa using h4) h3
        have hW: ∀(k:Nat) (y:W) (u:Value),(st.sl i).comp k=some y→RW g w (fun j=>st.fl (.s i k j)) (fun j=> .s i k j) u y→(k=k'→Hm u j'=some v0∧y.leaf j'=some x0)→(∀j,(st.sl i).leaf k j=y.leaf j)→
            RW g' w' (fun j=>st.fl (.s i k j)) (fun j=> .s i k j) u (if k=k' then y.setLeaf j' z else y):=by
          intro k y u hy hr hkk hlv; by_cases ek:k=k'
          · subst ek
            rw[z19 rfl]; obtain⟨q1,q2⟩:=hkk rfl; cases y with
            | c t0=>
              cases j' with
              | succ j'=>simp [W.leaf]at q2
              | zero=>
                have hu:u=v0:=by
                  have:=(iQ hr.1).1; rw[this]at q1; exact z46 q1
                subst hu; exact⟨hvn,hnew⟩
            | ag xs=>
              obtain⟨cs,rfl,c1,c2⟩:=hr; refine⟨cs,rfl,by simpa using c1,fun j t ht=> ?_⟩
              have hlt:j'<xs.length:=cR q2; rw[lU j hlt]at ht; by_cases ej:j=j'
              · subst ej
                rw[z19 rfl]at ht; cases ht; exact⟨v0,q1,hvn,hnew⟩
              · rw[z14 ej]at ht
                obtain⟨c,d1,d2,d3⟩:=c2 j t ht; exact⟨c,d1,d2,hcell k j t c (by rw[hlv]; exact ht) d2 d3 (by simp [ej])⟩
            | _=>simp [W.leaf]at q2
          · rw[z14 ek]
            cases y with
            | c t0=>exact⟨hr.1,hcell k 0 t0 u (by rw[hlv]; rfl) hr.1 hr.2 (by simp [ek])⟩
            | ag xs=>
              obtain⟨cs,rfl,c1,c2⟩:=hr; refine⟨cs,rfl,c1,fun j t ht=> ?_⟩
              obtain⟨c,d1,d2,d3⟩:=c2 j t ht; exact⟨c,d1,d2,hcell k j t c (by rw[hlv]; exact ht) d2 d3 (by simp [ek])⟩
            | ptr o off=>simp only[RW]at hr ⊢; rw[hβ]; exact hr
            | cp xs=>
              obtain⟨b,off,c1,c2⟩:=hr; exact⟨b,off,c1,hcp i k xs b off hy c2⟩
            | nilp=>exact hr
            | ifc b=>exact hr
            | fn f caps=>simp only[RW]at hr ⊢; simp only[hβ]; exact hr
            | _=>trivial
        cases hsl:st.sl i with
        | one y=>
          rw[hsl]at hs hleaf; cases k' with
          | succ k'=>simp [V.leaf]at hleaf
          | zero=>
            have:=hW 0 y (a.tmps.getD i undef) (by rw[hsl]; rfl) hs (fun _=>by
              obtain⟨u,hu,hu2,_,_⟩:=RW.leaf (show RW g w (fun j=>st.fl (.s i 0 j)) (fun j=> .s i 0 j) (a.tmps.getD i undef) y from hs) hleaf
              have hv':sH (a.tmps.getD i undef) 0 j'=some v0:=hv; rw[hu2]at hv'; cases hv'; exact⟨hu,hleaf⟩) (fun j=>by rw[hsl]; rfl)
            rw[z19 rfl]at this; exact this
        | tup ws=>
          rw[hsl]at hs hleaf; obtain⟨vs,e1,e2,e3⟩:=hs; simp only[V.leaf,z22]at hleaf; obtain⟨y0,hy0,hleaf⟩:=hleaf; simp only[V.setLeaf,hy0]; refine⟨vs,e1,by simpa using e2,fun k y hy=> ?_⟩
          rw[lU k (cR hy0)]at hy; by_cases ek:k=k'
          · subst ek
            rw[z19 rfl]at hy; cases hy; obtain⟨u,hu,hr⟩:=e3 k y0 hy0; refine⟨u,hu, ?_⟩
            have:=hW k y0 u (by rw[hsl]; exact hy0) hr (fun _=>by
              obtain⟨u2,hu2,_,_,_⟩:=RW.leaf hr hleaf; have hv':sH (a.tmps.getD i undef) k j'=some v0:=hv; rw[e1]at hv'; simp only[sH,hu,z8,hu2]at hv'; cases hv'; exact⟨hu2,hleaf⟩) (fun j=>by rw[hsl]; simp [V.leaf,hy0])
            simpa using this
          · rw[z14 ek]at hy
            obtain⟨u,hu,hr⟩:=e3 k y hy; refine⟨u,hu, ?_⟩
            have:=hW k y u (by rw[hsl]; exact hy) hr (fun e=>absurd e ek) (fun j=>by rw[hsl]; simp [V.leaf,hy])
            simpa [ek]using this
      · simp only[lM,z14 e]
        exact hrv i (fun k j=>by simp [e])
    | oc o' j'=>exact hrv i (fun k j=>by simp)
    | _=>simp [St.at,atL]at hat
  · have hc':uL st.ob l z o=some cells:=hc
    have plain:st.ob o=some cells→(∀j,Loc.oc o j≠l)→ ∃arr ty,w'.heap[g'.β o]? =some (.cells arr ty (0,0))∧arr.size=cells.length∧g'.own (g'.β o)= .obj o∧ ∀(j:Nat) x,cells[j]? =some x→ ∃c,arr[j]? =some c∧oQ c∧LF g' w' ((st.upd l z).fl (.oc o j)) (.oc o j) c x:=fun hc hne=>by
      obtain⟨arr,ty,r1,r2,r3,r4⟩:=h.obs o cells hc; obtain⟨e1,e2⟩:=hobj o _ r3; rw[hβ]; refine⟨arr,ty,e2.trans r1,r2,e1,fun j x hx=> ?_⟩
      obtain⟨c,d1,d2,d3⟩:=r4 j x hx; exact⟨c,d1,d2,hlf (.oc o j) x c (by rw[St.at_oc,hc]; exact hx) (hne j) d3⟩
    cases l with
    | oc o' j'=>
      simp only[uL]at hc'; by_cases e:o=o'
      · subst e
        rw[z19 rfl,z26]at hc'; obtain⟨cells0,hc0,rfl⟩:=hc'; obtain⟨arr,ty,r1,r2,r3,r4⟩:=h.obs o cells0 hc0; obtain⟨e1,e2⟩:=hobj o _ r3; have hat':cells0[j']? =some x0:=by rw[St.at_oc,hc0]at hat; exact hat
        rw[hβ]; refine⟨arr,ty,e2.trans r1,by simpa using r2,e1,fun j x hx=> ?_⟩
        rw[lU j (cR hat')]at hx; by_cases ej:j=j'
        · subst ej
          rw[z19 rfl]at hx; cases hx; refine⟨v0, ?_,hvn,hnew⟩
          have hv':w.cell? ⟨g.β o,j,none⟩=some v0:=hv; rw[cV w _ j _ _ _ r1]at hv'; exact hv'
        · rw[z14 ej]at hx
          obtain⟨c,d1,d2,d3⟩:=r4 j x hx; exact⟨c,d1,d2,hlf (.oc o j) x c (by rw[St.at_oc,hc0]; exact hx) (by simp [ej]) d3⟩
      · rw[z14 e]at hc'
        exact plain hc' (fun j=>by simp [e])
    | s i' k' j'=>exact plain hc' (fun j=>by simp)
    | _=>simp [St.at,atL]at hat
  · have hsl:aI ((st.upd l z).sl i)=aI (st.sl i)∧(aI (st.sl i)≠ .none→(st.upd l z).sl i=st.sl i):=by
      show aI (lM st.sl l z i)=_∧(_→lM st.sl l z i=_); cases l with
      | s i' k' j'=>
        simp only[lM]; by_cases e:i=i'
        · subst e
          rw[z19 rfl]; obtain⟨q1,q2⟩:=V.setLeaf_root (z:=z) (show(st.sl i).leaf k' j'=some x0 from hat); exact⟨q1.trans q2.symm,fun hne=>absurd q2 hne⟩
        · rw[z14 e]; exact⟨rfl,fun _=>rfl⟩
      | _=>exact⟨rfl,fun _=>rfl⟩
    rw[hsl.1]at hi; rw[hsl.2 hi]; by_cases etop:aI (st.sl i)=l
    · have ht:Jj (st.sl i)=true:=by
        cases ht:Jj (st.sl i)with
        | true=>rfl
        | false=>exfalso; apply hf; simp [St.upd,etop,ht]
      have hf1:st.fl (.s i 0 0)≠ .D:=fun e2=>hf (by
        simp only[St.upd]; rw[z14 (by rw[ht]; simp)]; exact e2)
      obtain⟨p1,p2⟩:=h.pls i hi hf1; rw[etop]at p1 ⊢; refine⟨by rw[Sy hln hat]; exact p1, ?_⟩
      have hv':vAt a.tmps g'.β w' l=some v0:=by
        cases l with
        | oc o j=>
          have hat2:=hat; simp only[St.at,atL,z22]at hat2; obtain⟨cells,hc,hj⟩:=hat2; obtain⟨arr,ty,r1,r2,r3,r4⟩:=h.obs o cells hc; obtain⟨e1,e2⟩:=hobj o _ r3; have hv2:w.cell? ⟨g.β o,j,none⟩=some v0:=hv; show w'.cell? ⟨g'.β o,j,none⟩=some v0; rw[hβ,cN e2]; exact hv2
        | _=>exact hv
      cases hs:st.sl i with
      | tup ws=>rw[hs]at ht; cases ht
      | one y=>
        rw[hs]at ht p2 etop; cases y with
        | al l' p=>
          cases p with
          | cons a p=>cases ht
          | nil=>
            have:l'=l:=etop; subst this; obtain⟨v1,x1,x',e1,e2,e3⟩:=p2; rw[hv]at e1; have e4:=z46 e1; subst e4; cases e3; exact⟨_,z,z,hv',by rw[upd_at hat,z19 rfl], .nil _ _⟩
        | pp l' p n j=>
          cases p with
          | cons a p=>cases ht
          | nil=>
            have:l'=l:=etop; subst this; rcases hpp with hpp | hpp
            · exact absurd (hpp i n j hs) hf1
            · obtain⟨v1,x1,b,off,len,cap,es,e,e1,e2,e3,e4,e5⟩:=p2
              have e2':some x0=some x1:=hat.symm.trans e2; have e6:=z46 e2'; rw[hv]at e1; have e7:=z46 e1; subst e6; subst e7; cases e3; obtain⟨es',r1,r2⟩:=hpp es rfl; obtain⟨e',r3,r4⟩:=r2 n e e4; subst r1; exact⟨_, .sl es',b,off,len,cap,es',e',hv',by rw[upd_at hat,z19 rfl], .nil _ _,r3,by rw[r4]; exact e5⟩
        | _=>cases ht
    have hf1:aI (st.sl i)≠l∧st.fl (.s i 0 0)≠ .D:=⟨etop,by rw[hother i etop]at hf; exact hf⟩
    obtain⟨p1,p2⟩:=h.pls i hi hf1.2; obtain⟨t,ht⟩:=p2.root hi; have hXr:=hX _ t p1 ht hf1.1; refine⟨by rw[Sy hln ht]; exact p1, ?_⟩
    have hβ':g'.β=g.β:=funext hβ; refine p2.congr ?_ (by rw[upd_at hat,z14 hf1.1]) (fun v1 x1 p v' x' e1 e2 hp=>h.pl_evo hC.evo hC.none p1 hXr e1 e2 hp)
    rw[hβ']; generalize hr:aI (st.sl i)=m at*; cases m with
    | oc o j=>
      simp only[vAt]; simp only[St.at,atL,z22]at ht; obtain⟨cells',hc',_⟩:=ht; obtain⟨arr',ty',k1,k2,k3,k4⟩:=h.obs o cells' hc'; exact cN (hobj o _ k3).2
    | _=>rfl
end Go.Own

namespace Go.Own
open Go.RowKit

theorem SQ{st:St}{l:Loc}{x:T}(hx:st.at l=some x):st.killV.fl l=if st.fl l= .V then .D else st.fl l:=xX (f:=fun m=>if st.fl m= .V then .D else st.fl m) rfl hx

section
variable {P:Program} {τ:TypeId→Option TI} {g0:G} {w0:World} {o:Oper} {st:St} {d:Nat}

theorem ND{x0:T}{p:List (Nat×Nat)}{es:List (List T)}{row xs:List T}{n j:Nat}(hnav:nav x0 p=some (.sl es))(hrow:es[n]? =some row)(hle:j+xs.length≤row.length):Rows x0 (cL x0 p (.sl (es.set n (row.take j++xs++row.drop (j+xs.length))))):=by
 have hset: ∀(es:List (List T)) (n:Nat) (r:List T),(∀row,es[n]? =some row→r.length=row.length)→ ∀(i:Nat) e,es[i]? =some e→ ∃e',(es.set n r)[i]? =some e'∧e'.length=e.length:=fun es n r hr i e he=>by
  have hi:=cR he; by_cases h:i=n
  ·subst h
   exact⟨r,by rw[z65 hi],hr e he⟩
  ·exact⟨e,by rw[z94 (fun e=>h e.symm)]; exact he,rfl⟩
 intro es0 h0; subst h0; cases p with
 | nil=>
  simp only[nav,z10,T.sl.injEq]at hnav; subst hnav; refine⟨_,rfl,hset _ _ _ (fun r h=> ?_)⟩
  rw[hrow]at h; cases h; simp only[z17,z64,z77]; omega
 | cons ij p=>
  obtain⟨i,k⟩:=ij; refine⟨_,rfl,hset _ _ _ (fun r h=> ?_)⟩
  rw[z71,yA h]

def K.turn(f:Bool)(p:List (Nat×Nat)):K→Bool
 | .A _=> !f&&p.isEmpty
 | .U _=>f
 | _=>false

theorem NH(hT:bE P τ){t:TypeId}{tx:Nat}{y:Operand}{i:TI}{l:Loc}{p:List (Nat×Nat)}{n j:Nat}{x0:T}{es:List (List T)}{row xs:List T}(f:Bool)(hd:o.dst=none)(ho:o.op= .store t (.tmp tx) y)(hi:τ t=some i)
  (hx:st.sl tx= .one (.pp l p n j))(hln:l≠ .none)(hk:st.fl (.s tx 0 0)≠ .D∧st.fl (.s tx 0 0)≠ .V)(hat:st.at l=some x0)(hnav:nav x0 p=some (.sl es))(hrow:es[n]? =some row)(hy:aV (ev st.sl y)=some xs)(hsz:xs.length=i.size)(hle:j+xs.length≤row.length)
  (hkl:(st.fl l).turn f p=true)(hyk: ∀c,c<xs.length→(FZ st y c).part f=true)(hyl:dY [y] l=false):
  pW P g0 w0 o st ((st.killV.lowT [y]).upd l (cL x0 p (.sl (es.set n (row.take j++xs++row.drop (j+xs.length)))))):=by
 intro a w ⟨g,hs⟩; obtain⟨hhold,v0,b,off,len,cap,hv0,hpl,hptr,_⟩:=hs.ppCell hx hln hk.1 hat hnav hrow; have hlp:=at_isPlace hat; have hnV:st.fl l≠ .V:=by intro e; rw[e]at hkl; simp [K.turn]at hkl
 obtain⟨v0',e1,hvn,hlf⟩:=hs.get hat; rw[hv0]at e1; cases e1; have hroot: ∃t0,Ow (frz g w) f w t0 (fun k=>g.own k=l) v0 x0∧((∃s,st.fl l= .A s∧t0=some s∧f=false∧p=[])∨ ∃s,st.fl l= .U s∧t0=iT s∧f=true):=by
  cases hκ:st.fl l with
  | A s=>
   rw[hκ]at hkl hlf; simp only[K.turn,z7,z38]at hkl; have hp:p=[]:=by simpa using hkl.2
   refine⟨some s, ?_, .inl ⟨s,rfl,rfl,hkl.1,hp⟩⟩
   rw[hkl.1]; exact hlf
  | U s=>
   rw[hκ]at hkl hlf; have hf:f=true:=hkl; refine⟨iT s, ?_, .inr ⟨s,rfl,rfl,hf⟩⟩
   rw[hf]; exact hlf
  | _=>rw[hκ]at hkl; simp [K.turn]at hkl
 obtain⟨t0,hOw,hcase⟩:=hroot
 have hpart: ∃(Fp:Nat→Prop) (t':Option Nat),(∀k,Fp k→g.own k=l)∧Ow (frz g w) f w t' Fp (.slice (some ⟨b,off,none⟩) len cap) (.sl es)∧ ¬ (f=false∧t'=none)∧
   ∀(Z':Nat→Prop) (w':World) (N Gd:Nat→Prop) (y:T),(∀k,g.own k=l→ ¬ Fp k→Gd k∧w'.heap[k]? =w.heap[k]?)→(∀k,N k→Gd k)→(∀k,N k→g.own k=l→Fp k)→Ow Z' f w' t' N (.slice (some ⟨b,off,none⟩) len cap) y→Ow Z' f w' t0 Gd v0 (cL x0 p y):=by
  rcases hcase with⟨s,_,ht0,hf,hp⟩ | ⟨s,_,ht0,hf⟩
  ·subst hp
   cases hpl; subst ht0; refine⟨fun k=>g.own k=l,some s,fun _ h=>h,hOw,by simp,fun Z' w' N Gd y _ h2 _ h4=> ?_⟩
   have:cL (.sl es) [] y=y:=rfl; rw[this]; exact h4.mono (fun e=>e) (fun _ k hk=>⟨hk,rfl⟩) (fun k hk=>⟨h2 k hk,rfl⟩)
  ·subst hf
   obtain⟨Fp,q1,q2,q3⟩:=Ow.part hOw hpl; exact⟨Fp,_,q1,q2,by simp,q3⟩
 obtain⟨Fp,t',q1,q2,q3,q4⟩:=hpart; have hblk: ∃arr ty s',w.heap[b]? =some (.cells arr ty (0,0))∧arr.size=cap*s'∧off=0∧len≤cap∧es.length=len∧row.length=s'∧Fp b:=by
  cases q2 with
  | nil t F a=>simp at hrow
  | frz F v x hd h=>exact absurd ⟨hd,rfl⟩ q3
  | sl t F b len cap s arr ty es own cs ht hb hh hl hcl hcap hs ha hm hr=>exact⟨arr,ty,s,hh,ha,rfl,hcl,hl,hs n row hrow,hb⟩
 obtain⟨arr,ty,s',hh,hasz,hoff,hlc,hel,hrl,hFb⟩:=hblk; have hbl:g.own b=l:=q1 b hFb; obtain⟨k1,k2,k3,k4,_⟩:=iI (hs.ev_rv y (fun _ _=> .none)) hy
 obtain⟨info,_,_,r1,_,r3,_⟩:=hT.get hi; have hnlt:n<es.length:=cR hrow; have hroom:off+n*row.length+j+xs.length≤arr.size:=by
  rw[hasz,hoff,hrl]; have h1:(n+1)*s'≤cap*s':=z57 s' (by omega)
  rw[z96]at h1; omega
 have hone: ∀v∈(a.eval y).cells.toList,v.oneCell'=true:=fun v hv=>by
  obtain⟨c,hc⟩:=z60 hv
  have hcl:c<xs.length:=by have:=cR hc; simp only[z55]at this; omega
  obtain⟨u,u1,u2,_⟩:=k2 c xs[c] (z12 hcl)
  rw[z27]at hc
  rw[hc]at u1; cases u1; exact pT u2
 have hcl:(a.eval y).cells.toList.length=xs.length:=by simpa using k1
 obtain⟨w',s1,s2,s3,s4,s5,s6,s7⟩:=oN (P:=P) (p:=off+n*row.length+j) hh (a.eval y).cells.toList (by rw[hcl]; exact hroom) hone
 have hv:(execOp a.eval o).run P w= .ok .skip w':=by
  obtain⟨dst,op,ty',pos,after,guard⟩:=o; simp only at ho; subst ho; have hne: ¬ (a.eval y).cells.size≠info.size:=by rw[k1,r3,hsz]; simp
  have e1:a.eval (.tmp tx)= .pointer (some ⟨b,off+n*row.length+j,none⟩):=hptr; simp only[execOp,Instr.storeAt,e1,Instr.sureAddr,Sem.run_bind,Sem.run_pure,Result.andThen_ok,storeVar,sizeOf,typeInfo,run_program,r1,z14 hne,s1]
 refine⟨_,_,hv, .inr ⟨rfl, ?_⟩⟩
 rw[hd]; let g':G:= { β:=g.β,own:=fun k=>if dY [y] (g.own k)=true then l else g.own k }
 have hplace:=Loc.place_ne hlp; have hgn: ∀k,dY [y] (g.own k)=false→g'.own k=g.own k:=fun k hk=>by show(if _ then _ else _)=_; rw[z14 (by rw[hk]; simp)]
 have hgl: ∀k,dY [y] (g.own k)=true→g'.own k=l:=fun k hk=>by show(if _ then _ else _)=_; rw[z19 hk]
 have hforT: ∀m,dY [y] m=true→ ¬ qN m∧ ∀o,m≠ .obj o:=fun m hm=>by
  have:=Loc.place_ne (CQ hm); exact⟨fun h=>h.elim this.1 this.2.1,this.2.2⟩
 have hZ: ∀k,frz g w k→frz g' w' k∧w'.heap[k]? =w.heap[k]? :=fun k hk=>by
  refine⟨⟨by rw[s4]; exact hk.1, ?_⟩,s3 k (fun e=>by rw[e]at hk; exact hln (hbl.symm.trans hk.2))⟩
  rw[hgn k (by rw[hk.2]; rfl)]; exact hk.2
 have hs1:=hs.killV.lowT [y]; have hC:AM g w g' w' (fun m=>m=l∨dY [y] m=true) (st.killV.lowT [y]):=by
  refine⟨⟨by rw[s4]; exact z39 _,fun k _ hX=>⟨hgn k (by simpa using fun h=>hX (.inr h)),s3 k (fun e=>hX (.inl (by rw[e]; exact hbl)))⟩⟩,fun m hm=> ?_, .inr (fun m=> ?_),s5,s6,s7,⟨fun k hk=> ?_⟩⟩
  ·rcases hm with rfl | hm
   ·exact⟨fun h=>h.elim hplace.1 hplace.2.1,hplace.2.2⟩
   ·exact hforT m hm
  ·refine rZ (fun m=> ?_) m
   split
   ·simp
   ·exact tD st m
  ·rw[s4]
   by_cases e:dY [y] (g.own k)=true
   ·exact hs.ok.own k (fun e2=>by rw[e2]at e; simp [dY]at e)
   ·rw[hgn k (by simpa using e)]at hk; exact hs.ok.own k hk
 have hat1:(st.killV.lowT [y]).at l=some x0:=hat; have hfl1:(st.killV.lowT [y]).fl l=st.fl l:=by
  rw[Ki (st:=st.killV) hat,SQ hat,z14 hnV,z14 (by rw[hyl]; simp)]
 have hres:cC g0 w0 ((st.killV.lowT [y]).upd l (cL x0 p (.sl (es.set n (row.take j++xs++row.drop (j+xs.length)))))) a g' w':=by
  refine hs1.upd hC (fun _=>rfl) hat1 hv0 (fun m x hm hmx hne hX=> ?_) (.inr (ND hnav hrow hle)) ?_
  ·rcases hX with e | e
   ·exact hne e
   ·rw[Ki (st:=st.killV) (x:=x) hmx,e]at hm
    split at hm
    ·simp [K.hold]at hm
    ·rename_i h; simp [hm]at h
  ·rw[hfl1]
   have hcells:=Ow.cells (Z':=frz g' w') (w':=w') (N:=fun k=>dY [y] (g.own k)=true) (ownN:=fun k=>match g.own k with | .s _ _ c=>c | _=>0) (vs:=(a.eval y).cells.toList) (ys:=xs) (j:=j) q2 q3 hrow hle hcl hh s2 (by
     simp only[Tf,z17,z64,z77,z55]; rw[hcl]at*; omega) (fun k=>by
     have:=sD arr.toList (a.eval y).cells.toList (off+n*row.length+j) (by rw[hcl]; simpa using hroom) k
     rw[hcl]at this; rw[hcl]; simpa using this) (fun _=>hZ) (fun k _ hne=>s3 k hne) (fun k hN hF=>by
     have:=q1 k hF; rw[this,hyl]at hN; cases hN) (fun c z hz=>by
     obtain⟨u,u1,u2,u3⟩:=k2 c z hz; have hclt:c<xs.length:=cR hz; refine⟨u,by rw[z27]; exact u1, ?_⟩
     have hq:LF g w (FZ st y c) (match y with | .tmp ty=> .s ty 0 c | _=> .none) u z:=by
      cases y with
      | tmp ty=>
       obtain⟨m1,m2,_⟩:=iI (hs.slots ty) hy; obtain⟨u',v1,_,v3⟩:=m2 c z hz; have:a.eval (.tmp ty)=a.tmps.getD ty undef:=rfl; rw[this,v1]at u1; cases u1; exact v3
      | const v=>
       obtain⟨m1,m2,_⟩:=iI (vY g w (fun _ _=> .none) v) hy
       obtain⟨u',v1,_,v3⟩:=m2 c z hz; have:a.eval (.const v)=v:=rfl; rw[this,v1]at u1; cases u1; exact v3
      | func f=>simp [ev,aV]at hy
      | global n=>simp [ev,aV]at hy
     refine LF.part (g':=g') (w':=w') hq (hyk c hclt) hZ (fun hh k hk=> ?_)
     cases y with
     | tmp ty=>
      simp only at hk; have hin:dY [Operand.tmp ty] (g.own k)=true:=by rw[hk]; simp [dY,zI]
      refine⟨⟨hin,by rw[hk]⟩,s3 k (fun e=> ?_)⟩
      rw[e,hbl]at hin; rw[hyl]at hin; cases hin
     | const v=>
      exfalso
      have hh':(jF (bQ v) 0 c).hold=true:=hh; unfold jF at hh'; split at hh'
      ·split at hh'<;>cases hh'
      ·cases hh'
     | func f=>simp [ev,aV]at hy
     | global n=>simp [ev,aV]at hy)
   have hfull:=q4 (frz g' w') w' (fun k=>Fp k∨dY [y] (g.own k)=true) (fun k=>g'.own k=l) _ (fun k hk hn=>⟨by rw[hgn k (by rw[hk]; exact hyl)]; exact hk,s3 k (fun e=>hn (by rw[e]; exact hFb))⟩)
    (fun k hk=>by
     rcases hk with h | h
     ·rw[hgn k (by rw[q1 k h]; exact hyl)]; exact q1 k h
     ·exact hgl k h) (fun k hk hl2=>by
     rcases hk with h | h
     ·exact h
     ·rw[hl2,hyl]at h; cases h) hcells
   rcases hcase with⟨s,hκ,ht0,hf,_⟩ | ⟨s,hκ,ht0,hf⟩
   ·rw[hκ]; subst hf; subst ht0; exact hfull
   ·rw[hκ]; subst hf; subst ht0; exact hfull
 exact⟨g',hres⟩
end
end Go.Own

namespace Go.Own
open Go.RowKit

def D.upd(x:D)(l:Loc)(z:T):D:= { sl:=lM x.sl l z,ob:=uL x.ob l z }

theorem EM: ∀ {xs ys:List T} {j:Nat} {t z:T},fY xs ys=true→xs[j]? =some t→(∀u,tY t u=tY z u)→fY (xs.set j z) ys=true
 | [],ys,j,t,z,_,h,_=>by simp at h
 | x::xs,[],j,t,z,h,_,_=>by simp [fY]at h
 | x::xs,y::ys,0,t,z,h,h2,h3=>by
  simp only[z24,z10]at h2
  subst h2; simp only[fY,z7,Xi]at h ⊢; exact⟨by rw[←h3]; exact h.1,h.2⟩
 | x::xs,y::ys,j+1,t,z,h,h2,h3=>by
  simp only[z25]at h2
  simp only[fY,z7,Vr]at h ⊢; exact⟨h.1,EM h.2 h2 h3⟩

theorem JW{w s:W}{j:Nat}{t z:T}(h:bX w s=true)(hl:w.leaf j=some t)(hc: ∀u,tY t u=tY z u):bX (w.setLeaf j z) s=true:=by
 cases w with
 | c y=>
  cases j with
  | succ j=>simp [W.leaf]at hl
  | zero=>
   simp only[W.leaf,z10]at hl; subst hl; cases s<;>simp [bX]at h
   simp only[W.setLeaf,bX]; rw[←hc]; exact h
 | ag xs=>
  cases s<;>simp [bX]at h
  simp only[W.setLeaf,bX]; exact EM h hl hc
 | _=>simp [W.leaf]at hl

theorem Gp: ∀ {ws ss:List W} {k j:Nat} {w:W} {t z:T},nJ ws ss=true→ws[k]? =some w→w.leaf j=some t→(∀u,tY t u=tY z u)→nJ (ws.set k (w.setLeaf j z)) ss=true
 | [],_,k,j,w,t,z,_,h,_,_=>by simp at h
 | x::xs,[],k,j,w,t,z,h,_,_,_=>by simp [nJ]at h
 | x::xs,y::ys,0,j,w,t,z,h,h2,h3,h4=>by
  simp only[z24,z10]at h2
  subst h2; simp only[nJ,z7,Xi]at h ⊢; exact⟨JW h.1 h3 h4,h.2⟩
 | x::xs,y::ys,k+1,j,w,t,z,h,h2,h3,h4=>by
  simp only[z25]at h2
  simp only[nJ,z7,Vr]at h ⊢; exact⟨h.1,Gp h.2 h2 h3 h4⟩

theorem Sd{v s:V}{k j:Nat}{t z:T}(h:fits v s=true)(hl:v.leaf k j=some t)(hc: ∀u,tY t u=tY z u):fits (v.setLeaf k j z) s=true:=by
 cases v with
 | one w=>
  cases k with
  | succ k=>simp [V.leaf]at hl
  | zero=>
   cases s with
   | tup ss=>simp [fits]at h
   | one y=>exact JW h hl hc
 | tup ws=>
  cases s with
  | one y=>simp [fits]at h
  | tup ss=>
   simp only[V.leaf,z22]at hl; obtain⟨w,hw,hl⟩:=hl; simp only[V.setLeaf,hw,fits]; exact Gp h hw hl hc

theorem Ge{x:T}{p:List (Nat×Nat)}{es es':List (List T)}(h:nav x p=some (.sl es))(u:T):tY x u=tY (cL x p (.sl es')) u:=by
 cases p with
 | nil=>
  have h':x= .sl es:=by cases x<;>simp [nav]at h; rw[h]
  subst h'; cases u<;>rfl
 | cons ij p=>
  obtain⟨i,j⟩:=ij; cases x with
  | sl es0=>cases u<;>rfl
  | _=>simp [nav]at h

section
variable {P:Program} {τ:TypeId→Option TI} {F:FA} {o:Oper} {b b':B} {x x':D} {d:Nat}

theorem Ag.upd(hA:Ag F b x){l:Loc}{t z:T}(hL:b.hasL l=true)(hat:x.at l=some t)(hc: ∀u,tY t u=tY z u):Ag F b (x.upd l z):=by
 refine⟨fun i hi=> ?_,fun o ho=> ?_⟩
 ·show lM x.sl l z i=_∨Own.fits (lM x.sl l z i) _=true
  cases l with
  | s i' k j=>
   simp only[lM]; by_cases e:i=i'
   ·subst e
    rw[z19 rfl]; have hl:(x.sl i).leaf k j=some t:=hat; rcases hA.sl i hi with e2 | e2
    ·rw[e2]at hl; cases k<;>simp [V.leaf,W.leaf]at hl
    ·exact .inr (Sd e2 hl hc)
   ·rw[z14 e]; exact hA.sl i hi
  | _=>exact hA.sl i hi
 ·show ∃cs,uL x.ob l z o=some cs∧_
  cases l with
  | oc o' j=>
   simp only[uL]; by_cases e:o=o'
   ·subst e
    rw[z19 rfl]; obtain⟨cs,h1,h2⟩:=hA.ob o ho; have hl:cs[j]? =some t:=by simp only[D.at,atL,h1,z8]at hat; exact hat
    exact⟨cs.set j z,by rw[h1]; rfl,EM h2 hl hc⟩
   ·rw[z14 e]; exact hA.ob o ho
  | _=>exact hA.ob o ho

theorem Sc{v s:V}(h:fits v s=true):Jj v=Jj s:=by
 cases v with
 | tup ws=>cases s<;>first | rfl | simp [fits]at h
 | one x=>
  cases s with
  | tup ws=>simp [fits]at h
  | one y=>
   cases x with
   | al l p=>
    cases y<;>simp [fits,bX]at h
    rename_i l' p'; cases p<;>cases p'<;>first | rfl | simp at h
   | pp l p i j=>
    cases y<;>simp [fits,bX]at h
    rename_i l' p' i' j'; cases p<;>cases p'<;>first | rfl | simp at h
   | _=>cases y<;>first | rfl | simp [fits,bX]at h
def gJ(F:FA)(l:Loc)(i:Nat):Bool:= !(decide (aI (F.shOf i)=l))||Jj (F.shOf i)

theorem Gy{n:Nat}{s:St}(hA:Ag F b x)(h:Low n b x s){l:Loc}{t z:T}(hL:b.hasL l=true)(hat:x.at l=some t)(hln:l≠ .none):Low n (b.filt (gJ F l)) (x.upd l z) (s.upd l z):=by
 have hhas: ∀i,(b.filt (gJ F l)).has i=true→b.has i=true∧gJ F l i=true:=fun i hi=>by rw[fP]at hi; simpa [and_comm]using hi
 have hroot: ∀i,(b.filt (gJ F l)).has i=true→aI (s.sl i)≠l∨Jj (s.sl i)=true:=fun i hi=>by
  obtain⟨h1,h2⟩:=hhas i hi; rw[h.sl i h1]; rcases hA.sl i h1 with e | e
  ·rw[e]; exact .inl (Ne.symm hln)
  ·rw[eP e,Sc e]; simpa [gJ]using h2
 have hfl: ∀i k j,(b.filt (gJ F l)).has i=true→(s.upd l z).fl (.s i k j)=s.fl (.s i k j):=fun i k j hi=>by
  simp only[St.upd]; rw[z14 (fun e=>(hroot i hi).elim (fun h=>h e.2.2.1) (fun h=>by rw[e.2.2.2]at h; cases h))]
 have hkd: ∀i k j,(b.filt (gJ F l)).has i=true→(b.filt (gJ F l)).kd (.s i k j)=b.kd (.s i k j):=fun i k j hi=>gU (hhas i hi).2
 have hsl: ∀i,b.has i=true→lM s.sl l z i=lM x.sl l z i:=fun i hi=>by
  cases l with
  | s i' k j=>simp only[lM,h.sl i hi]
  | _=>exact h.sl i hi
 have hleaf: ∀i k j t',(x.upd l z).at (.s i k j)=some t'→ ∃t'',x.at (.s i k j)=some t'':=fun i k j t' ht=>by
  have ht:(lM x.sl l z i).leaf k j=some t':=ht; cases l with
  | s i' k' j'=>
   simp only[lM]at ht; by_cases e:i=i'
   ·subst e
    rw[z19 rfl,V.setLeaf_leaf (show(x.sl i).leaf k' j'=some t from hat)]at ht; by_cases e2:k=k'∧j=j'
    ·obtain⟨rfl,rfl⟩:=e2; exact⟨t,hat⟩
    ·rw[z14 e2]at ht; exact⟨t',ht⟩
   ·rw[z14 e]at ht; exact⟨t',ht⟩
  | _=>exact⟨t',ht⟩
 refine⟨h.n,fun i hi=>hsl i (hhas i hi).1,fun o ho=> ?_,fun m t' hm ht=> ?_,fun i k xs hi hx=> ?_,fun i hi hr hf=> ?_⟩
 ·show uL s.ob l z o=uL x.ob l z o
  cases l with
  | oc o' j=>simp only[uL,h.ob o ho]
  | _=>exact h.ob o ho
 ·cases m with
  | s i k j=>
   obtain⟨t'',h2⟩:=hleaf i k j t' ht; rw[hfl i k j hm,hkd i k j hm]; exact h.fl (.s i k j) t'' (hhas i hm).1 h2
  | oc o j=>
   have: ∃t'',x.at (.oc o j)=some t'':=by
    have ht:(uL x.ob l z o).bind (·[j]?)=some t':=ht
    cases l with
    | oc o' j'=>
     simp only[uL]at ht; by_cases e:o=o'
     ·subst e
      rw[z19 rfl]at ht; simp only[z22,z26]at ht; obtain⟨_,⟨cs,h1,rfl⟩,h2⟩:=ht; have hlt:=cR h2; rw[z71]at hlt; exact⟨cs[j],by simp only[D.at,atL,h1,z8]; exact z12 hlt⟩
     ·rw[z14 e]at ht; exact⟨t',ht⟩
    | _=>exact⟨t',ht⟩
   obtain⟨t'',h2⟩:=this; exact h.fl (.oc o j) t'' hm h2
  | _=>cases hm
 ·rw[hfl i k 0 hi,hkd i k 0 hi]
  refine h.cp i k xs (hhas i hi).1 ?_
  have hx:(lM x.sl l z i).comp k=some (.cp xs):=hx; cases l with
  | s i' k' j'=>
   simp only[lM]at hx; by_cases e:i=i'
   ·subst e
    rw[z19 rfl]at hx; have hl:(x.sl i).leaf k' j'=some t:=hat; cases hv:x.sl i with
    | one w=>
     rw[hv]at hx hl; cases k' with
     | succ k'=>simp [V.leaf]at hl
     | zero=>
      cases k with
      | succ k=>simp [V.setLeaf,V.comp]at hx
      | zero=>
       cases w with
       | c y=>cases j'<;>simp [V.setLeaf,W.setLeaf,V.comp]at hx
       | ag ys=>simp [V.setLeaf,W.setLeaf,V.comp]at hx
       | _=>simp [V.leaf,W.leaf]at hl
    | tup ws=>
     rw[hv]at hx hl; simp only[V.leaf,z22]at hl; obtain⟨w,hw,hl⟩:=hl; simp only[V.setLeaf,hw,V.comp]at hx ⊢; rw[lU k (cR hw)]at hx; by_cases e:k=k'
     ·rw[z19 e]at hx
      cases w with
      | c y=>cases j'<;>simp [W.setLeaf]at hx
      | ag ys=>simp [W.setLeaf]at hx
      | _=>simp [W.leaf]at hl
     ·rw[z14 e]at hx; exact hx
   ·rw[z14 e]at hx; exact hx
  | _=>exact hx
 ·rw[hfl i 0 0 hi]
  rw[hkd i 0 0 hi]at hf; refine h.al i (hhas i hi).1 ?_ hf
  have hr:aI (lM x.sl l z i)≠ .none:=hr; cases l with
  | s i' k' j'=>
   simp only[lM]at hr; by_cases e:i=i'
   ·subst e
    rw[z19 rfl,(V.setLeaf_root (show(x.sl i).leaf k' j'=some t from hat)).1]at hr; exact absurd rfl hr
   ·rw[z14 e]at hr; exact hr
  | _=>exact hr

def nE(F:FA)(x:D)(i:TI)(l:Loc)(p:List (Nat×Nat))(n j:Nat)(xs:List T):Option D:=match x.at l with
 | some x0=>(match nav x0 p with
  | some (.sl es)=>(match es[n]? with
   | some row=>bif Nat.beq xs.length i.size&&Nat.ble (j+xs.length) row.length then some (x.upd l (cL x0 p (.sl (es.set n (row.take j++xs++row.drop (j+xs.length))))))else none
   | none=>none)
  | _=>none)
 | none=>none
def isU:K→Bool
 | .U _=>true
 | _=>false
def Av(F:FA)(b:B)(i:TI)(l:Loc)(p:List (Nat×Nat))(tx:Nat)(y:Operand):Option B:=
 bif b.has tx&&dO b y&&Cg F b F.n (.tmp tx)&& !(decide (b.kd (.s tx 0 0)= .V))&&(b.kd l).turn (isU (b.kd l)) p&&(range' 0 i.size).all (fun c=>(Ky b y c).part (isU (b.kd l)))&& !(dY [y] l)&&Lw F b tx then
  some ((((b.killV F).lowT F [y]).filt (gJ F l)).nrm F)else none

theorem Rg{κ:K}{f:Bool}{p p':List (Nat×Nat)}(h:κ.turn f p'=true)(hl:p.length=p'.length):κ.turn f p=true:=by
 cases κ with
 | A s=>
  simp only[K.turn,z7]at h ⊢; refine⟨h.1, ?_⟩
  cases p with
  | nil=>rfl
  | cons a p=>cases p' with
   | nil=>simp at hl
   | cons a' p'=>simp at h
 | _=>exact h

theorem Rk(hT:bE P τ)(hA:Ag F b x){t:TypeId}{tx:Nat}{y:Operand}{i:TI}{l:Loc}{p p':List (Nat×Nat)}{n n' j:Nat}{xs:List T}(hd:o.dst=none)(ho:o.op= .store t (.tmp tx) y)(hi:τ t=some i)(hv:x.sl tx= .one (.pp l p n j))(hs:F.shOf tx= .one (.pp l p' n' j))(hpl:p.length=p'.length)
  (hy:aV (ev x.sl y)=some xs)(h1:nE F x i l p n j xs=some x')(h2:Av F b i l p' tx y=some b'):OpS P F F.n o b x b' x':=by
 unfold Av at h2; obtain⟨hc,h2⟩:=aK h2; simp only[z7]at hc; obtain⟨⟨⟨⟨⟨⟨⟨c1,c2⟩,c3⟩,c4⟩,c5⟩,c6⟩,c7⟩,c8⟩:=hc; cases h2; unfold nE at h1; split at h1<;>try cases h1
 rename_i x0 hat; split at h1<;>try cases h1
 rename_i es hnav; split at h1<;>try cases h1
 rename_i row hrow; obtain⟨hq,h1⟩:=aK h1; simp only[z7]at hq; cases h1; obtain⟨a1,a2,a3,a4⟩:=tG (d:=F.n) hA c1 c3 (.inr ⟨p,n,j,hv⟩); have c4':b.kd (.s tx 0 0)≠ .V:=by simpa using c4
 have hsz:=z16 hq.1; have hA1:Ag F (b.killV F) x:=hA.setf _ _; have hA2:Ag F ((b.killV F).lowT F [y]) x:=hA1.setf _ _; have hL:((b.killV F).lowT F [y]).hasL l=true:=by
  have hr: ∀i k j,l= .s i k j→aI (F.shOf i)= .none:=fun i k j e=>by
   subst e; exact hA.leaf_root a4 hat
  cases l with
  | s i k j=>
   show((b.killV F).lowT F [y]).has i=true; have hi:b.has i=true:=a4; unfold B.lowT B.killV; rw[sA,sA,hr i k j rfl,hi]; rfl
  | oc o j=>
   show((b.killV F).lowT F [y]).hasO o=true; unfold B.lowT B.killV; rw[gV,gV]; exact a4
  | _=>cases a4
 have hlow:Low F.n ((b.killV F).lowT F [y]) x ((b.S F.n x).killV.lowT [y]):=by
  have h0:=EJ (n:=F.n) hA; have hkd: ∀m,(b.killV F).hasL m=true→(b.killV F).kd m= .D∨(b.killV F).kd m=(b.S F.n x).killV.fl m:=fun m hm=>by
   have e:(b.S F.n x).killV.fl m=if b.kd m= .V then .D else b.kd m:=by
    cases m with
    | s i k j=>simp only[St.killV,St.setf]; rw[z14 (by simp)]; rfl
    | _=>rfl
   rw[e]; have hg:(b.killV F).get m=(b.get m).map fun q=>if q= .V then .D else q:=wB hm
   unfold B.kd; rw[hg]; cases b.get m with
   | none=>exact .inl rfl
   | some q=>exact .inr rfl
  have hm1: ∀i,(b.killV F).has i=true→(b.killV F).hasL (.s i 0 0)=true:=fun i h=>h
  refine kQ hA1 h0 rfl (fun m hm hl=> ?_) (fun i hi hk hf=> ?_)
  ·rcases hkd m hm with e | e
   ·rw[e]; simp only[K.hold,z54,and_false,if_false]; exact Ik _
   ·rw[e]; exact dR _
  ·rcases hkd (.s i 0 0) hi with e | e
   ·rw[e]at hf; simp [K.hold]at hf
   ·rw[e]at hf; exact hf
 refine OpS.fin ((hA2.upd hL hat (Ge hnav)).filt _) (fun g0 w0=> ?_) (Gy hA2 hlow hL hat a1)
 exact NH hT (isU (b.kd l)) hd ho hi (by rw[rG c1]; exact hv) a1 ⟨a3,c4'⟩ (by rw[KW a4]; exact hat) hnav hrow (by rw[pG c2]; exact hy) hsz (z33 hq.2)
  (Rg c5 hpl) (fun c hc=>by
   have h:=z18.1 c6 c (rD.2 ⟨z86 _,by omega⟩)
   have e:FZ (b.S F.n x) y c=Ky b y c:=by cases y<;>rfl
   rw[e]; exact h) (by simpa using c7)
end
end Go.Own

namespace Go.Own
open Go.RowKit

theorem Ow.cut{Z:Nat→Prop}{deep:Bool}{w:World}{t:Option Nat}{F:Nat→Prop}{a:Option Addr}{len cap:Nat}{es:List (List T)}(h:Ow Z deep w t F (.slice a len cap) (.sl es))(hne: ¬ (deep=false∧t=none)){k sz:Nat}(hk:k≤es.length):Ow Z deep w t F (.slice (if cap=0 then a else a.map (·.add (0*sz))) k cap) (.sl (es.take k)):=by
 cases h with
 | nil t F a=>
  obtain rfl:k=0:=by simpa using hk
  exact .nil _ _ _
 | frz F v x hd h=>exact absurd ⟨hd,rfl⟩ hne
 | sl t F b len cap s arr ty es own cs ht hb hh hl hc hcap hs ha hm hr=>
  have e:(if cap=0 then some (⟨b,0,none⟩:Addr)else(some (⟨b,0,none⟩:Addr)).map (·.add (0*sz)))=some ⟨b,0,none⟩:=by
   split
   ·rfl
   ·simp only[z36,Nat.zero_mul,kR,z75]
  rw[e]; have get: ∀ {i:Nat} {e:List T},(es.take k)[i]? =some e→es[i]? =some e:=fun {i e} h=>by
   rw[z79]at h
   split at h
   ·exact h
   ·cases h
  refine .sl t F b k cap s arr ty _ own cs ht hb hh (by rw[z64]; omega) (by omega) hcap (fun i e h=>hs i e (get h)) ha (fun i e j x h1 h2=>hm i e j x (get h1) h2) (fun i e j x h1 h2=>hr i e j x (get h1) h2)

section
variable {P:Program} {τ:TypeId→Option TI} {g0:G} {w0:World} {o:Oper} {st:St} {d:Nat}
theorem Ym(hT:bE P τ){ty:TypeId}{t:Nat}{hi:Option Operand}{r:T}(hd:o.dst=some d)(hn:d<st.n)(ho:o.op= .slice ty (.tmp t) none hi none)(hne:t≠d)(hρ: ∀x∈o.op.operands,Rdy st false x){es:List (List T)}(hsl:st.sl t= .one (.c (.sl es)))(hk:(st.fl (.s t 0 0)).hold=true)
  (h:iF τ (evR st) o.op=some r):pW P g0 w0 o st ((st.put d (.one (.c r)) (fun _ _=> .V)).mvs [(.s t 0 0, .s d 0 0)]):=by
 intro a w ⟨g,hs⟩; have hd':d<a.tmps.size:=by rw[hs.size]; exact hn
 have hev:evR st (.tmp t)= .one (.c (.sl es)):=by
  show wF st.sl st.ob (st.sl t)=_; rw[hsl]; rfl
 have hops:o.op.operands= #[.tmp t]++hi.toArray:=by rw[ho]; cases hi<;>rfl
 have hρ1:Rdy st false (.tmp t):=hρ _ (by rw[hops]; simp)
 rw[ho]at h; simp only[iF,hev]at h; split at h
 ·simp_all
 ·rename_i e es' hs1 heq
  cases heq; obtain⟨ei,he,h⟩:=z22.1 h; split at h
  ·rename_i hall
   obtain⟨⟨l,u⟩,hb,rfl⟩:=z26.1 h; obtain⟨td,htd,rfl⟩:=lX hT hs1; obtain⟨info,hinfo,hsz,_⟩:=nC hT he; have hrd:Rd (pm g w false) w (a.eval (.tmp t)) (.sl es):=by
    have:=hs.rp hρ1; rw[hev]at this; exact this
   obtain⟨ad,cap,e1,hcap⟩:=Kx hrd; rw[e1]at hrd; obtain⟨b1,b2,m,b3,b4,b5,hrun⟩:=Bj (P:=P) (isSlice:=true) (w:=w) (Q:=pm g w false) (β:=g.β) (ρ:=a.eval) (fun y hy=>hs.rp (hρ y (by rw[hops]; rcases hy with h | h | h<;>simp_all))) hb hcap
   have hm:m=cap:=b5 rfl; subst hm; have hl0:l=0:=by
    unfold oM at hb; simp only[z22]at hb; obtain⟨_,_,lv,h2,hb⟩:=hb; cases h2; split at hb<;>cases hb
    rfl
   subst hl0; obtain⟨_,_,hr⟩:=MH hrd (l:=0) (k:=u) (m:=m) b1 b2 b3 b4 (size:=ei.size) (fun y hy=>by simpa using z18.1 hall y hy)
   have hv:(execOp a.eval o).run P w= .ok (.value (.slice (if m=0 then ad else ad.map (·.add (0*ei.size))) (u - 0) (m - 0))) w:=by
    obtain⟨dst,op,ty',pos,after,guard⟩:=o; simp only at ho; subst ho; simp only[execOp,Instr.sliceAt,Instr.slice,e1,Sem.run_bind,Sem.run_pure,Result.andThen_ok,run_underlying htd,hrun,sizeOf,typeInfo,run_program,hinfo,hsz]
   have hr':Rd (all g w) w (.slice (if m=0 then ad else ad.map (·.add (0*ei.size))) (u - 0) (m - 0)) (.sl ((es.drop 0).take (u - 0))):=hr
   have h1:=hs.set (d:=d) (r:= .one (.c (.sl ((es.drop 0).take (u - 0))))) (κ:=fun _ _=> .V) hn ⟨hr'.not_agg,hr'⟩ (fun h=>absurd rfl h)
   have hat:(st.put d (.one (.c (.sl ((es.drop 0).take (u - 0))))) (fun _ _=> .V)).at (.s t 0 0)=some (.sl es):=by
    rw[at_put (by simp [aX,hne]),St.at_s,hsl]; rfl
   have hfl:(st.put d (.one (.c (.sl ((es.drop 0).take (u - 0))))) (fun _ _=> .V)).fl (.s t 0 0)=st.fl (.s t 0 0):=by
    simp only[St.put]; rw[z14 hne,z14 (fun h=> ?_)]
    rw[hsl]at h; exact absurd h.2.2 (by simp [aI,aX])
   obtain⟨vt,q1,_,q3⟩:=hs.get (l:= .s t 0 0) (x:= .sl es) (by rw[St.at_s,hsl]; rfl)
   have hvt:vt= .slice ad es.length m:=by
    have:sH (a.tmps.getD t undef) 0 0=some vt:=q1; have e2:a.tmps.getD t undef= .slice ad es.length m:=e1; rw[e2]at this; cases this; rfl
   subst hvt; refine⟨_,w,hv, .inl ⟨_,rfl, ?_⟩⟩
   rw[hd]; refine⟨g.mv (.s t 0 0) (.s d 0 0),h1.mvG rfl rfl (by simp [hne]) ⟨_,hat⟩ ⟨.sl ((es.drop 0).take (u - 0)),by rw[oZ]; rfl⟩ (fun x v hx hv'=> ?_)⟩
   rw[oZ]at hx; cases hx; have hv2:vAt (a.put (some d) (.slice (if m=0 then ad else ad.map (·.add (0*ei.size))) (u - 0) (m - 0))).tmps g.β w (.s d 0 0)=some (.slice (if m=0 then ad else ad.map (·.add (0*ei.size))) (u - 0) (m - 0)):=by
    simp only[vAt]; rw[Act.put_getD a d _ _ hd',z19 rfl]; rfl
   rw[hv2]at hv'; cases hv'; rw[hfl]; have hZ: ∀b,frz g w b→frz (g.mv (.s t 0 0) (.s d 0 0)) w b:=fun b hb=>⟨hb.1,by simp only[G.mv]; rw[z14 (by rw[hb.2]; simp)]; exact hb.2⟩
   have hF: ∀b,g.own b= .s t 0 0→(g.mv (.s t 0 0) (.s d 0 0)).own b= .s d 0 0:=fun b hb=>by simp [G.mv,hb]
   have hu:u≤es.length:=b2; simp only[List.drop_zero,z180]; cases hκ:st.fl (.s t 0 0)with
   | A s=>
    rw[hκ]at q3; have q3:Ow (frz g w) false w (some s) (fun b=>g.own b= .s t 0 0) (.slice ad es.length m) (.sl es):=q3
    exact(q3.cut (by simp) (sz:=ei.size) hu).mono (fun e=>e) (fun _ b hb=>⟨hZ b hb,rfl⟩) (fun b hb=>⟨hF b hb,rfl⟩)
   | U s=>
    rw[hκ]at q3; have q3:Ow (frz g w) true w (iT s) (fun b=>g.own b= .s t 0 0) (.slice ad es.length m) (.sl es):=q3
    exact(q3.cut (by simp) (sz:=ei.size) hu).mono (fun e=>e) (fun _ b hb=>⟨hZ b hb,rfl⟩) (fun b hb=>⟨hF b hb,rfl⟩)
   | _=>rw[hκ]at hk; cases hk
  ·cases h
 ·cases h
end

def cCut(F:FA)(b:B)(d:Nat)(v:Operand)(lo mx:Option Operand)(op:Op):Option B:=match v,lo,mx with
 | .tmp t,none,none=>bif Nat.blt d F.n&&op.operands.toList.all (kn b F)&&op.operands.toList.all (KQ F b false)&& !(Nat.beq t d)&&(b.kd (.s t 0 0)).hold&&(match F.shOf t with | .one (.c (.sl _))=>true | _=>false)then
   some (((b.put F d (fun _ _=> .V)).mvs F [(.s t 0 0, .s d 0 0)]).nrm F)else none
 | _,_,_=>none

section
variable {P:Program} {τ:TypeId→Option TI} {F:FA} {o:Oper} {b b':B} {x x':D} {d:Nat}
theorem cut_S(hT:bE P τ)(hA:Ag F b x){ty:TypeId}{v:Operand}{lo hi mx:Option Operand}(hd:o.dst=some d)(ho:o.op= .slice ty v lo hi mx)(h1:pE τ F x d o.op=some x')(h2:cCut F b d v lo mx o.op=some b'):OpS P F F.n o b x b' x':=by
 unfold cCut at h2; split at h2<;>try cases h2
 rename_i t; obtain⟨c,h2⟩:=aK h2; simp only[z7]at c; obtain⟨⟨⟨⟨⟨c1,c2⟩,c3⟩,c4⟩,c5⟩,c6⟩:=c; cases h2; unfold pE at h1; split at h1<;>try cases h1
 rename_i r hr; obtain⟨e1,rfl⟩:=cM h1; have hkn: ∀y∈o.op.operands,kn b F y=true:=fun y hy=>z18.1 c2 y (by simpa using hy)
 have hrd: ∀y∈o.op.operands,KQ F b false y=true:=fun y hy=>z18.1 c3 y (by simpa using hy)
 have hkt:kn b F (.tmp t)=true:=hkn _ (by rw[ho]; cases hi<;>simp [Op.operands])
 have hbt:b.has t=true:=AJ hkt; have hne:t≠d:=AU c4; have hsh: ∃es,x.sl t= .one (.c (.sl es)):=by
  rcases hA.sl t hbt with e | e
  ·exfalso
   rw[ho]at hr; simp only[iF]at hr; have:evD x (.tmp t)= .tup []:=by
    show wF x.sl x.ob (x.sl t)=_; rw[e]; rfl
   rw[this]at hr; split at hr<;>simp_all
  ·split at c6<;>try cases c6
   rename_i es0 hsh; rw[hsh]at e; cases hv:x.sl t with
   | tup ws=>rw[hv]at e; simp [Own.fits]at e
   | one w=>
    rw[hv]at e; cases w<;>simp [Own.fits,bX]at e
    rename_i z; cases z with
    | sl es=>exact⟨_,rfl⟩
    | hole=>
     exfalso
     rw[ho]at hr; simp only[iF]at hr; have:evD x (.tmp t)= .one (.c .hole):=by
      show wF x.sl x.ob (x.sl t)=_; rw[hv]; rfl
     rw[this]at hr; split at hr<;>simp_all
    | _=>simp [tY]at e
 obtain⟨es,hsl⟩:=hsh; refine OpS.put hA e1 (fun g0 w0=> ?_) (fun m hm=> ?_)
 ·have hev:iF τ (evR (b.S F.n x)) o.op=some r:=by
   rw[←hr]; exact zE o.op (fun y hy=>Nr hA (hkn y hy))
  exact Ym hT hd (cZ c1) ho hne (fun y hy=>Kd hA (AJ (hkn y hy)) (hrd y hy)) (by rw[rG hbt]; exact hsl) c5 hev
 ·simp only[z67]at hm
  subst hm; have hrs: ∃es',r= .sl es':=by
   rw[ho]at hr; simp only[iF]at hr; have:evD x (.tmp t)= .one (.c (.sl es)):=by
    show wF x.sl x.ob (x.sl t)=_; rw[hsl]; rfl
   rw[this]at hr; split at hr
   ·simp_all
   ·obtain⟨ei,_,hr⟩:=z22.1 hr
    split at hr
    ·obtain⟨q,_,rfl⟩:=z26.1 hr
     exact⟨_,rfl⟩
    ·cases hr
   ·cases hr
  obtain⟨es',rfl⟩:=hrs; exact⟨⟨hbt,by simp [aX,hne], .sl es,by rw[D.at,atL,hsl]; rfl⟩,0,0,rfl,_,rfl⟩
end
end Go.Own

namespace Go.Own
open Go.RowKit

theorem LM{x:T}{q:List (Nat×Nat)}(hq:q≠[])(y:T):Rows x (cL x q y):=by
 intro es h0; subst h0; cases q with
 | nil=>exact absurd rfl hq
 | cons ij p=>
  obtain⟨i,k⟩:=ij; refine⟨_,rfl,fun i' e he=> ?_⟩
  have hi:=cR he; by_cases h:i'=i
  ·subst h
   exact⟨_,z65 hi,by rw[z71,yA he]⟩
  ·exact⟨e,by rw[z94 (fun e=>h e.symm)]; exact he,rfl⟩
theorem LN{x:T}{q:List (Nat×Nat)}(hq:q≠[])(y u:T):tY x u=tY (cL x q y) u:=by
 cases q with
 | nil=>exact absurd rfl hq
 | cons ij p=>
  obtain⟨i,k⟩:=ij; cases x<;>first | rfl | (cases u<;>rfl)
theorem Pl.beside{w:World}{i j c:Nat}(hne:c≠j)(z:T): ∀ {p:List (Nat×Nat)} {v0:Value} {x0:T} {u:Value} {y:T},Pl w v0 x0 (p++[(i,j)]) u y→Pl w v0 (cL x0 (p++[(i,c)]) z) (p++[(i,j)]) u y
 | [],v0,x0,u,y,h=>by
  cases h with
  | cons b off len cap es e c0 y0 i j p v' x' he hy hc h=>
   have hi:=cR he; refine .cons b off len cap _ ((es.getD i []).set c (cL ((es.getD i []).getD c (.sl [])) [] z)) c0 y0 i j [] _ _ (z65 hi) ?_ ?_ h
   ·rw[yA he,z94 hne]; exact hy
   ·rw[yA he,z71]; exact hc
 | (a,b')::p,v0,x0,u,y,h=>by
  cases h with
  | cons b off len cap es e c0 y0 i' j' p v' x' he hy hc h=>
   have hi:=cR he; have hj:=cR hy; have e1:cL (.sl es) (((a,b')::p)++[(i,c)]) z= .sl (es.set a (e.set b' (cL y0 (p++[(i,c)]) z))):=wZ he hy; rw[e1]; exact .cons b off len cap _ (e.set b' (cL y0 (p++[(i,c)]) z)) c0 _ a b' (p++[(i,j)]) _ _ (z65 hi) (z65 hj) (by rw[z71]; exact hc) (Pl.beside hne z h)

theorem cC.take1{g0:G}{w0:World}{st:St}{a:Act}{g:G}{w:World}(h:cC g0 w0 st a g w){l l':Loc}{x0 y:T}{q:List (Nat×Nat)}{v0 u:Value}{s:Nat}(hfl:st.fl l= .U s)(hat:st.at l=some x0)(hv:vAt a.tmps g.β w l=some v0)(hpl:Pl w v0 x0 q u y)(hq:q≠[])(hp':l'.place=true)(hne:l'≠l)(hat':st.at l'=some y)(hv':vAt a.tmps g.β w l'=some u)(hk':(st.fl l').hold=false):
  ∃g',g'.β=g.β∧cC g0 w0 ((st.upd l (cL x0 q .hole)).setf (fun m=>decide (m=l')) (fun m=>if m=l' then .U 0 else(st.upd l (cL x0 q .hole)).fl m)) a g' w:=by
 classical
 have hlp:=at_isPlace hat; obtain⟨hl1,hl2,hl3⟩:=Loc.place_ne hlp; obtain⟨hm1,hm2,hm3⟩:=Loc.place_ne hp'; obtain⟨v0',e1,hvn,hlf⟩:=h.get hat; rw[hv]at e1; cases e1; rw[hfl]at hlf; have hOw:Ow (frz g w) true w (iT s) (fun b=>g.own b=l) v0 x0:=hlf
 have hun:oQ u:=((hOw.rd (P:=fun _=>True) (fun _ _=>trivial) (fun _ _=>trivial)).plRd hpl).not_agg
 obtain⟨Fp,q1,q2,q3⟩:=Ow.part hOw hpl; rw[z14 hq]at q2; obtain⟨g',hg'⟩: ∃g':G,g'= { β:=g.β,own:=fun b=>if Fp b then l' else g.own b }:=⟨_,rfl⟩
 have hβ:g'.β=g.β:=by rw[hg']
 have hF: ∀b,Fp b→g'.own b=l':=fun b hb=>by rw[hg']; exact z19 hb
 have hnF: ∀b, ¬ Fp b→g'.own b=g.own b:=fun b hb=>by rw[hg']; exact z14 hb
 have hown: ∀b,g.own b≠l→g'.own b=g.own b:=fun b hb=>hnF b (fun hp=>hb (q1 b hp))
 have hAll: ∀b,all g w b→all g' w b:=fun b hb=>⟨hb.1,fun o=>by
  by_cases e:Fp b
  ·rw[hF b e]; exact hm3 o
  ·rw[hnF b e]; exact hb.2 o⟩
 have hok:GOk g' w:=⟨fun b hb=>by
  by_cases e:Fp b
  ·exact h.ok.own b (by rw[q1 b e]; exact hl1)
  ·rw[hnF b e]at hb; exact h.ok.own b hb⟩
 have hC:AM g w g' w (fun m=>m=l) st:=⟨⟨z39 _,fun b _ hX=>⟨hown b hX,rfl⟩⟩,fun m e=>by subst e; exact⟨fun h=>h.elim hl1 hl2,hl3⟩, .inl (fun b hb=>⟨hAll b hb,rfl⟩),rfl,rfl,rfl,hok⟩
 have h1:=h.upd hC (fun o=>by rw[hβ]) (z:=cL x0 q .hole) hat hv (fun m x _ _ hm=>hm) (.inr (LM hq _)) (by
  rw[hfl]; refine q3 (frz g' w) w (fun _=>False) (fun b=>g'.own b=l) .hole (fun b hb hn=>⟨by rw[hnF b hn]; exact hb,rfl⟩) (fun b hb=>hb.elim) (fun b hb=>hb.elim) ?_
  exact .hole _ _ u hun.1 hun.2)
 refine⟨g',hβ, ?_⟩
 have hat1:(st.upd l (cL x0 q .hole)).at l'=some y:=by rw[upd_at hat,z14 hne]; exact hat'
 have hpl': ∀i,Loc.s i 0 0=l'→aI ((st.upd l (cL x0 q .hole)).sl i)= .none:=fun i e=>by
  rw[←e]at hat1; exact vN hat1
 refine h1.setf (by simp [Ne.symm hm1]) (fun _=>rfl) hok (fun _ _=>rfl) (fun _ _ h=>h) (fun _ h=>h) (fun m x v hx hv2 hf=> ?_) (fun i k xs b off hcx hc=> ?_) (fun i hi hR hf=> ?_)
 ·by_cases e:m=l'
  ·subst e
   rw[z19 rfl]; rw[hat1]at hx; cases hx; rw[hβ,hv']at hv2; cases hv2; exact q2.mono (fun e=>e) (fun e=>by cases e) (fun b hb=>⟨hF b hb,rfl⟩)
  ·rw[z14 e]; exact hf
 ·by_cases e:Loc.s i k 0=l'
  ·exfalso
   rw[←e,St.at_s]at hat1; cases hsl:(st.upd l (cL x0 q .hole)).sl i with
   | one z=>
    rw[hsl]at hcx hat1; cases k with
    | zero=>simp only[V.comp,z10]at hcx; rw[hcx]at hat1; simp [V.leaf,W.leaf]at hat1
    | succ k=>simp [V.comp]at hcx
   | tup ws=>rw[hsl]at hcx hat1; simp only[V.comp]at hcx; simp [V.leaf,hcx,W.leaf]at hat1
  ·rw[z14 e]; exact hc
 ·have hne2:aI ((st.upd l (cL x0 q .hole)).sl i)≠l':=by simpa using hR
  have e0: ¬ Loc.s i 0 0=l':=fun e=>hi (hpl' i e)
  rw[z14 e0]at hf; exact⟨hf,fun h=>by rw[z14 hne2]; exact h⟩

theorem D.at_isPlace{x:D}{l:Loc}{t:T}(h:x.at l=some t):l.place=true:=Own.at_isPlace (st:=⟨0,x.sl,x.ob,fun _=> .D⟩) h
theorem D.upd_at{x:D}{l m:Loc}{z t:T}(h:x.at l=some t):(x.upd l z).at m=if m=l then some z else x.at m:=Own.upd_at (st:=⟨0,x.sl,x.ob,fun _=> .D⟩) h
def D.takes(l:Loc)(p:List (Nat×Nat))(n j:Nat):List Nat→D→D
 | [],x=>x
 | c::r,x=>D.takes l p n j r (x.upd l (cL ((x.at l).getD .hole) (p++[(n,j+c)]) .hole))
def B.take1(F:FA)(l:Loc)(d c:Nat)(b:B):B:=((b.filt (gJ F l)).setf F (fun m=>decide (m= .s d 0 c)) (fun m q=>if m= .s d 0 c then .U 0 else q)).nrm F
def B.takes(F:FA)(l:Loc)(d:Nat):List Nat→B→B
 | [],b=>b
 | c::r,b=>B.takes F l d r (b.take1 F l d c)

section
variable {F:FA} {b:B} {x:D}
theorem Pm{n:Nat}(hA:Ag F b x){l:Loc}{d c s:Nat}{x0 y:T}{q:List (Nat×Nat)}(hq:q≠[])(hL:b.hasL l=true)(hU:b.kd l= .U s)(hat:x.at l=some x0)(hd:b.has d=true)(hne:aX d l=false)(hy:x.at (.s d 0 c)=some y)(hk:(b.kd (.s d 0 c)).hold=false):
  Ag F (b.take1 F l d c) (x.upd l (cL x0 q .hole))∧(b.take1 F l d c).hasL l=true∧(b.take1 F l d c).kd l= .U s∧(b.take1 F l d c).has d=true∧(∀c',c'≠c→(b.take1 F l d c).kd (.s d 0 c')=b.kd (.s d 0 c'))∧
  ∀ {g0:G} {w0:World} {a:Act} {w:World} {g:G},cC g0 w0 (b.S n x) a g w→ ∀v0 u,vAt a.tmps g.β w l=some v0→Pl w v0 x0 q u y→vAt a.tmps g.β w (.s d 0 c)=some u→ ∃g',g'.β=g.β∧cC g0 w0 ((b.take1 F l d c).S n (x.upd l (cL x0 q .hole))) a g' w:=by
 have hlp:=D.at_isPlace hat; have hln:=(Loc.place_ne hlp).1; have hA1:Ag F b (x.upd l (cL x0 q .hole)):=hA.upd hL hat (LN hq .hole); have hA2:=hA1.filt (gJ F l); have hrd:aI (F.shOf d)= .none:=hA.leaf_root hd hy; have hrl: ∀i k j,l= .s i k j→aI (F.shOf i)= .none:=fun i k j e=>by subst e; exact hA.leaf_root hL hat
 have hl':Loc.s d 0 c≠l:=fun e=>by subst e; simp [aX]at hne
 have nr: ∀i,aI (F.shOf i)= .none→gJ F l i=true:=fun i e=>by
  unfold gJ; rw[e,z9 (Ne.symm hln)]; rfl
 have hs0: ∀i,aI (F.shOf i)= .none→(decide (aI (F.shOf i)= .s d 0 c))=false:=fun i e=>by rw[e]; rfl
 have has1: ∀i,aI (F.shOf i)= .none→b.has i=true→(b.take1 F l d c).has i=true:=fun i e hi=>by
  unfold B.take1; rw[yU,fP,EE e,sA,hs0 i e,fP,nr i e,hi]; rfl
 have hasd:=has1 d hrd hd; have hasL:(b.take1 F l d c).hasL l=true:=by
  cases l with
  | s i k j=>exact has1 i (hrl i k j rfl) hL
  | oc o j=>
   show(b.take1 F (.oc o j) d c).hasO o=true; unfold B.take1; rw[yU,Aa,gV]; exact hL
  | _=>cases hlp
 have kd1: ∀i k j,aI (F.shOf i)= .none→b.has i=true→(b.take1 F l d c).kd (.s i k j)=(match b.get (.s i k j)with | some q=>if Loc.s i k j= .s d 0 c then .U 0 else q | none=> .D):=fun i k j e hi=>by
  unfold B.take1; rw[yU,gU (EE e)]; have h1:((b.filt (gJ F l)).setf F (fun m=>decide (m= .s d 0 c)) (fun m q=>if m= .s d 0 c then .U 0 else q)).hasL (.s i k j)=true:=by
   show((b.filt (gJ F l)).setf F _ _).has i=true; rw[sA,hs0 i e,fP,nr i e,hi]; rfl
  have h2:(b.filt (gJ F l)).get (.s i k j)=b.get (.s i k j):=by simp only[AL,z19 (nr i e)]
  simp only[B.kd,wB h1,h2]; cases b.get (.s i k j)<;>rfl
 have kdl:(b.take1 F l d c).kd l= .U s:=by
  cases l with
  | s i k j=>
   rw[kd1 i k j (hrl i k j rfl) hL]; have:b.kd (.s i k j)= .U s:=hU; unfold B.kd at this; cases hg:b.get (.s i k j)with
   | none=>rw[hg]at this; cases this
   | some q=>
    rw[hg]at this; simp only at this ⊢; rw[z14 (Ne.symm hl'),this]
  | oc o j=>
   unfold B.take1; rw[yU,Gr]; have h1:((b.filt (gJ F (.oc o j))).setf F (fun m=>decide (m= .s d 0 c)) (fun m q=>if m= .s d 0 c then .U 0 else q)).hasL (.oc o j)=true:=by
    show((b.filt _).setf F _ _).hasO o=true; rw[gV]; exact hL
   have h2:(b.filt (gJ F (.oc o j))).get (.oc o j)=b.get (.oc o j):=by simp only[AL]
   have:b.kd (.oc o j)= .U s:=hU; unfold B.kd at this ⊢; rw[wB h1,h2]; cases hg:b.get (.oc o j)with
   | none=>rw[hg]at this; cases this
   | some q=>
    rw[hg]at this; simp only at this; subst this; simp
  | _=>cases hlp
 refine⟨(hA2.setf _ _).nrm,hasL,kdl,hasd,fun c' hc=> ?_,fun {g0 w0 a w g} hs v0 u hv hpl hv'=> ?_⟩
 ·rw[kd1 d 0 c' hrd hd]
  unfold B.kd; cases b.get (.s d 0 c')with
  | none=>rfl
  | some q=>simp only; rw[z14 (by simp [hc])]
 ·have hst:(b.S n x).at l=some x0:=by rw[KW hL]; exact hat
  have hst':(b.S n x).at (.s d 0 c)=some y:=by rw[KW (show b.hasL (.s d 0 c)=true from hd)]; exact hy
  obtain⟨g',hβ,h1⟩:=hs.take1 (l:=l) (l':= .s d 0 c) (s:=s) hU hst hv hpl hq rfl hl' hst' hv' hk; refine⟨g',hβ,h1.relax ?_⟩
  have hlow:=Gy (z:=cL x0 q .hole) hA (Low.self n b x) hL hat hln; refine(kQ hA2 hlow (by simp) (fun m hm hlo=> ?_) (fun i hi hk2 hf=> ?_)).le (hA2.setf _ _)
  ·by_cases e:m= .s d 0 c
   ·subst e; rw[z19 rfl,z19 rfl]; exact dR _
   ·rw[z14 e,z14 e]; exact hlo
  ·by_cases e:Loc.s i 0 0= .s d 0 c
   ·rw[z19 e]; simp
   ·rw[z14 e]at hf ⊢; exact hk2 hf
theorem Oe{n:Nat}{l:Loc}{d s:Nat}{p:List (Nat×Nat)}{n' j:Nat}: ∀(M:List Nat) {b:B} {x:D} {x0:T},Ag F b x→M.Nodup→b.hasL l=true→b.kd l= .U s→x.at l=some x0→b.has d=true→aX d l=false→(∀c∈M,(b.kd (.s d 0 c)).hold=false∧ ∃y,x.at (.s d 0 c)=some y)→
  Ag F (b.takes F l d M) (x.takes l p n' j M)∧ ∀ {g0:G} {w0:World} {a:Act} {w:World} {g:G},cC g0 w0 (b.S n x) a g w→ ∀v0,vAt a.tmps g.β w l=some v0→(∀c∈M, ∃u y,Pl w v0 x0 (p++[(n',j+c)]) u y∧vAt a.tmps g.β w (.s d 0 c)=some u∧x.at (.s d 0 c)=some y)→Sim g0 w0 ((b.takes F l d M).S n (x.takes l p n' j M)) a w
 | [],b,x,x0,hA,_,_,_,_,_,_,_=>⟨hA,fun hs _ _ _=>⟨_,hs⟩⟩
 | c::M,b,x,x0,hA,hnd,hL,hU,hat,hd,hne,hM=>by
  obtain⟨hc,hnd⟩:=List.nodup_cons.1 hnd; obtain⟨hk,y,hy⟩:=hM c z34; have hq:p++[(n',j+c)]≠[]:=by simp
  obtain⟨k1,k2,k3,k4,k5,k6⟩:=Pm (n:=n) hA hq hL hU hat hd hne hy hk; have hl': ∀c,Loc.s d 0 c≠l:=fun c e=>by subst e; simp [aX]at hne
  have hat1:(x.upd l (cL x0 (p++[(n',j+c)]) .hole)).at l=some (cL x0 (p++[(n',j+c)]) .hole):=by rw[D.upd_at hat,z19 rfl]
  have hatd: ∀c',(x.upd l (cL x0 (p++[(n',j+c)]) .hole)).at (.s d 0 c')=x.at (.s d 0 c'):=fun c'=>by rw[D.upd_at hat,z14 (hl' c')]
  have hcc: ∀c'∈M,c'≠c:=fun c' h e=>hc (e ▸ h)
  have ih:=Oe (n:=n) (p:=p) (n':=n') (j:=j) M k1 hnd k2 k3 hat1 k4 hne (fun c' h=>by
   rw[k5 c' (hcc c' h),hatd]; exact hM c' (z29 _ h))
  have e:x.takes l p n' j (c::M)=(x.upd l (cL x0 (p++[(n',j+c)]) .hole)).takes l p n' j M:=by
   simp only[D.takes,hat]; rfl
  rw[e]; refine⟨ih.1,fun {g0 w0 a w g} hs v0 hv hpl=> ?_⟩
  obtain⟨u,y',p1,p2,p3⟩:=hpl c z34; rw[hy]at p3; cases p3; obtain⟨g',hβ,h1⟩:=k6 hs v0 u hv p1 p2; refine ih.2 h1 v0 (by rw[hβ]; exact hv) (fun c' h=> ?_)
  obtain⟨u',y',p4,p5,p6⟩:=hpl c' (z29 _ h); exact⟨u',y',p4.beside (by have:=hcc c' h; omega) .hole,by rw[hβ]; exact p5,by rw[hatd]; exact p6⟩
end
end Go.Own

namespace Go.Own
open Go.RowKit

def tkM(F:FA)(d:Nat):List Nat:=((nI (F.shOf d)).map (·.2)).filter fun j=>match(F.shOf d).leaf 0 j with | some z=> !(scal z) | none=>false
def KT(F:FA)(v:Operand):Bool:=match oP F v with
 | .one (.pp _ _ _ _)=>true
 | _=>false
def fH:V→Bool
 | .one (.pp _ _ _ _)=>true
 | _=>false
def wM(τ:TypeId→Option TI)(F:FA)(x:D)(d:Nat)(t:TypeId)(v:Operand):Option D:=
 match τ t,ev x.sl v with
 | some i, .one (.pp l p n j)=>(match(x.at l).bind (nav · p)with
  | some (.sl es)=>(match es[n]? with
   | some row=>(match pD i (row.drop j)with
    | some r=>bif Own.fits r (F.shOf d)then some ((x.put d r).takes l p n j (tkM F d))else none
    | none=>none)
   | none=>none)
  | _=>none)
 | _,_=>none
def LH(τ:TypeId→Option TI)(F:FA)(b:B)(d:Nat)(t:TypeId)(v:Operand):Option B:=
 match τ t,oP F v with
 | some i, .one (.pp l _ _ _)=>bif Nat.blt d F.n&&dO b v&&Cg F b d v then
   (bif ((b.put F d (fun _ j=>if kM i.zero j then .S else .V)).nrm F).hasL l&&isU (((b.put F d (fun _ j=>if kM i.zero j then .S else .V)).nrm F).kd l)&&((b.put F d (fun _ j=>if kM i.zero j then .S else .V)).nrm F).has d&&decide ((tkM F d).Nodup)&&(tkM F d).all (fun c=> !(((b.put F d (fun _ j=>if kM i.zero j then .S else .V)).nrm F).kd (.s d 0 c)).hold)then
    some (((b.put F d (fun _ j=>if kM i.zero j then .S else .V)).nrm F).takes F l d (tkM F d))else none)
  else none
 | _,_=>none
theorem Yg{κ:K}(h:isU κ=true): ∃s,κ= .U s:=by cases κ<;>first | exact⟨_,rfl⟩ | cases h
theorem D.at_put{x:D}{d:Nat}{r:V}{l:Loc}(h:aX d l=false):(x.put d r).at l=x.at l:=by
 cases l with
 | s i k j=>
  have:i≠d:=fun e=>by subst e; simp [aX]at h
  simp only[D.at,atL,D.put,z14 this]
 | _=>rfl

theorem Hc{v:V}(h:fH v=true): ∃l p n j,v= .one (.pp l p n j):=by
 unfold fH at h; split at h
 ·exact⟨_,_,_,_,rfl⟩
 ·cases h
section
variable {P:Program} {τ:TypeId→Option TI} {F:FA} {o:Oper} {b b':B} {x x':D} {d:Nat}
theorem PL{t:TypeId}{al:Bool}(hA:Ag F b x){v:Operand}(hk:dO b v=true)(h:oS τ F x d t v al=some x'∨fH (ev x.sl v)=true):fH (ev x.sl v)=KT F v:=by
 cases hp:fH (ev x.sl v)with
 | true=>
  obtain⟨l,p,n,j,e⟩:=Hc hp; obtain⟨tv,p2,i2,rfl,hs2⟩:=Qq hA hk e; unfold KT; rw[hs2]
 | false=>
  rcases h with h | h
  ·unfold oS at h
   split at h
   ·rename_i hi hv
    unfold KT; rw[Ku hA hk hv]
   ·rename_i hi hv
    obtain⟨ys,hs⟩:=WG hA hk hv; unfold KT; rw[hs]
   ·rename_i hi hv
    rw[hv]at hp; cases hp
   ·cases h
  ·rw[h]at hp; cases hp
theorem Ut(hT:bE P τ)(hA:Ag F b x){t:TypeId}{v:Operand}(hd:o.dst=some d)(ho:o.op= .load t v)(h1:wM τ F x d t v=some x')(h2:LH τ F b d t v=some b'):OpS P F F.n o b x b' x':=by
 unfold wM at h1; split at h1<;>try cases h1
 rename_i i l p n j hi hv; split at h1<;>try cases h1
 rename_i es hnav; split at h1<;>try cases h1
 rename_i row hrow; split at h1<;>try cases h1
 rename_i r hr; obtain⟨e1,h1⟩:=aK h1; cases h1; unfold LH at h2; rw[hi]at h2; split at h2<;>try cases h2
 rename_i i' l' p' n' j' hi' hs; cases hi'; obtain⟨hc,h3⟩:=aK h2; clear h2; simp only[z7]at hc; obtain⟨⟨c1,c2⟩,ha⟩:=hc; obtain⟨tv,p2,i2,rfl,hs2⟩:=Qq hA c2 hv; rw[hs2]at hs; cases hs; obtain⟨a1,a2,a3,a4⟩:=tG hA c2 ha (.inr ⟨p,n,j,hv⟩); simp only[z22]at hnav; obtain⟨x0,hx0,hnav⟩:=hnav; obtain⟨hq,h3⟩:=aK h3; cases h3; simp only[z7]at hq; obtain⟨⟨⟨⟨q1,q2⟩,q3⟩,q4⟩,q5⟩:=hq; have hA1:Ag F (b.put F d (fun _ j=>if kM i.zero j then .S else .V)) (x.put d r):=hA.put (.inr e1)
 have hlow:=HE hA (Low.self F.n b x) (κ:=fun _ j=>if kM i.zero j then K.S else .V) (f:=fun _ j=>if kM i.zero j then K.S else .V) (.inr e1) (fun _ _ _ _=>dR _) (fun _ _ _=>dR _) (fun _ h=>h)
 obtain⟨s,hU⟩:=Yg q2; have hat:(x.put d r).at l=some x0:=by rw[D.at_put a2]; exact hx0
 have hleaf: ∀c∈tkM F d, ∃y,r.leaf 0 c=some y:=fun c hc=>by
  have hc:=(z80.1 hc).1; obtain⟨⟨k,c'⟩,hm,rfl⟩:=z50.1 hc; obtain⟨y,hy⟩:=rP e1 hm; obtain⟨rfl,_⟩:=xB hr hy; exact⟨y,hy⟩
 have hatd: ∀c,(x.put d r).at (.s d 0 c)=r.leaf 0 c:=fun c=>by simp [D.at,atL,D.put]
 obtain⟨k1,k2⟩:=Oe (n:=F.n) (p:=p) (n':=n) (j:=j) (tkM F d) hA1.nrm (of_decide_eq_true q4) q1 hU hat q3 a2 (fun c hc=>by
  have h5:=z18.1 q5 c hc; refine⟨by simpa using h5, ?_⟩
  obtain⟨y,hy⟩:=hleaf c hc; exact⟨y,by rw[hatd]; exact hy⟩)
 refine⟨k1,fun g0 w0=> ?_⟩
 intro a w ⟨g,hs⟩; obtain⟨_,v0,bb,off,len,cap,f1,f2,f3,f4⟩:=hs.ppCell (l:=l) (p:=p) (i:=n) (j:=j) (t:=tv) (by rw[rG c2]; exact hv) a1 a3 (by rw[KW a4]; exact hx0) hnav hrow
 obtain⟨u,hu,hru,hroot,hparts⟩:=vU hT hi (g:=g) (κ:=fun _=> .V) (l:=fun _=> .none) (l':=fun k j=> .s d k j) (b:=bb) (p:=off+n*row.length+j) (xs:=row.drop j) (fun q y hy=>by
  obtain⟨c,c1,c2,_⟩:=f4 q y hy; exact⟨c,c1,c2.not_agg,c2⟩) hr (fun _ _ _ hf=>hf)
 refine⟨_,w,uF ho f3 hu, .inl ⟨_,rfl, ?_⟩⟩
 rw[hd]; have hset:=hs.set (cZ c1) hru (fun h=>absurd hroot h)
 have hrel:=hset.relax (hlow.le hA1); have hdlt:d<a.tmps.size:=by rw[hs.size]; exact cZ c1
 refine k2 hrel v0 ?_ (fun c hc=> ?_)
 ·have:vAt (a.put (some d) u).tmps g.β w l=vAt a.tmps g.β w l:=by
   cases l with
   | s i k j=>exact Ar (l:= .s i k j) hdlt a2
   | oc o j=>rfl
   | _=>rfl
  rw[this]; exact f1
 ·obtain⟨y,hy⟩:=hleaf c hc
  obtain⟨y1,y2⟩:=hparts c y hy; obtain⟨cv,z1,z2,z3⟩:=f4 c y y1; refine⟨cv,y,z3, ?_,by rw[hatd]; exact hy⟩
  simp only[vAt]; rw[Act.put_getD a d _ _ hdlt,z19 rfl,y2]; exact z1
end
end Go.Own

namespace Go.Own
open Go.RowKit

def oR:V→Bool
 | .one (.c (.sl _))=>true
 | _=>false
def uT(F:FA)(v:Operand):Bool:=oR (oP F v)
def oL(τ:TypeId→Option TI)(F:FA)(x:D)(d:Nat)(t:TypeId)(v i:Operand):Option D:=
 match v,tk τ t,ev x.sl i,ev x.sl v with
 | .tmp s,some (.sl e), .one (.c (.int _ n)), .one (.c (.sl es))=>(match idx τ e es n with | some _=>sU F x d (.one (.pp (.s s 0 0) [] n.toNat 0)) | none=>none)
 | _,_,_,_=>none
def Dq(F:FA)(b:B)(d:Nat)(v i:Operand):Option B:=match v with
 | .tmp s=>bif Nat.blt d F.n&&b.has s&&dO b i&& !(Nat.beq s d)&&(b.kd (.s s 0 0)).hold then some ((b.put F d (fun _ _=> .F)).nrm F)else none
 | _=>none

section
variable {P:Program} {τ:TypeId→Option TI} {g0:G} {w0:World} {o:Oper} {st:St} {d:Nat}
theorem Jy(hT:bE P τ){t e:TypeId}{ei:TI}{s:Nat}{i:Operand}{es:List (List T)}{row:List T}{k:IntKind}{n:Int}(hd:o.dst=some d)(hn:d<st.n)(ho:o.op= .indexAddr t (.tmp s) i)(ht:tk τ t=some (.sl e))(he:τ e=some ei)
  (hx:st.sl s= .one (.c (.sl es)))(hk:(st.fl (.s s 0 0)).hold=true)(hne:s≠d)(hi:ev st.sl i= .one (.c (.int k n)))(h0:0≤n)(hrow:es[n.toNat]? =some row)(hsz:row.length=ei.size):
  pW P g0 w0 o st (st.put d (.one (.pp (.s s 0 0) [] n.toNat 0)) (fun _ _=> .F)):=by
 intro a w ⟨g,hs⟩; have hat:st.at (.s s 0 0)=some (.sl es):=by rw[St.at_s,hx]; rfl
 have h1:=hs.slots s; rw[hx]at h1; have hv:vAt a.tmps g.β w (.s s 0 0)=some (a.tmps.getD s undef):=(iQ h1.1).2; have hrd:=hs.pl_rd hk hv hat (.nil _ _); obtain⟨_,_,_,hpos⟩:=nC hT he; obtain⟨b,off,len,cap,q1,hl,_⟩:=HD (β:=g.β) hrd hrow hsz hpos; have hlt:n.toNat<es.length:=cR hrow; refine⟨_,w,qU hT ht he (ρ:=a.eval) (x:= .tmp s) q1 (hs.int hi) h0 (by omega) ho w, .inl ⟨_,rfl,g, ?_⟩⟩
 rw[hd]; exact hs.set hn trivial (fun _ _=>⟨hk,by simp [aI,aX,hne],_, .sl es,b,off,len,cap,es,row,hv,hat,by rw[←q1]; exact .nil _ _,hrow,by rw[hsz]; rfl⟩)
end

section
variable {P:Program} {τ:TypeId→Option TI} {F:FA} {o:Oper} {b b':B} {x x':D} {d:Nat}
theorem SW(hT:bE P τ)(hA:Ag F b x){t:TypeId}{v i:Operand}(hd:o.dst=some d)(ho:o.op= .indexAddr t v i)(h1:oL τ F x d t v i=some x')(h2:Dq F b d v i=some b'):OpS P F F.n o b x b' x':=by
 unfold oL at h1; split at h1<;>try cases h1
 rename_i s e k n es hte hi hv; split at h1<;>try cases h1
 rename_i row hrow; obtain⟨e1,rfl⟩:=cM h1; obtain⟨ei,q1,q2,q3,q4⟩:=Cq hrow; simp only[Dq]at h2; obtain⟨hc,h2⟩:=aK h2; simp only[z7]at hc; obtain⟨⟨⟨⟨c1,c2⟩,c3⟩,c4⟩,c5⟩:=hc; cases h2; exact OpS.put0 hA e1 (fun g0 w0=>Jy hT hd (cZ c1) ho hte q1 (by rw[rG c2]; exact hv) c5 (AU c4) (by rw[pG c3]; exact hi) q2 q3 q4)
theorem Kl{t:TypeId}(hA:Ag F b x){v i:Operand}(hk:dO b v=true)(h:nK τ F x d t v i=some x'∨oR (ev x.sl v)=true):oR (ev x.sl v)=uT F v:=by
 cases hp:oR (ev x.sl v)with
 | true=>
  unfold oR at hp; split at hp<;>try cases hp
  rename_i es hv; rcases CE hA hk hv (by simp)with hf | ⟨_,hs⟩
  ·unfold uT
   cases hs:oP F v with
   | tup ws=>rw[hs]at hf; simp [Own.fits]at hf
   | one y=>
    rw[hs]at hf; cases y<;>simp [Own.fits,bX]at hf
    rename_i z; cases z<;>simp [tY]at hf
    rfl
  ·unfold uT; rw[hs]; rfl
 | false=>
  rcases h with h | h
  ·cases hq:uT F v with
   | false=>rfl
   | true=>
    exfalso
    unfold uT oR at hq; split at hq<;>try cases hq
    rename_i es hs; have hfit:ev x.sl v= .tup []∨Own.fits (ev x.sl v) (oP F v)=true:=by
     cases v with
     | tmp t'=>exact hA.sl t' hk
     | const u=>
      right
      have hs:bQ u= .one (.c (.sl es)):=hs; show Own.fits (bQ u) (bQ u)=true; rw[hs]; rfl
     | func f=>cases hs
     | global g=>cases hs
    rw[hs]at hfit; unfold nK at h; rcases hfit with e | e
    ·rw[e]at h
     split at h
     ·cases h
     ·split at h<;>simp_all
     ·cases h
    ·cases hv:ev x.sl v with
     | tup ws=>rw[hv]at e; simp [Own.fits]at e
     | one w=>
      rw[hv]at e; cases w<;>simp [Own.fits,bX]at e
      rename_i z; cases z<;>simp [tY]at e
      ·rw[hv]at hp; cases hp
      ·rw[hv]at h
       split at h
       ·cases h
       ·split at h<;>simp_all
       ·cases h
  ·rw[h]at hp; cases hp
end
end Go.Own

namespace Go.Own
open Go.RowKit

section
variable {P:Program} {τ:TypeId→Option TI} {F:FA} {o:Oper} {b b':B} {x x':D} {d:Nat}

def dOp(τ:TypeId→Option TI)(F:FA)(x:D)(o:Oper):Option D:=
 match o.dst with
 | some d=>(match o.op with
  | .assign v=>zM F x d v
  | .move v=>bif mem d F.al then uU F x d v else zM F x d v
  | .extract v k=>pY F x d k v
  | .pick c y z=>Fc F x d c y z
  | .fieldAddr s v f=>wN τ F x d s v f
  | .nilCheck v=>Mw F x d v
  | .makeFunc (.func f) first caps=>bif first.isEmpty then Dx F x d f caps else none
  | .indexAddr t v i=>bif fH (F.shOf d)&&oR (ev x.sl v)then oL τ F x d t v i else nK τ F x d t v i
  | .load t v=>bif mem d F.tk&&(!(mem d F.al)&&fH (ev x.sl v))then wM τ F x d t v else oS τ F x d t v (mem d F.al)
  | .alloc t=>Cc τ F x d t
  | .box _ v=>RY F x d v
  | .buildSlice t n parts=>OD τ F x d t n parts
  | .makeSlice t v y=>Fd τ F x d t v y
  | .build t parts=>yX τ F x d t parts
  | .call c=>(match c.callee,c.args.toList,c.argTypes.toList with
   | .builtin .append,[v,y],[t,u]=>tV τ F x d t u v y
   | _,_,_=>pE τ F x d o.op)
  | op=>pE τ F x d op)
 | none=>(match o.op with
  | .store t v y=>(match τ t,ev x.sl v,aV (ev x.sl y)with
   | some i, .one (.ptr ob p),some xs=>qO F x i ob p xs
   | some i, .one (.pp l p n j),some xs=>nE F x i l p n j xs
   | _,_,_=>none)
  | _=>none)

def cOp(τ:TypeId→Option TI)(F:FA)(b:B)(o:Oper):Option B:=
 match o.dst with
 | some d=>(match o.op with
  | .assign v=>UD F b d true v
  | .move v=>bif mem d F.al then OY F b d v else UD F b d (mem d F.tk) v
  | .extract v k=>Hi F b d k v
  | .pick c y z=>XY F b d c y z
  | .fieldAddr _ v _=>TW F b d v
  | .nilCheck v=>cNil F b d v
  | .makeFunc (.func _) _ caps=>XZ F b d caps
  | .indexAddr _ v i=>bif fH (F.shOf d)&&uT F v then Dq F b d v i else LI F b d v i
  | .load t v=>bif mem d F.tk&&(!(mem d F.al)&&KT F v)then LH τ F b d t v else RD τ F b d t v (mem d F.al) (mem d F.tk)
  | .alloc t=>OX τ F b d t
  | .box _ v=>cBox F b d v
  | .buildSlice t _ parts=>cLit τ F b d t parts
  | .makeSlice t v y=>UE τ F b d t v y
  | .build t parts=>OW τ F b d t parts
  | .slice _ v lo _ mx=>bif mem d F.tk then cCut F b d v lo mx o.op else Lj F b d o.op
  | .call c=>(match c.callee,c.args.toList,c.argTypes.toList with
   | .builtin .append,[v,y],[t,_]=>Kr τ F b d t v y
   | _,_,_=>Lj F b d o.op)
  | op=>Lj F b d op)
 | none=>(match o.op with
  | .store t v y=>(match τ t,oP F v with
   | some i, .one (.ptr ob p)=>Dp F b i ob p v y
   | some i, .one (.pp l p _ _)=>(match v with | .tmp tx=>Av F b i l p tx y | _=>none)
   | _,_=>none)
  | _=>none)

theorem op_S(hT:bE P τ)(hA:Ag F b x)(h1:dOp τ F x o=some x')(h2:cOp τ F b o=some b'):OpS P F F.n o b x b' x':=by
 unfold dOp at h1; unfold cOp at h2; cases hd:o.dst with
 | none=>
  rw[hd]at h1 h2; simp only at h1 h2; split at h1<;>try cases h1
  rename_i t v y ho; rw[ho]at h2; split at h1<;>try cases h1
  ·rename_i i ob p xs hi hv hy
   simp only[hi]at h2; have hk:dO b v=true:=by
    split at h2<;>try cases h2
    ·unfold Dp at h2
     obtain⟨hc,_⟩:=aK h2; simp only[z7]at hc; exact hc.1.1
    ·split at h2<;>try cases h2
     unfold Av at h2; obtain⟨hc,_⟩:=aK h2; simp only[z7]at hc; exact hc.1.1.1.1.1.1.1
   rw[Ku hA hk hv]at h2; exact UN hT hA hd ho hi hv hy h1 h2
  ·rename_i i l p n j xs hi hv hy
   simp only[hi]at h2; have hk:dO b v=true:=by
    split at h2<;>try cases h2
    ·unfold Dp at h2
     obtain⟨hc,_⟩:=aK h2; simp only[z7]at hc; exact hc.1.1
    ·split at h2<;>try cases h2
     unfold Av at h2; obtain⟨hc,_⟩:=aK h2; simp only[z7]at hc; exact hc.1.1.1.1.1.1.1
   obtain⟨tv,p',n',rfl,hs⟩:=Qq hA hk hv; rw[hs]at h2; simp only at h2; have hpl:p.length=p'.length:=by
    have hv':x.sl tv= .one (.pp l p n j):=hv; have hf:=hA.fits (t:=tv) hk (by rw[hv']; simp)
    have hs':F.shOf tv= .one (.pp l p' n' j):=hs; rw[hv',hs']at hf; simp only[Own.fits,bX,z7]at hf; exact z16 hf.1.2
   exact Rk hT hA hd ho hi hv hs hpl hy h1 h2
 | some d=>
  rw[hd]at h1 h2; simp only at h1 h2; cases ho:o.op with
  | assign v=>rw[ho]at h1 h2; exact TP hA hd (.inl ho) h1 h2
  | move v=>
   rw[ho]at h1 h2; simp only at h1 h2; cases hm:mem d F.al with
   | true=>rw[hm]at h1 h2; exact Ve hA hd ho h1 h2
   | false=>rw[hm]at h1 h2; exact TP hA hd (.inr ho) h1 h2
  | extract v k=>rw[ho]at h1 h2; exact QV hA hd ho h1 h2
  | pick c y z=>rw[ho]at h1 h2; exact YU hA hd ho h1 h2
  | fieldAddr s v f=>rw[ho]at h1 h2; exact VM hT hA hd ho h1 h2
  | nilCheck v=>rw[ho]at h1 h2; exact nil_S hA hd ho h1 h2
  | makeFunc fn first caps=>
   rw[ho]at h1 h2; cases fn with
   | func f=>
    simp only at h1 h2; obtain⟨hf,h1⟩:=aK h1; have:first= #[]:=by simpa using hf
    subst this; exact Yi hA hd ho h1 h2
   | _=>simp only[pE,iF]at h1; cases h1
  | indexAddr t v i=>
   rw[ho]at h1 h2; simp only at h1 h2; have hk:dO b v=true:=by
    cases hm:(fH (F.shOf d)&&uT F v)with
    | true=>
     rw[hm]at h2; simp only[z15,Dq]at h2; split at h2<;>try cases h2
     obtain⟨hc,_⟩:=aK h2; simp only[z7]at hc; exact hc.1.1.1.2
    | false=>
     rw[hm]at h2; simp only[z11,LI]at h2; obtain⟨hc,_⟩:=aK h2; simp only[z7]at hc; exact hc.1.2
   have he:oR (ev x.sl v)=uT F v:=by
    cases hm:(fH (F.shOf d)&&oR (ev x.sl v))with
    | true=>
     simp only[z7]at hm; exact Kl (τ:=τ) (d:=d) (t:=t) (i:=i) (x':=x) hA hk (.inr hm.2)
    | false=>
     rw[hm]at h1; exact Kl hA hk (.inl h1)
   rw[he]at h1; cases hm:(fH (F.shOf d)&&uT F v)with
   | true=>rw[hm]at h1 h2; exact SW hT hA hd ho h1 h2
   | false=>rw[hm]at h1 h2; exact VF hT hA hd ho h1 h2
  | load t v=>
   rw[ho]at h1 h2; simp only at h1 h2; have hk:dO b v=true:=by
    cases hm:(mem d F.tk&&(!(mem d F.al)&&KT F v))with
    | true=>
     rw[hm]at h2; simp only[z15,LH]at h2; split at h2<;>try cases h2
     obtain⟨hc,_⟩:=aK h2; simp only[z7]at hc; exact hc.1.2
    | false=>
     rw[hm]at h2; simp only[z11,RD]at h2; obtain⟨hc,_⟩:=aK h2; simp only[z7]at hc; exact hc.2
   have he:fH (ev x.sl v)=KT F v:=by
    cases hm:(mem d F.tk&&(!(mem d F.al)&&fH (ev x.sl v)))with
    | true=>
     simp only[z7]at hm; exact PL (τ:=τ) (d:=d) (t:=t) (al:=false) (x':=x) hA hk (.inr hm.2.2)
    | false=>
     rw[hm]at h1; exact PL hA hk (.inl h1)
   rw[he]at h1; cases hm:(mem d F.tk&&(!(mem d F.al)&&KT F v))with
   | true=>rw[hm]at h1 h2; exact Ut hT hA hd ho h1 h2
   | false=>rw[hm]at h1 h2; exact Yb hT hA hd ho h1 h2
  | alloc t=>rw[ho]at h1 h2; exact Vd hT hA hd ho h1 h2
  | box t v=>rw[ho]at h1 h2; exact box_S hA hd ho h1 h2
  | buildSlice t n parts=>rw[ho]at h1 h2; exact lit_S hT hA hd ho h1 h2
  | makeSlice t v y=>rw[ho]at h1 h2; exact Ya hT hA hd ho h1 h2
  | build t parts=>rw[ho]at h1 h2; exact VX hT hA hd ho h1 h2
  | call c=>
   rw[ho]at h1 h2; simp only at h1 h2; split at h1
   ·rename_i v y t u e1 e2 e3
    simp only[e1,e2,e3]at h2; refine Sp hT hA hd ?_ h1 h2
    obtain⟨cal,args,tys⟩:=c; simp only at e1 e2 e3; subst e1; rw[ho]; congr 2
    ·exact Nw e2
    ·exact Nw e3
   ·rename_i hn
    have h2':Lj F b d (.call c)=some b':=by
     split at h2
     ·rename_i v y t u e1 e2 e3; exact absurd e3 (hn v y t u e1 e2)
     ·exact h2
    exact ON hT hA hd (by rw[ho]; exact h1) (by rw[ho]; exact h2')
  | slice ty v lo hi mx=>
   rw[ho]at h1 h2; simp only at h1 h2; cases hm:mem d F.tk with
   | true=>rw[hm]at h2; exact cut_S hT hA hd ho (by rw[ho]; exact h1) (by rw[ho]; exact h2)
   | false=>rw[hm]at h2; exact ON hT hA hd (by rw[ho]; exact h1) (by rw[ho]; exact h2)
  | _=>rw[ho]at h1 h2; exact ON hT hA hd (by rw[ho]; exact h1) (by rw[ho]; exact h2)
def B.freeze(F:FA)(b:B)(l:Loc):B:=b.setf F (fun m=>decide (m=l)) (fun m q=>if m=l then .F else q)
def B.frz(F:FA)(b:B):List Loc→B
 | []=>b
 | l::r=>(bif l.place&&(b.kd l).hold then(b.freeze F l).nrm F else b).frz F r

theorem SY{n:Nat}(hA:Ag F b x){l:Loc}(hp:l.place=true)(hk:(b.kd l).hold=true):Ag F ((b.freeze F l).nrm F) x∧ ∀ {g0:G} {w0:World} {a:Act} {w:World},Sim g0 w0 (b.S n x) a w→Sim g0 w0 (((b.freeze F l).nrm F).S n x) a w:=by
 have hA1:Ag F (b.freeze F l) x:=hA.setf _ _; refine⟨hA1.nrm,fun {g0 w0 a w} hs=> ?_⟩
 obtain⟨g,hs⟩:=hs; have h1:=hs.freeze hp (by show b.kd l≠ .D∧b.kd l≠ .V; constructor<;>(intro e; rw[e]at hk; simp [K.hold]at hk))
 exact⟨_,h1.relax ((kQ hA (Low.self n b x) (by simp [Ne.symm (Loc.place_ne hp).1]) (fun m _ _=>dR _) (fun i _ _ hf=>hf)).le hA1)⟩

theorem UA{n:Nat}: ∀(L:List Loc) {b:B},Ag F b x→Ag F (b.frz F L) x∧ ∀ {g0:G} {w0:World} {a:Act} {w:World},Sim g0 w0 (b.S n x) a w→Sim g0 w0 ((b.frz F L).S n x) a w
 | [],b,hA=>⟨hA,fun hs=>hs⟩
 | l::r,b,hA=>by
  show Ag F ((bif l.place&&(b.kd l).hold then(b.freeze F l).nrm F else b).frz F r) x∧ ∀ {g0:G} {w0:World} {a:Act} {w:World},_→Sim g0 w0 (((bif l.place&&(b.kd l).hold then(b.freeze F l).nrm F else b).frz F r).S n x) a w
  cases hc:(l.place&&(b.kd l).hold)with
  | true=>
   simp only[z7]at hc; obtain⟨h1,h2⟩:=SY (n:=n) hA hc.1 hc.2; obtain⟨h3,h4⟩:=UA (n:=n) r h1; exact⟨h3,fun hs=>h4 (h2 hs)⟩
  | false=>exact UA r hA
end
end Go.Own

namespace Go.Own
open Go.RowKit

def DA(vs:List V)(ob:List (List T)):D:= { sl:=fun i=>vs.getD i (.one .junk),ob:=fun o=>if par≤o then ob[o - par]? else none }
def DR(r:V)(io:Option T)(ob:List (List T))(nw:Option (List T)):D:=
  { sl:=fun i=>match i with | 0=>r | 1=>(match io with | some t=> .one (.c t) | none=> .one .junk) | _=> .one .junk
    ob:=fun o=>if par≤o then ob[o - par]? else if o=0 then nw else none }

structure Sg where
  bi:B
  bo:B
  np:Nat
  io:Option Nat:=none
  ext:Bool:=true
  no:Nat:=0

def sL(P:Program)(n:Result Next)(R:Value→World→Prop):Prop:=
  match n with
  | .ok (.value v) w=>R v w
  | .ok (.enter f args) w=>Calls P f args w (fun e w'=> ∃v,e= .returned v∧R v w')
  | _=>False

def TC(P:Program)(f:FuncId)(sg:Sg)(vs:List V)(ob:List (List T))(r:V)(io:Option T)(ob':List (List T))(nw:Option (List T)):Prop:=
  ∀g w (us:Array Value),cC g w (sg.bi.S sg.np (DA vs ob)) ⟨us,[]⟩ g w→sL P ((callFunc f us).run P w) (fun u w'=> ∃g',cC g w (sg.bo.S 2 (DR r io ob' nw)) ⟨#[u,us.getD (sg.io.getD 0) undef],[]⟩ g' w')

def pF(os:List Nat)(o:Nat):Option Nat:=if o∈os then some (par+os.idxOf o)else none
def OB(os:List Nat)(o:Nat):Option Nat:=if par≤o then os[o - par]? else none

def BU(ρ:Nat→Option Nat):List (Nat×Nat)→Option (List (Nat×Nat))
  | []=>some []
  | c::r=>(ρ c.1).bind fun o=>(BU ρ r).map fun r'=>(o,c.2)::r'

def W.to(ρ:Nat→Option Nat):W→W
  | .ptr o off=>((ρ o).map fun o'=>W.ptr o' off).getD .junk
  | .fn f caps=>((BU ρ caps).map fun c=>W.fn f c).getD .junk
  | .al _ _=> .junk
  | .pp _ _ _ _=> .junk
  | w=>w
def V.to(ρ:Nat→Option Nat):V→V
  | .one w=> .one (w.to ρ)
  | .tup ws=> .tup (ws.map (W.to ρ))

theorem Pb{g g':G}{ρ:Nat→Option Nat}(hβ: ∀o o',ρ o=some o'→g'.β o'=g.β o): ∀ {l l':List (Nat×Nat)},BU ρ l=some l'→
    l.map (fun c=>Value.pointer (some ⟨g.β c.1,c.2,none⟩))=l'.map (fun c=>Value.pointer (some ⟨g'.β c.1,c.2,none⟩))
  | [],l',h=>by simp only[BU,z10]at h; subst h; rfl
  | c::r,l',h=>by
    simp only[BU,z22,z26]at h; obtain⟨o,ho,r',hr,rfl⟩:=h; simp only[z52,Pb hβ hr,hβ _ _ ho]

theorem V.to_root{ρ:Nat→Option Nat}{x:V}:aI (x.to ρ)= .none:=by
  cases x with
  | tup ws=>rfl
  | one w=>cases w with
    | ptr o off=>simp only[V.to,W.to]; cases ρ o<;>rfl
    | fn f caps=>simp only[V.to,W.to]; cases BU ρ caps<;>rfl
    | _=>rfl

theorem RW.to{g g':G}{w w':World}{κ κ':Nat→K}{l l':Nat→Loc}{v:Value}{x:W}{ρ:Nat→Option Nat}(hβ: ∀o o',ρ o=some o'→g'.β o'=g.β o)
    (hleaf: ∀j t u,x.leaf j=some t→Hm v j=some u→oQ u→LF g w (κ j) (l j) u t→LF g' w' (κ' j) (l' j) u t)(hcp: ∀xs,x= .cp xs→ ∀b off,CpR g w (κ 0) b off xs→CpR g' w' (κ' 0) b off xs)
    (h:RW g w κ l v x):RW g' w' κ' l' v (x.to ρ):=by
  cases x with
  | junk=>trivial
  | c y=>exact⟨h.1,hleaf 0 y v rfl (iQ h.1).1 h.1 h.2⟩
  | ag xs=>
    obtain⟨cs,rfl,h2,h3⟩:=h; refine⟨cs,rfl,h2,fun j x hx=> ?_⟩
    obtain⟨c,c1,c2,c3⟩:=h3 j x hx; exact⟨c,c1,c2,hleaf j x c hx c1 c2 c3⟩
  | ptr o off=>
    simp only[W.to]; cases hρ:ρ o with
    | none=>trivial
    | some o'=>
      show v=_; rw[hβ o o' hρ]; exact h
  | cp xs=>
    obtain⟨b,off,h1,h2⟩:=h; exact⟨b,off,h1,hcp xs rfl b off h2⟩
  | pp _ _ _ _=>trivial
  | al _ _=>trivial
  | nilp=>exact h
  | ifc b=>exact h
  | fn f caps=>
    simp only[W.to]; cases hρ:BU ρ caps with
    | none=>trivial
    | some c=>
      show v=_; rw[←Pb hβ hρ]; exact h

theorem RV.to{g g':G}{w w':World}{κ κ':Nat→Nat→K}{l l':Nat→Nat→Loc}{v:Value}{x:V}{ρ:Nat→Option Nat}(hβ: ∀o o',ρ o=some o'→g'.β o'=g.β o)
    (hleaf: ∀k j t u,x.leaf k j=some t→sH v k j=some u→oQ u→LF g w (κ k j) (l k j) u t→LF g' w' (κ' k j) (l' k j) u t)(hcp: ∀k xs,x.comp k=some (.cp xs)→ ∀b off,CpR g w (κ k 0) b off xs→CpR g' w' (κ' k 0) b off xs)
    (h:RV g w κ l v x):RV g' w' κ' l' v (x.to ρ):=by
  cases x with
  | one y=>
    refine RW.to (κ:=κ 0) (l:=l 0) hβ (fun j t u h1 h2 h3 h4=>hleaf 0 j t u h1 ?_ h3 h4) (fun xs e b off hc=>hcp 0 xs (by rw[e]; rfl) b off hc) h
    obtain⟨u2,q1,q2,_⟩:=RW.leaf (show RW g w (κ 0) (l 0) v y from h) h1; rw[h2]at q1; cases q1; exact q2
  | tup ws=>
    obtain⟨vs,rfl,h2,h3⟩:=h; refine⟨vs,rfl,by simpa using h2,fun k x hx=> ?_⟩
    rw[z30]at hx
    obtain⟨y,hy,rfl⟩:=z26.1 hx; obtain⟨u,hu,hR⟩:=h3 k y hy; exact⟨u,hu,RW.to (κ:=κ k) (l:=l k) hβ (fun j t u' h1 h2 h4 h5=>hleaf k j t u' (by simp [V.leaf,hy,h1]) (by simp [sH,hu,h2]) h4 h5) (fun xs e b off hc=>hcp k xs (by simp only[V.comp]; rw[hy,e]) b off hc) hR⟩

def Fe(xs:List Operand)(t:Nat):Option Nat:=if xs.any (zI t)then some (xs.findIdx (zI t))else none

def sY(ext:Bool):Loc:=if ext then .ext else .none
def jQ(sg:Sg)(xs:List Operand)(os:List Nat):Loc→Loc
  | .s t k j=>match Fe xs t with | some i=>if(sg.bi.kd (.s i k j)).hold then .s i k j else sY sg.ext | none=>sY sg.ext
  | .obj o=>match pF os o with | some i=> .obj i | none=> .ext
  | .oc o j=>match pF os o with | some i=>if(sg.bi.kd (.oc i j)).hold then .oc i j else sY sg.ext | none=>sY sg.ext
  | .none=> .none
  | .ext=>sY sg.ext

open Classical in
noncomputable def G.into (g:G) (sg:Sg) (xs:List Operand) (os:List Nat) (Fp:Nat→Prop):G:=
  { β:=fun oc=>((OB os oc).map g.β).getD 0,own:=fun b=>if Fp b then .s (sg.io.getD 0) 0 0 else jQ sg xs os (g.own b) }

theorem MK{os:List Nat}(hn:os.Nodup){oc o:Nat}(h:OB os oc=some o):pF os o=some oc∧par≤oc∧os[oc - par]? =some o:=by
  simp only[OB]at h; split at h
  · rename_i hp
    have hm:o∈os:=z20 h; have hlt:oc - par<os.length:=cR h; have:os.idxOf o=oc - par:=by
      rw[z12 hlt]at h
      have h:=z46 h; subst h; exact hn.idxOf_getElem _ hlt
    refine⟨?_,hp,h⟩
    simp only[pF,z19 hm,this]; exact congrArg some (Xf hp)
  · cases h

theorem Hd{os:List Nat}{oc o:Nat}(h:pF os o=some oc):OB os oc=some o:=by
  simp only[pF]at h; split at h
  · rename_i hm
    have h:=z46 h; have h1:par≤oc:=by rw[←h]; exact Nat.le_add_right _ _
    have h2:oc - par=os.idxOf o:=by rw[←h]; exact z82 _ _
    simp only[OB]; rw[z19 h1,h2]; rw[z12 (List.idxOf_lt_length_of_mem hm)]
    simp
  · cases h

def K.hand(ext:Bool)(c q:K):Bool:=match q with
  | .D=>true
  | .F=>if ext then c.cp.lo .F else !(decide (c= .D))
  | .V=> !(decide (c= .D))
  | .S=>c.lo .S
  | .N=>c.lo .N
  | q=>ext&&c.lo q

theorem EB(ext:Bool)(o:Nat):sY ext≠ .obj o:=by unfold sY; split<;>simp

theorem LF.hand{g gi:G}{w:World}{ext:Bool}{c q:K}{l l':Loc}{v:Value}{x:T}(hok:GOk g w)(hl:l.place=true)(h:LF g w c l v x)(hh:c.hand ext q=true)
    (hZ: ∀b,g.own b= .none→gi.own b= .none)(hN:ext=false→ ∀b,(∀o,g.own b≠ .obj o)→gi.own b= .none)(hA: ∀b,(∀o,g.own b≠ .obj o)→ ∀o,gi.own b≠ .obj o)(hm:q.hold=true→ ∀b,g.own b=l→gi.own b=l'):LF gi w q l' v x:=by
  have hfrz: ∀b,frz g w b→frz gi w b:=fun b hb=>⟨hb.1,hZ b hb.2⟩
  have hall: ∀b,all g w b→all gi w b:=fun b hb=>⟨hb.1,hA b hb.2⟩
  have hrd:c≠ .D→Rd (all g w) w v x:=fun hc=>h.rd hok hl hc
  have hhold:q.hold=true→c.lo q=true→LF gi w q l' v x:=fun hq hlo=>(h.lo hok hl hlo).moved (hm hq) hZ hall
  cases q with
  | D=>exact fun hs=>(LF.scal (g':=gi) (w':=w) (κ':= .D) (l':=l') h hs (by simp)) hs
  | F=>
    simp only[K.hand]at hh; cases ext with
    | true=>
      simp only[if_true]at hh; have:LF g w .F l v x:=(h.cp hok hl (l':=l)).lo hok hl hh; exact Rd.weaken hfrz this
    | false=>
      have hc:c≠ .D:=by simpa using hh
      exact Rd.weaken (fun b hb=>⟨hb.1,hN rfl b hb.2⟩) (hrd hc)
  | V=>
    have hc:c≠ .D:=by simpa [K.hand]using hh
    exact Rd.weaken hall (hrd hc)
  | S=>
    have:=h.lo hok hl (κ':= .S) hh; exact this
  | N=>
    have:=h.lo hok hl (κ':= .N) hh; exact this
  | A n=>
    simp only[K.hand,z7]at hh; exact hhold rfl hh.2
  | U n=>
    simp only[K.hand,z7]at hh; exact hhold rfl hh.2

theorem CpR.hand{g gi:G}{w:World}{ext:Bool}{c q:K}{b off:Nat}{xs:List T}(h:CpR g w c b off xs)(hh:c.hand ext q=true)
    (hZ: ∀b,g.own b= .none→gi.own b= .none)(hN:ext=false→ ∀b,(∀o,g.own b≠ .obj o)→gi.own b= .none)(hA: ∀b,(∀o,g.own b≠ .obj o)→ ∀o,gi.own b≠ .obj o)(hq:q= .D∨q= .F∨q= .V):CpR gi w q b off xs:=by
  have hfrz: ∀b,frz g w b→frz gi w b:=fun b hb=>⟨hb.1,hZ b hb.2⟩
  have hall: ∀b,all g w b→all gi w b:=fun b hb=>⟨hb.1,hA b hb.2⟩
  rcases hq with rfl | rfl | rfl
  · trivial
  · simp only[K.hand]at hh
    cases ext with
    | true=>
      simp only[if_true]at hh; cases c with
      | F=>exact⟨hfrz _ h.1,fun j x hx=>by obtain⟨c,h1,h2⟩:=h.2 j x hx; exact⟨c,h1,h2.weaken hfrz⟩⟩
      | D=>simp [K.cp,K.lo]at hh
      | V=>simp [K.cp,K.lo]at hh
      | _=>exact h.elim
    | false=>
      have hc:c≠ .D:=by simpa using hh
      have h':=h.toV hc; have hw: ∀b,all g w b→frz gi w b:=fun b hb=>⟨hb.1,hN rfl b hb.2⟩
      exact⟨hw _ h'.1,fun j x hx=>by obtain⟨c,h1,h2⟩:=h'.2 j x hx; exact⟨c,h1,h2.weaken hw⟩⟩
  · have hc:c≠ .D:=by simpa [K.hand]using hh
    have h':=h.toV hc; exact⟨hall _ h'.1,fun j x hx=>by obtain⟨c,h1,h2⟩:=h'.2 j x hx; exact⟨c,h1,h2.weaken hall⟩⟩
end Go.Own

namespace Go.Own
open Go.RowKit

def Lu(st:St)(sg:Sg)(xs:List Operand)(i:Nat):Operand→Prop
 | .tmp t=>match st.sl t with
  | .one (.al l _)=>l≠ .none∧st.fl (.s t 0 0)≠ .D∧K.V.hand sg.ext (sg.bi.kd (.s i 0 0))=true
  | .one (.pp _ _ _ _)=>True
  | _=>(∀k j,(st.fl (.s t k j)).hand sg.ext (sg.bi.kd (.s i k j))=true∧((sg.bi.kd (.s i k j)).hold=true→Fe xs t=some i))∧ ∀k zs,(st.sl t).comp k=some (.cp zs)→sg.bi.kd (.s i k 0)= .D∨sg.bi.kd (.s i k 0)= .F∨sg.bi.kd (.s i k 0)= .V
 | .const c=> ∀k j,(jF (bQ c) k j).hand sg.ext (sg.bi.kd (.s i k j))=true
 | _=>True

theorem QW(c:Value)(k:Nat)(xs:List T):(bQ c).comp k≠some (.cp xs):=by
 have key: ∀w,(∀ys,w≠W.cp ys)→(V.one w).comp k≠some (.cp xs):=fun w hw=>by
  cases k with
  | zero=>simp only[V.comp]; intro e; exact hw xs (z46 e)
  | succ k=>simp [V.comp]
 unfold bQ
 (repeat' split)<;>exact key _ (by simp)

theorem jS{g:G}{sg:Sg}{xs:List Operand}{os:List Nat}{Fp:Nat→Prop}{b:Nat}(h: ¬ Fp b):(g.into sg xs os Fp).own b=jQ sg xs os (g.own b):=by
 simp only[G.into]; rw[z14 h]

theorem QR{sg:Sg}{xs:List Operand}{os:List Nat}(he:sg.ext=false)(hh: ∀l,(sg.bi.kd l).hold=false){l:Loc}(hl: ∀o,l≠ .obj o):jQ sg xs os l= .none:=by
 have hr:sY sg.ext= .none:=by rw[he]; rfl
 cases l with
 | obj o=>exact absurd rfl (hl o)
 | none=>rfl
 | ext=>exact hr
 | s t k j=>
  simp only[jQ]; split
  ·rw[z14 (by rw[hh]; simp)]; exact hr
  ·exact hr
 | oc o j=>
  simp only[jQ]; split
  ·rw[z14 (by rw[hh]; simp)]; exact hr
  ·exact hr

theorem QQ{sg:Sg}{xs:List Operand}{os:List Nat}{l:Loc}(hl: ∀o,l≠ .obj o)(o:Nat):jQ sg xs os l≠ .obj o:=by
 cases l with
 | obj o=>exact absurd rfl (hl o)
 | none=>simp [jQ]
 | ext=>exact EB _ _
 | s t k j=>
  simp only[jQ]
  (repeat' split)<;>first | exact EB _ _ | simp
 | oc o j=>
  simp only[jQ]
  (repeat' split)<;>first | exact EB _ _ | simp

theorem Yh{ext:Bool}{q:K}(h:K.V.hand ext q=true):q.hold=false:=by
 cases q<;>first | rfl | (simp [K.hand,K.lo]at h)

theorem VH{ext:Bool}{c q:K}(hc:c= .S∨c= .N)(h:c.hand ext q=true):c.lo q=true:=by
 rcases hc with rfl | rfl<;>cases q<;>cases ext<;>simp_all [K.hand,K.lo,K.cp]

theorem cC.enter{g0:G}{w0:World}{st:St}{a:Act}{g:G}{w:World}(h:cC g0 w0 st a g w){sg:Sg}{xs:List Operand}{caps:List (Nat×Nat)}{os:List Nat}{Fp:Nat→Prop}{vs:List V}{ob:List (List T)}(hos:os.Nodup)(hnp:sg.np=vs.length)(hle:sg.np≤par)
  (hFp: ∀b,Fp b→(g.own b).place=true)(hno:sg.ext=false→(∀l,(sg.bi.kd l).hold=false)∧ ∀b, ¬ Fp b)
  (hFm: ∀t i k j,Fe xs t=some i→(sg.bi.kd (.s i k j)).hold=true→ ∀b,g.own b= .s t k j→ ¬ Fp b)(hFo: ∀o oc j,pF os o=some oc→(sg.bi.kd (.oc oc j)).hold=true→ ∀b,g.own b= .oc o j→ ¬ Fp b)
  (hvs:vs=xs.map (fun v=>(evR st v).to (pF os))++caps.map (fun c=>(V.one (.ptr c.1 c.2)).to (pF os)))(hob:ob.map some=os.map st.ob)
  (harg: ∀(i:Nat) v,xs[i]? =some v→sg.io≠some i→Lu st sg xs i v)(hobk: ∀o oc j,pF os o=some oc→(st.fl (.oc o j)).hand sg.ext (sg.bi.kd (.oc oc j))=true)
  (hio: ∀(i:Nat) v,xs[i]? =some v→sg.io=some i→RV (g.into sg xs os Fp) w (fun k j=>sg.bi.kd (.s i k j)) (fun k j=> .s i k j) (a.eval v) ((evR st v).to (pF os))):
  cC (g.into sg xs os Fp) w (sg.bi.S sg.np (DA vs ob)) ⟨(xs.map a.eval++caps.map fun c=>Value.pointer (some ⟨g.β c.1,c.2,none⟩)).toArray,[]⟩ (g.into sg xs os Fp) w:=by
 have hβ: ∀o o',pF os o=some o'→(g.into sg xs os Fp).β o'=g.β o:=fun o o' ho=>by simp [G.into,Hd ho]
 have hZ: ∀b,g.own b= .none→(g.into sg xs os Fp).own b= .none:=fun b hb=>by
  rw[jS (fun hf=>by have:=hFp b hf; rw[hb]at this; cases this),hb]; rfl
 have hN:sg.ext=false→ ∀b,(∀o,g.own b≠ .obj o)→(g.into sg xs os Fp).own b= .none:=fun he b hb=>by
  obtain⟨h1,h2⟩:=hno he; rw[jS (h2 b)]; exact QR he h1 hb
 have hA: ∀b,(∀o,g.own b≠ .obj o)→ ∀o,(g.into sg xs os Fp).own b≠ .obj o:=fun b hb o=>by
  by_cases hf:Fp b
  ·simp only[G.into]; rw[z19 hf]; simp
  ·rw[jS hf]; exact QQ hb o
 refine⟨tQ.refl _ _,⟨fun b hb=>h.ok.own b (fun e=>hb (hZ b e))⟩, ?_,rfl,fun i=> ?_,fun oc cells hc=> ?_,fun i hi hf=> ?_,fun _ _=>rfl,hle⟩
 ·simp [B.S,hnp,hvs]
 ·show RV _ w (fun k j=>sg.bi.kd (.s i k j)) _ ((xs.map a.eval++caps.map fun c=>Value.pointer (some ⟨g.β c.1,c.2,none⟩)).toArray.getD i undef) (if sg.bi.has i=true then vs.getD i (.one .junk)else .one .junk)
  by_cases hhas:sg.bi.has i=true
  ·rw[z19 hhas,hvs]
   simp only[z58,z90,z118,List.getElem?_append,z30,z66]
   split
   ·cases hx:xs[i]? with
    | none=>trivial
    | some v=>
     simp only[z36,z69]; by_cases hi:sg.io=some i
     ·exact hio i v hx hi
     ·have ha:=harg i v hx hi
      cases v with
      | tmp t=>
       have hs:=h.slots t; simp only[Lu]at ha; show RV _ w _ _ (a.tmps.getD t undef) ((wF st.sl st.ob (st.sl t)).to (pF os))
       have plain:(∀l p,st.sl t≠ .one (.al l p))→((∀k j,(st.fl (.s t k j)).hand sg.ext (sg.bi.kd (.s i k j))=true∧((sg.bi.kd (.s i k j)).hold=true→Fe xs t=some i))∧ ∀k zs,(st.sl t).comp k=some (.cp zs)→sg.bi.kd (.s i k 0)= .D∨sg.bi.kd (.s i k 0)= .F∨sg.bi.kd (.s i k 0)= .V)→
         RV (g.into sg xs os Fp) w (fun k j=>sg.bi.kd (.s i k j)) (fun k j=> .s i k j) (a.tmps.getD t undef) ((wF st.sl st.ob (st.sl t)).to (pF os)):=fun hna ha=>by
        have e:wF st.sl st.ob (st.sl t)=st.sl t:=by
         cases hsl:st.sl t with
         | tup ws=>rfl
         | one y=>cases y<;>first | rfl | exact absurd hsl (hna _ _)
        rw[e]; refine hs.to hβ (fun k j z u hz hu hn hf=> ?_) (fun k zs hz b off hc=>hc.hand (ext:=sg.ext) (ha.1 k 0).1 hZ hN hA (ha.2 k zs hz))
        refine hf.hand h.ok rfl (ha.1 k j).1 hZ hN hA (fun hq b hb=> ?_)
        have har:=(ha.1 k j).2 hq; rw[jS (hFm t i k j har hq b hb),hb]; simp only[jQ,har]; rw[z19 hq]
       cases hsl:st.sl t with
       | tup ws=>rw[hsl]at ha plain; exact plain (by simp) ha
       | one y=>
        rw[hsl]at ha plain; cases y with
        | al l p=>
         obtain⟨h1,h2,h3⟩:=ha; have hp:=h.pls t (by rw[hsl]; exact h1) h2
         rw[hsl]at hp; obtain⟨hk,v0,x0,x',e1,e2,e3⟩:=hp; have e2':atL st.sl st.ob l=some x0:=e2; have e:wF st.sl st.ob (.one (.al l p))= .one (.c x'):=by simp [wF,e2',e3.nav]
         rw[e]; have hrd:=h.pl_rd hk e1 e2 e3; refine⟨hrd.not_agg, ?_⟩
         have:LF g w .V (.s t 0 0) (a.tmps.getD t undef) x':=hrd; refine this.hand h.ok rfl h3 hZ hN hA (fun hq=> ?_)
         exact absurd hq (by rw[Yh h3]; simp)
        | pp l p a b=>trivial
        | _=>exact plain (by simp) ha
      | const c=>
       have hs:=vY g w (fun k j=>Loc.s i k j) c
       show RV _ w _ _ c ((wF st.sl st.ob (bQ c)).to (pF os)); have e:wF st.sl st.ob (bQ c)=bQ c:=by unfold bQ; (repeat' split)<;>rfl
       rw[e]; refine hs.to hβ (fun k j z u hz hu hn hf=> ?_) (fun k zs hz=>absurd hz (QW c k zs))
       have hq:=ha k j; have hk:jF (bQ c) k j= .S∨jF (bQ c) k j= .N:=by
        unfold jF; split
        ·split
         ·exact .inl rfl
         ·exact .inr rfl
        ·exact .inl rfl
       have h2:LF (g.into sg xs os Fp) w (jF (bQ c) k j) (.s i k j) u z:=by
        rcases hk with e | e
        ·rw[e]at hf ⊢; exact hf
        ·rw[e]at hf ⊢; exact hf
       have hlo:(jF (bQ c) k j).lo (sg.bi.kd (.s i k j))=true:=VH hk hq; exact h2.lo ⟨fun b hb=>h.ok.own b (fun e=>hb (hZ b e))⟩ rfl hlo
      | func f=>rfl
      | global n=>trivial
   ·cases hx:caps[i - xs.length]? with
    | none=>trivial
    | some c=>
     simp only[z36,z69]; exact RV.to (g:=g) (w:=w) (κ:=fun _ _=> .D) (l:=fun _ _=> .none) (x:= .one (.ptr c.1 c.2)) hβ (fun k j t u hx=>by cases k<;>simp [V.leaf,W.leaf]at hx) (fun k xs hx=>by cases k<;>simp [V.comp]at hx) rfl
  ·rw[z14 hhas]; trivial
 ·have hc':(if sg.bi.hasO oc=true then(DA vs ob).ob oc else none)=some cells:=hc
  split at hc'<;>try cases hc'
  simp only[DA]at hc'; split at hc'<;>try cases hc'
  rename_i hhas hp; have h1:(os.map st.ob)[oc - par]? =some (some cells):=by rw[←hob,z30,hc']; rfl
  rw[z30,z26]at h1
  obtain⟨o,ho,h1⟩:=h1; have hout:OB os oc=some o:=by simp [OB,hp,ho]
  obtain⟨hinn,_,_⟩:=MK hos hout; obtain⟨arr,ty,k1,k2,k3,k4⟩:=h.obs o cells h1; have hb:(g.into sg xs os Fp).β oc=g.β o:=by simp [G.into,hout]
  rw[hb]; refine⟨arr,ty,k1,k2, ?_,fun j x hx=> ?_⟩
  ·rw[jS (fun hf=>by have:=hFp _ hf; rw[k3]at this; cases this),k3]
   simp only[jQ,hinn]
  ·obtain⟨c,c1,c2,c3⟩:=k4 j x hx
   refine⟨c,c1,c2, ?_⟩
   show LF _ w (sg.bi.kd (.oc oc j)) _ c x; refine c3.hand h.ok rfl (hobk o oc j hinn) hZ hN hA (fun hq b hb=> ?_)
   rw[jS (hFo o oc j hinn hq b hb),hb]; simp only[jQ,hinn]; rw[z19 hq]
 ·exfalso
  apply hi
  show aI (if sg.bi.has i=true then vs.getD i (.one .junk)else .one .junk)= .none
  split
  ·rw[hvs,z118,List.getElem?_append]
   simp only[z30,z66]
   split
   ·cases xs[i]? with
    | none=>rfl
    | some v=>exact V.to_root
   ·cases caps[i - xs.length]? with
    | none=>rfl
    | some c=>exact V.to_root (ρ:=pF os) (x:= .one (.ptr c.1 c.2))
  ·rfl
end Go.Own

namespace Go.Own
open Go.RowKit

def Ap(nd:Option Nat)(v:V):V:=match nd with | some d=>v.kill d | none=>v

def uO(os:List Nat)(nd:Option Nat)(oc:Nat):Option Nat:=if par≤oc then os[oc - par]? else if oc=0 then nd else none
def rF(os:List Nat)(nd:Option Nat)(o:Nat):Option Nat:=if o∈os then some (par+os.idxOf o)else if nd=some o then some 0 else none

theorem HH: ¬ par≤0:=by unfold par; omega

theorem SU{os:List Nat}{nd:Option Nat}{oc o:Nat}(h:rF os nd o=some oc):uO os nd oc=some o:=by
  simp only[rF]at h; split at h
  · rename_i hm
    have:=Hd (os:=os) (o:=o) (oc:=oc) (by simp only[pF]; rw[z19 hm]; exact h)
    simp only[OB]at this; simp only[uO]; split at this
    · rename_i hp; rw[z19 hp]; exact this
    · cases this
  · split at h
    · rename_i h1
      have h:=z46 h; subst h; simp only[uO]; rw[z14 HH]; simpa using h1
    · cases h

theorem EK{os:List Nat}{nd:Option Nat}{o:Nat}(h:rF os nd o=none):pF os o=none∧nd≠some o:=by
  simp only[rF]at h; split at h
  · cases h
  · rename_i hm
    split at h
    · cases h
    · rename_i h1
      exact⟨by simp only[pF,z14 hm],h1⟩

def K.back(ext:Bool)(q:K):K:=match q with
  | .V=> .D
  | .F=>if ext then .F else .V
  | .A s=>if ext then .A s else .V
  | q=>q

def uR(d nd:Option Nat)(os:List Nat):Loc→Bool
  | .s i _ _=>decide (d=some i)
  | .oc o _=>(rF os nd o).isSome
  | _=>false

def St.call(st:St)(d nd:Option Nat)(os:List Nat)(ext:Bool)(bo:B)(y:D):St:=
  { n:=st.n
    sl:=fun i=>if d=some i then(y.sl 0).to (uO os nd)else Ap nd (st.sl i)
    ob:=fun o=>match rF os nd o with | some oc=>(if bo.hasO oc then y.ob oc else none) | none=>st.ob o
    fl:=fun l=>match l with
      | .s i k j=>if d=some i then(bo.kd (.s 0 k j)).back ext else if k=0∧j=0∧uR d nd os (aI (st.sl i))=true then .D else st.fl (.s i k j)
      | .oc o j=>match rF os nd o with | some oc=>(bo.kd (.oc oc j)).back ext | none=>st.fl (.oc o j)
      | l=>st.fl l }

def Ll(d:Option Nat)(ρ:Nat→Option Nat)(iol:Loc):Loc→Loc
  | .s i k j=>if i=0 then(match d with | some d=> .s d k j | none=> .ext)else if i=1 then iol else .ext
  | .obj oc=>match ρ oc with | some o=> .obj o | none=> .ext
  | .oc oc j=>match ρ oc with | some o=> .oc o j | none=> .ext
  | .none=> .none
  | .ext=> .ext

def gX:Loc→Bool
  | .none=>true
  | .ext=>true
  | _=>false
theorem JS{l:Loc}:gX l=true↔qN l:=by cases l<;>simp [gX,qN]

def G.back(g gc gc':G)(w:World)(d nd:Option Nat)(os:List Nat)(iol:Loc):G:=
  { β:=fun o=>if nd=some o then gc'.β 0 else g.β o
    own:=fun b=>if gX (gc'.own b)then(if b<w.heap.size∧gX (gc.own b)=true then g.own b else gc'.own b)else Ll d (uO os nd) iol (gc'.own b) }

theorem NU{nd:Option Nat}{x:V}{k j:Nat}:(Ap nd x).leaf k j=x.leaf k j:=by
  cases nd with
  | none=>rfl
  | some d=>exact V.kill_leaf
theorem NT{nd:Option Nat}{x:V}:aI (Ap nd x)=aI x:=by
  cases nd with
  | none=>rfl
  | some d=>exact V.kill_root

theorem pP(a:Act)(d:Option Nat)(u:Value)(i:Nat)(h:d≠some i):(a.put d u).tmps.getD i undef=a.tmps.getD i undef:=by
  cases d with
  | none=>rfl
  | some d=>
    simp only[Act.put,z58]; rw[z102 (fun e=>h (by rw[e]))]

theorem LF.back{g' gb:G}{w':World}{ext:Bool}{q:K}{l l':Loc}{v:Value}{x:T}(hok:GOk g' w')(hl:l.place=true)(hl':l'.place=true)(h:LF g' w' q l v x)(hm: ∀b,g'.own b=l→gb.own b=l')
    (hA: ∀b,frz g' w' b→all gb w' b)(hZ:ext=true→ ∀b,frz g' w' b→gb.own b= .none):LF gb w' (q.back ext) l' v x:=by
  have hD:LF gb w' .D l' v x:=fun hs=>LF.scal (g':=gb) (w':=w') (κ':= .D) (l':=l') h hs (by simp) hs
  have hF: ∀b,g'.own b=l→all gb w' b:=fun b hb=>⟨hok.own b (by rw[hb]; exact(Loc.place_ne hl).1),fun o=>by rw[hm b hb]; exact(Loc.place_ne hl').2.2 o⟩
  cases q with
  | D=>exact hD
  | V=>exact hD
  | F=>
    cases ext with
    | true=>exact Rd.weaken (fun b hb=>⟨hb.1,hZ rfl b hb⟩) h
    | false=>exact Rd.weaken hA h
  | A n=>
    cases ext with
    | true=>exact Ow.mono h id (fun _ b hb=>⟨⟨hb.1,hZ rfl b hb⟩,rfl⟩) (fun b hb=>⟨hm b hb,rfl⟩)
    | false=>exact Ow.rd h hF hA
  | U n=>exact Ow.mono h id (fun e=>by cases e) (fun b hb=>⟨hm b hb,rfl⟩)
  | S=>exact h
  | N=>exact h

theorem CpR.back{g' gb:G}{w':World}{ext:Bool}{q:K}{b off:Nat}{xs:List T}(h:CpR g' w' q b off xs)(hA: ∀b,frz g' w' b→all gb w' b)(hZ:ext=true→ ∀b,frz g' w' b→gb.own b= .none):CpR gb w' (q.back ext) b off xs:=by
  cases q with
  | D=>trivial
  | V=>trivial
  | F=>
    cases ext with
    | true=>exact⟨⟨h.1.1,hZ rfl _ h.1⟩,fun j x hx=>by obtain⟨c,h1,h2⟩:=h.2 j x hx; exact⟨c,h1,h2.weaken fun b hb=>⟨hb.1,hZ rfl b hb⟩⟩⟩
    | false=>exact⟨hA _ h.1,fun j x hx=>by obtain⟨c,h1,h2⟩:=h.2 j x hx; exact⟨c,h1,h2.weaken hA⟩⟩
  | A n=>exact h.elim
  | U n=>exact h.elim
  | S=>exact h.elim
  | N=>exact h.elim

theorem cC.leave{g0:G}{w0:World}{st:St}{a:Act}{g:G}{w:World}(hs:cC g0 w0 st a g w){sg:Sg}{xs:List Operand}{os:List Nat}{Fp:Nat→Prop}{g':G}{w':World}{y:D}{us:Array Value}{v:Value}{d nd:Option Nat}{iol:Loc}
    (hos:os.Nodup)(hd: ∀i,d=some i→i<st.n)(hnd: ∀o,nd=some o→o<par∧o ∉ os)(hFp: ∀b,Fp b→(g.own b).place=true)(hiol:iol≠ .none∧ ∀o,iol≠ .obj o)
    (hc:cC (g.into sg xs os Fp) w (sg.bo.S 2 y) ⟨us,[]⟩ g' w')(hv:us.getD 0 undef=v)(hb0:sg.bo.has 0=true)
    (hhold: ∀m x,(st.fl m).hold=true→st.at m=some x→gX (jQ sg xs os m)=true∧ ∀b,g.own b=m→ ¬ Fp b)(hV:(∀m,st.fl m≠ .V)∨(∀l,(sg.bi.kd l).hold=false)∧ ∀b, ¬ Fp b):
    cC g0 w0 (st.call d nd os sg.ext sg.bo y) (a.put d v) (g.back (g.into sg xs os Fp) g' w d nd os iol) w':=by
  have hfor: ∀b,b<w.heap.size→gX ((g.into sg xs os Fp).own b)=true→g'.own b=(g.into sg xs os Fp).own b∧(g.back (g.into sg xs os Fp) g' w d nd os iol).own b=g.own b∧w'.heap[b]? =w.heap[b]? :=fun b hb hf=>by
    obtain⟨h1,h2⟩:=hc.framed.evo.keep b hb (fun hx=>hx (JS.1 hf))
    refine⟨h1, ?_,h2⟩
    simp only[G.back]; rw[h1,z19 hf,z19 ⟨hb,hf⟩]
  have hinto: ∀b,qN (g.own b)→gX ((g.into sg xs os Fp).own b)=true∧(g.own b= .none→(g.into sg xs os Fp).own b= .none):=fun b hb=>by
    have hn: ¬ Fp b:=fun hf=>by
      have:=hFp b hf; rcases hb with h | h<;>(rw[h]at this; cases this)
    rw[jS hn]; rcases hb with h | h
    · rw[h]; exact⟨rfl,fun _=>rfl⟩
    · rw[h]
      refine⟨?_,fun e=>by cases e⟩
      simp only[jQ,sY]; split<;>rfl
  have hF:tQ g w (g.back (g.into sg xs os Fp) g' w d nd os iol) w':=by
    refine⟨hc.framed.os,hc.framed.tape,hc.framed.output,hc.framed.evo.size,fun b hb hX=> ?_⟩
    have hf:qN (g.own b):=z158.1 hX; obtain⟨_,h2,h3⟩:=hfor b hb (hinto b hf).1; exact⟨h2,h3⟩
  have hobjn: ∀o,pF os o=none→ ∀b,g.own b= .obj o→gX ((g.into sg xs os Fp).own b)=true:=fun o ho b hb=>by
    have hn: ¬ Fp b:=fun hf=>by have:=hFp b hf; rw[hb]at this; cases this
    rw[jS hn,hb]; simp only[jQ,ho]; rfl
  have hback: ∀b,gX (g'.own b)=false→(g.back (g.into sg xs os Fp) g' w d nd os iol).own b=Ll d (uO os nd) iol (g'.own b):=fun b hb=>by
    simp only[G.back]; rw[z14 (by rw[hb]; simp)]
  have hplace: ∀b l,g'.own b=l→l.place=true→(g.back (g.into sg xs os Fp) g' w d nd os iol).own b=Ll d (uO os nd) iol l:=fun b l hb hl=>by
    rw[←hb]; exact hback b (by rw[hb]; cases l<;>simp_all [gX,Loc.place])
  have hfz: ∀b,frz g' w' b→all (g.back (g.into sg xs os Fp) g' w d nd os iol) w' b∧(sg.ext=true→(g.back (g.into sg xs os Fp) g' w d nd os iol).own b= .none):=fun b hb=>by
    have hf:gX (g'.own b)=true:=by rw[hb.2]; rfl
    have e:(g.back (g.into sg xs os Fp) g' w d nd os iol).own b=if b<w.heap.size∧gX ((g.into sg xs os Fp).own b)=true then g.own b else .none:=by
      simp only[G.back]; rw[z19 hf,hb.2]
    by_cases ho:b<w.heap.size∧gX ((g.into sg xs os Fp).own b)=true
    · rw[z19 ho]at e
      obtain⟨h1,_,_⟩:=hfor b ho.1 ho.2; rw[hb.2]at h1; have hn: ¬ Fp b:=fun hf=>by
        simp only[G.into]at h1; rw[z19 hf]at h1; cases h1
      rw[jS hn]at h1; have hno: ∀o,g.own b≠ .obj o:=fun o eo=>by
        rw[eo]at h1; simp only[jQ]at h1; split at h1<;>cases h1
      refine⟨⟨hb.1,fun o=>by rw[e]; exact hno o⟩,fun he=> ?_⟩
      rw[e]; cases hg:g.own b with
      | none=>rfl
      | ext=>rw[hg]at h1; simp [jQ,sY,he]at h1
      | obj o=>exact absurd hg (hno o)
      | s t k j=>
        rw[hg]at h1; simp only[jQ,sY,he]at h1
        (repeat' split at h1)<;>simp_all
      | oc o j=>
        rw[hg]at h1; simp only[jQ,sY,he]at h1
        (repeat' split at h1)<;>simp_all
    · rw[z14 ho]at e
      exact⟨⟨hb.1,fun o=>by rw[e]; simp⟩,fun _=>e⟩
  have hβ1: ∀o,nd≠some o→(g.back (g.into sg xs os Fp) g' w d nd os iol).β o=g.β o:=fun o h=>by simp only[G.back,z14 h]
  have hβ2: ∀oc o,uO os nd oc=some o→(g.back (g.into sg xs os Fp) g' w d nd os iol).β o=g'.β oc:=by
    intro oc o h; simp only[uO]at h; split at h
    · rename_i hp
      have hm:o∈os:=z20 h; have h2:=hc.bp oc hp; have h3:(g.into sg xs os Fp).β oc=g.β o:=by simp [G.into,OB,hp,h]
      rw[hβ1 o (fun e=>(hnd o e).2 hm),h2,h3]
    · split at h
      · rename_i h0
        subst h0; simp only[G.back,z19 h]
      · cases h
  have hkeep: ∀m,m.place=true→(∀b,g.own b=m→gX ((g.into sg xs os Fp).own b)=true)→ ∀b,g.own b=m→(g.back (g.into sg xs os Fp) g' w d nd os iol).own b=m∧w'.heap[b]? =w.heap[b]? :=fun m hm h b hb=>by
    have hlt:b<w.heap.size:=hs.ok.own b (by rw[hb]; exact(Loc.place_ne hm).1)
    obtain⟨_,h2,h3⟩:=hfor b hlt (h b hb); exact⟨h2.trans hb,h3⟩
  have hZ: ∀b,frz g w b→frz (g.back (g.into sg xs os Fp) g' w d nd os iol) w' b∧w'.heap[b]? =w.heap[b]? :=fun b hb=>by
    obtain⟨_,h2,h3⟩:=hfor b hb.1 (hinto b (.inl hb.2)).1; exact⟨⟨z63 hb.1 hc.framed.evo.size,h2.trans hb.2⟩,h3⟩
  have hVk:(∃m,st.fl m= .V)→ ∀b,all g w b→all (g.back (g.into sg xs os Fp) g' w d nd os iol) w' b∧w'.heap[b]? =w.heap[b]? :=fun⟨m,hm⟩ b hb=>by
    rcases hV with h | ⟨h1,h2⟩
    · exact absurd hm (h m)
    · have hf:gX ((g.into sg xs os Fp).own b)=true:=by
        rw[jS (h2 b)]; cases hg:g.own b with
        | obj o=>exact absurd hg (hb.2 o)
        | none=>rfl
        | ext=>simp only[jQ,sY]; split<;>rfl
        | s t k j=>
          simp only[jQ]; have hr:gX (sY sg.ext)=true:=by unfold sY; split<;>rfl
          split
          · rw[z14 (by rw[h1]; simp)]; exact hr
          · exact hr
        | oc o j=>
          simp only[jQ]; have hr:gX (sY sg.ext)=true:=by unfold sY; split<;>rfl
          split
          · rw[z14 (by rw[h1]; simp)]; exact hr
          · exact hr
      obtain⟨_,q2,q3⟩:=hfor b hb.1 hf; exact⟨⟨z63 hb.1 hc.framed.evo.size,fun o=>by rw[q2]; exact hb.2 o⟩,q3⟩
  have hlf: ∀m x u,st.at m=some x→LF g w (st.fl m) m u x→LF (g.back (g.into sg xs os Fp) g' w d nd os iol) w' (st.fl m) m u x:=fun m x u hm hf=>by
    have hmp:=at_isPlace hm; have hown:(st.fl m).hold=true→ ∀b,g.own b=m→(g.back (g.into sg xs os Fp) g' w d nd os iol).own b=m∧w'.heap[b]? =w.heap[b]? :=fun hk=>by
      obtain⟨q1,q2⟩:=hhold m x hk hm; exact hkeep m hmp (fun b hb=>by rw[jS (q2 b hb),hb]; exact q1)
    cases hκ:st.fl m with
    | D=>rw[hκ]at hf; exact fun hsc=>(hf hsc).scal hsc
    | V=>rw[hκ]at hf; exact Rd.mono (hVk ⟨m,hκ⟩) hf
    | F=>rw[hκ]at hf; exact Rd.mono hZ hf
    | A n=>rw[hκ]at hf; exact Ow.mono hf id (fun _=>hZ) (hown (by rw[hκ]; rfl))
    | U n=>rw[hκ]at hf; exact Ow.mono hf id (fun _=>hZ) (hown (by rw[hκ]; rfl))
    | S=>rw[hκ]at hf; exact⟨hf.1,hf.2.scal hf.1⟩
    | N=>rw[hκ]at hf; exact hf
  have hcpr: ∀i k zs b off,(st.sl i).comp k=some (.cp zs)→CpR g w (st.fl (.s i k 0)) b off zs→CpR (g.back (g.into sg xs os Fp) g' w d nd os iol) w' (st.fl (.s i k 0)) b off zs:=fun i k zs b off _ hr=>by
    have key: ∀ {Q Q':Nat→Prop},(∀b,Q b→Q' b∧w'.heap[b]? =w.heap[b]?)→(Q b∧ ∀(j:Nat) x,zs[j]? =some x→ ∃c,w.cell? ⟨b,off+j,none⟩=some c∧Rd Q w c x)→(Q' b∧ ∀(j:Nat) x,zs[j]? =some x→ ∃c,w'.cell? ⟨b,off+j,none⟩=some c∧Rd Q' w' c x):=by
      rintro Q Q' hq ⟨h1,h2⟩
      refine⟨(hq b h1).1,fun j x hx=> ?_⟩
      obtain⟨c,hc,hr⟩:=h2 j x hx; exact⟨c,(cN (hq b h1).2).trans hc,hr.mono hq⟩
    cases hκ:st.fl (.s i k 0)with
    | D=>trivial
    | V=>rw[hκ]at hr; exact key (hVk ⟨_,hκ⟩) hr
    | F=>rw[hκ]at hr; exact key hZ hr
    | _=>rw[hκ]at hr; exact hr.elim
  have hput: ∀i,d=some i→(a.put d v).tmps.getD i undef=v:=by
    intro i e; subst e; have hlt:i<a.tmps.size:=by rw[hs.size]; exact hd i rfl
    rw[Act.put_getD a i v i hlt,z19 rfl]
  have hβk: ∀o,nd≠some o→(g.back (g.into sg xs os Fp) g' w d nd os iol).β o=g.β o:=hβ1; have hobj: ∀o,rF os nd o=none→ ∀cells,st.ob o=some cells→(g.back (g.into sg xs os Fp) g' w d nd os iol).own (g.β o)= .obj o∧w'.heap[g.β o]? =w.heap[g.β o]? :=fun o hi cells hcl=>by
    obtain⟨hi1,_⟩:=EK hi; obtain⟨arr,ty,_,_,k3,_⟩:=hs.obs o cells hcl; have hlt:g.β o<w.heap.size:=hs.ok.own _ (by rw[k3]; simp)
    obtain⟨_,q2,q3⟩:=hfor _ hlt (hobjn o hi1 _ k3); exact⟨q2.trans k3,q3⟩
  refine⟨hs.framed.trans hF,⟨fun b hb=> ?_⟩, ?_, ?_,fun i=> ?_,fun o cells hcl=> ?_,fun i hi hf=> ?_,fun o ho=>(hβ1 o (fun e=>by have:=(hnd o e).1; omega)).trans (hs.bp o ho),hs.nle⟩
  · by_cases hlt:b<w.heap.size
    · exact z63 hlt hc.framed.evo.size
    · refine hc.ok.own b (fun e=>hb ?_)
      simp only[G.back]; rw[e,z19 (show gX Loc.none=true from rfl),z14 (fun h=>hlt h.1)]
  · cases d with
    | none=>exact hs.size
    | some d=>simp only[Act.put,z127]; exact hs.size
  · cases d<;>exact hs.defers
  · -- a slot
    show RV _ w' (fun k j=>if d=some i then(sg.bo.kd (.s 0 k j)).back sg.ext else if k=0∧j=0∧uR d nd os (aI (st.sl i))=true then .D else st.fl (.s i k j)) _ ((a.put d v).tmps.getD i undef) (if d=some i then(y.sl 0).to (uO os nd)else Ap nd (st.sl i))
    by_cases e:d=some i
    · simp only[z19 e]
      rw[hput i e]; have hr:=hc.slots 0; have hr:RV g' w' (fun k j=>sg.bo.kd (.s 0 k j)) (fun k j=> .s 0 k j) (us.getD 0 undef) (y.sl 0):=by
        have h2:(sg.bo.S 2 y).sl 0=y.sl 0:=rG hb0; rw[h2]at hr; exact hr
      rw[hv]at hr; refine hr.to hβ2 (fun k j t u _ _ _ hf=> ?_) (fun k zs _ b off hq=>hq.back (fun b hb=>(hfz b hb).1) (fun he b hb=>(hfz b hb).2 he))
      refine hf.back hc.ok rfl rfl (fun b hb=> ?_) (fun b hb=>(hfz b hb).1) (fun he b hb=>(hfz b hb).2 he)
      rw[hplace b _ hb rfl]; simp only[Ll,if_true,e]
    · simp only[z14 e]
      rw[pP a d v i e]; have hs1:=hs.slots i; have hfl: ∀k j t,(st.sl i).leaf k j=some t→(if k=0∧j=0∧uR d nd os (aI (st.sl i))=true then K.D else st.fl (.s i k j))=st.fl (.s i k j):=fun k j t ht=>by
        rw[z14]; rintro ⟨rfl,rfl,h3⟩
        rw[vN (st:=st) (i:=i) (x:=t) ht]at h3; cases h3
      have hflc: ∀k zs,(st.sl i).comp k=some (.cp zs)→(if k=0∧0=0∧uR d nd os (aI (st.sl i))=true then K.D else st.fl (.s i k 0))=st.fl (.s i k 0):=fun k zs hz=>by
        rw[z14]; rintro ⟨rfl,_,h3⟩
        cases hsl:st.sl i with
        | one w=>rw[hsl]at hz h3; simp only[V.comp,z10]at hz; subst hz; cases h3
        | tup ws=>rw[hsl]at h3; cases h3
      have plain:(∀o o',o=o'→nd≠some o→(g.back (g.into sg xs os Fp) g' w d nd os iol).β o'=g.β o):=fun o o' e h=>by subst e; exact hβ1 o h
      rcases Option.eq_none_or_eq_some nd with hn | ⟨z,hn⟩
      · have ek:Ap nd (st.sl i)=st.sl i:=by rw[hn]; rfl
        rw[ek]; exact hs1.map (fun o=>hβ1 o (by rw[hn]; simp)) (fun k j t u ht _ _ hf=>by rw[hfl k j t ht]; exact hlf (.s i k j) t u ht hf) (fun k zs hz b off hq=>by rw[hflc k zs hz]; exact hcpr i k zs b off hz hq)
      · have ek:Ap nd (st.sl i)=(st.sl i).kill z:=by rw[hn]; rfl
        rw[ek]; exact RV.kill (fun o ho=>hβ1 o (by rw[hn]; simpa using Ne.symm ho)) (fun k j t u ht _ _ hf=>by rw[hfl k j t ht]; exact hlf (.s i k j) t u ht hf) (fun k zs hz b off hq=>by rw[hflc k zs hz]; exact hcpr i k zs b off hz hq) hs1
  · -- an object
    have hcl':(match rF os nd o with | some oc=>(if sg.bo.hasO oc then y.ob oc else none) | none=>st.ob o)=some cells:=hcl
    cases hi:rF os nd o with
    | some oc=>
      rw[hi]at hcl'; have ho:=SU hi; obtain⟨arr,ty,k1,k2,k3,k4⟩:=hc.obs oc cells hcl'; rw[hβ2 oc o ho]; refine⟨arr,ty,k1,k2, ?_,fun j x hx=> ?_⟩
      · rw[hback _ (by rw[k3]; rfl),k3]; simp only[Ll,ho]
      · obtain⟨c,c1,c2,c3⟩:=k4 j x hx
        refine⟨c,c1,c2, ?_⟩
        have e1:(st.call d nd os sg.ext sg.bo y).fl (.oc o j)=(sg.bo.kd (.oc oc j)).back sg.ext:=by simp only[St.call,hi]
        rw[e1]; refine LF.back (l:= .oc oc j) hc.ok rfl rfl c3 (fun b hb=> ?_) (fun b hb=>(hfz b hb).1) (fun he b hb=>(hfz b hb).2 he)
        rw[hplace b _ hb rfl]; simp only[Ll,ho]
    | none=>
      rw[hi]at hcl'; have hcl':st.ob o=some cells:=hcl'; obtain⟨hi1,hi2⟩:=EK hi; obtain⟨arr,ty,k1,k2,k3,k4⟩:=hs.obs o cells hcl'; obtain⟨m1,m2⟩:=hobj o hi cells hcl'; rw[hβ1 o hi2]; refine⟨arr,ty,m2.trans k1,k2,m1,fun j x hx=> ?_⟩
      obtain⟨c,c1,c2,c3⟩:=k4 j x hx; refine⟨c,c1,c2, ?_⟩
      have e1:(st.call d nd os sg.ext sg.bo y).fl (.oc o j)=st.fl (.oc o j):=by simp only[St.call,hi]
      rw[e1]; exact hlf (.oc o j) x c (by rw[St.at_oc,hcl']; exact hx) c3
  · -- a place's part
    have hsl:(st.call d nd os sg.ext sg.bo y).sl i=if d=some i then(y.sl 0).to (uO os nd)else Ap nd (st.sl i):=rfl
    rw[hsl]at hi ⊢; by_cases e:d=some i
    · rw[z19 e]at hi; exact absurd V.to_root hi
    · rw[z14 e]at hi ⊢
      rw[NT]at hi ⊢; have hfe:(st.call d nd os sg.ext sg.bo y).fl (.s i 0 0)=if uR d nd os (aI (st.sl i))=true then .D else st.fl (.s i 0 0):=by simp only[St.call,z14 e,Nv]
      rw[hfe]at hf; have hri:uR d nd os (aI (st.sl i))=false:=by
        cases h:uR d nd os (aI (st.sl i))with
        | false=>rfl
        | true=>rw[h]at hf; exact absurd rfl hf
      rw[hri]at hf; simp only[z54,if_false]at hf; obtain⟨p1,p2⟩:=hs.pls i hi hf; obtain⟨t,ht⟩:=p2.root hi; rw[pP a d v i e]; have hkill:Ga (st.call d nd os sg.ext sg.bo y) (a.put d v).tmps (g.back (g.into sg xs os Fp) g' w d nd os iol).β w' (a.tmps.getD i undef) (st.sl i)∧((st.call d nd os sg.ext sg.bo y).fl (aI (st.sl i))).hold=true:=by
        have hheap:=hlf; have hpl: ∀v0 x0 p v' x',vAt a.tmps g.β w (aI (st.sl i))=some v0→st.at (aI (st.sl i))=some x0→Pl w v0 x0 p v' x'→Pl w' v0 x0 p v' x':=fun v0 x0 p v' x' e1 e2 hp=>by
          obtain⟨u,q1,_,q2⟩:=hs.get ht; rw[e1]at q1; cases q1; rw[ht]at e2; cases e2; obtain⟨r1,r2⟩:=hhold _ t p1 ht; have hown:=hkeep _ (at_isPlace ht) (fun b hb=>by rw[jS (r2 b hb),hb]; exact r1)
          generalize st.fl (aI (st.sl i))=κ at p1 q2; cases κ with
          | A n=>exact Ow.pl q2 (fun b hb=>(hZ b hb).2) (fun b hb=>(hown b hb).2) hp
          | U n=>exact Ow.pl q2 (fun b hb=>(hZ b hb).2) (fun b hb=>(hown b hb).2) hp
          | _=>simp [K.hold]at p1
        generalize hr:aI (st.sl i)=m at*; cases m with
        | s i' k j=>
          have hne:d≠some i':=by simpa [uR]using hri
          have hflr:(st.call d nd os sg.ext sg.bo y).fl (.s i' k j)=st.fl (.s i' k j):=by
            simp only[St.call,z14 hne]; rw[z14]; rintro ⟨rfl,rfl,h3⟩
            rw[vN ht]at h3; cases h3
          refine⟨p2.congr ?_ ?_ (by rw[hr]; exact hpl),by rw[hflr]; exact p1⟩
          · rw[hr]; simp only[vAt]; rw[pP a d v i' hne]
          · rw[hr]
            show((st.call d nd os sg.ext sg.bo y).sl i').leaf k j=(st.sl i').leaf k j; simp only[St.call,z14 hne,NU]
        | oc o j=>
          have hin:rF os nd o=none:=by simpa [uR]using hri
          obtain⟨_,hn2⟩:=EK hin; have hflr:(st.call d nd os sg.ext sg.bo y).fl (.oc o j)=st.fl (.oc o j):=by simp only[St.call,hin]
          obtain⟨cells,hcl,_⟩: ∃cells,st.ob o=some cells∧True:=by
            rw[St.at_oc,z22]at ht; obtain⟨cells,hcl,_⟩:=ht; exact⟨cells,hcl,trivial⟩
          refine⟨p2.congr ?_ ?_ (by rw[hr]; exact hpl),by rw[hflr]; exact p1⟩
          · rw[hr]; simp only[vAt]; rw[hβ1 o hn2]; exact cN (hobj o hin cells hcl).2
          · rw[hr,St.at_oc,St.at_oc]; simp only[St.call,hin]
        | _=>simp [St.at,atL]at ht
      refine⟨hkill.2, ?_⟩
      cases nd with
      | none=>exact hkill.1
      | some z=>exact hkill.1.kill
end Go.Own

namespace Go.Own
open Go.RowKit

def OpW(P:Program)(g0:G)(w0:World)(o:Oper)(st st':St):Prop:= ∀(Q:Exit→Act→World→Prop) (K:Act→World→Prop) a w,Sim g0 w0 st a w→(∀v w',Sim g0 w0 st' (a.put o.dst v) w'→K (a.put o.dst v) w')→o.wp P a w K Q

theorem pW.w{P:Program}{g0:G}{w0:World}{o:Oper}{st st':St}(h:pW P g0 w0 o st st'):OpW P g0 w0 o st st':=by
 intro Q K a w hs hK; obtain⟨r,w',hr,h⟩:=h a w hs; unfold Oper.wp; rw[hr]; rcases h with⟨v,rfl,h⟩ | ⟨rfl,h⟩
 ·exact hK _ _ h
 ·exact hK _ _ h

theorem OpW.relax{P:Program}{g0:G}{w0:World}{o:Oper}{st s t:St}(h:OpW P g0 w0 o st s)(hle: ∀a w,Sim g0 w0 s a w→Sim g0 w0 t a w):OpW P g0 w0 o st t:=fun Q K a w hs hK=>h Q K a w hs (fun v w' hs'=>hK v w' (hle _ _ hs'))

def St.drop(st:St)(q:Loc→Bool):St:=st.setf q (fun m=>if q m then .D else st.fl m)

theorem cC.drop{g0:G}{w0:World}{st:St}{a:Act}{g:G}{w:World}(h:cC g0 w0 st a g w)(q:Loc→Bool)(hq:q .none=false):cC g0 w0 (st.drop q) a g w:=by
 refine h.setf hq (fun _=>rfl) h.ok (fun _ _=>rfl) (fun _ _ h=>h) (fun _ h=>h) (fun m x v hx hv hf=> ?_) (fun i k xs b off hcx hc=> ?_) (fun i hi hR hf=> ?_)
 ·by_cases e:q m=true
  ·rw[z19 e]; exact hf.lo (κ':= .D) h.ok (at_isPlace hx) (Ik _)
  ·rw[z14 e]; exact hf
 ·by_cases e:q (.s i k 0)=true
  ·rw[z19 e]; trivial
  ·rw[z14 e]; exact hc
 ·refine⟨fun e=>hf (by split; rfl; exact e),fun hh=> ?_⟩
  rw[z14 (by rw[hR]; simp)]; exact hh

theorem Do{st:St}{q:Loc→Bool}(hq:q .none=false){m:Loc}{x:T}(hx:st.at m=some x):(st.drop q).fl m=if q m=true then .D else st.fl m:=xX (f:=fun m=>if q m=true then K.D else st.fl m) hq hx

def CF(sg:Sg):Bool:=sg.bi.sl.all (fun p=>p.2.all fun r=>r.all fun q=> !q.hold)&&sg.bi.ob.all (fun p=>p.2.all fun q=> !q.hold)

theorem iJ{α:Type}{i:Nat}{x:α}: ∀ {l:List (Nat×α)},dK i l=some x→(i,x)∈l
 | [],h=>by cases h
 | (j,a)::r,h=>by
  simp only[dK]at h; cases e:Nat.beq i j with
  | true=>rw[e]at h; simp only[z15,z10]at h; have:=z16 e; subst this; subst h; exact z34
  | false=>rw[e]at h; exact z29 _ (iJ h)

theorem HY{sg:Sg}(h:CF sg=true)(l:Loc):(sg.bi.kd l).hold=false:=by
 simp only[CF,z7]at h; cases l with
 | s i k j=>
  simp only[B.kd,B.get]; cases hl:dK i sg.bi.sl with
  | none=>rfl
  | some κ=>
   simp only[CU]; cases hr:κ[k]? with
   | none=>rfl
   | some r=>
    cases hq:r[j]? with
    | none=>simp [hq,K.hold]
    | some q=>
     have:=z18.1 (z18.1 (z18.1 h.1 _ (iJ hl)) r (bV hr)) q (bV hq); simp only[hq]; simpa using this
 | oc o j=>
  simp only[B.kd,B.get]; cases hl:dK o sg.bi.ob with
  | none=>rfl
  | some r=>
   cases hq:r[j]? with
   | none=>simp [hq,K.hold]
   | some q=>
    have:=z18.1 (z18.1 h.2 _ (iJ hl)) q (bV hq); simp only[hq]; simpa using this
 | _=>rfl

def St.pre(st:St)(sg:Sg)(xs:List Operand)(os:List Nat):St:=(if CF sg=true then st else st.killV).drop (fun m=> !(gX (jQ sg xs os m))&& !(gX m))

theorem VU{P:Program}{g0:G}{w0:World}{st:St}{o:Oper}{c:Call}{x:Operand}{f:FuncId}{caps:List (Nat×Nat)}{sg:Sg}{vs:List V}{ob ob':List (List T)}{r:V}{nw:Option (List T)}{os:List Nat}{nd:Option Nat}
  (ho:o.op= .call c)(hcal:c.callee= .value x)(hx:ev st.sl x= .one (.fn f caps))(hC:TC P f sg vs ob r none ob' nw)(hsg:sg.io=none)(hd: ∀i,o.dst=some i→i<st.n)(hnd: ∀o,nd=some o→o<par∧o ∉ os)
  (hos:os.Nodup)(hnp:sg.np=vs.length)(hle:sg.np≤par)(hb0:sg.bo.has 0=true)(hno:sg.ext=false→CF sg=true)
  (hvs:vs=c.args.toList.map (fun v=>(evR st v).to (pF os))++caps.map (fun c=>(V.one (.ptr c.1 c.2)).to (pF os)))(hob:ob.map some=os.map st.ob)
  (harg: ∀(i:Nat) v,c.args.toList[i]? =some v→Lu st sg c.args.toList i v)(hobk: ∀o oc j,pF os o=some oc→(st.fl (.oc o j)).hand sg.ext (sg.bi.kd (.oc oc j))=true):
  OpW P g0 w0 o st ((st.pre sg c.args.toList os).call o.dst nd os sg.ext sg.bo (DR r none ob' nw)):=by
 intro Q K a w ⟨g,hs⟩ hK
 have he:=hs.enter (sg:=sg) (xs:=c.args.toList) (caps:=caps) (os:=os) (Fp:=fun _=>False) hos hnp hle (fun _ h=>h.elim) (fun he=>⟨HY (hno he),fun _ h=>h⟩) (fun _ _ _ _ _ _ _ _ h=>h) (fun _ _ _ _ _ _ _ h=>h) hvs hob
  (fun i v hv _=>harg i v hv) hobk (fun i v _ h=>by rw[hsg]at h; cases h)
 have hC:=hC _ _ _ he; have hfv:a.eval x= .func (.func f) #[] (caps.map fun c=>Value.pointer (some ⟨g.β c.1,c.2,none⟩)).toArray:=by
  have:=hs.ev_rv x (fun _ _=> .none)
  rw[hx]at this; exact this
 have hrun:(execOp a.eval o).run P w=(callFunc f (c.args.toList.map a.eval++caps.map fun c=>Value.pointer (some ⟨g.β c.1,c.2,none⟩)).toArray).run P w:=by
  obtain⟨dst,op,ty,pos,after,guard⟩:=o; simp only at ho; subst ho; simp only[execOp,resolve,hcal,hfv,Deferred.ofValue,Sem.run_bind,Sem.run_pure,Result.andThen_ok,invoke]; congr 2
  apply Nw
  simp
 have hq0:(fun m=> !(gX (jQ sg c.args.toList os m))&& !(gX m)) Loc.none=false:=by simp [gX]
 have hs2:cC g0 w0 (st.pre sg c.args.toList os) a g w:=by
  unfold St.pre; by_cases hp:CF sg=true
  ·rw[z19 hp]; exact hs.drop _ hq0
  ·rw[z14 hp]; exact hs.killV.drop _ hq0
 have key: ∀v w',(∃g',cC (g.into sg c.args.toList os (fun _=>False)) w (sg.bo.S 2 (DR r none ob' nw)) ⟨#[v,(c.args.toList.map a.eval++caps.map fun c=>Value.pointer (some ⟨g.β c.1,c.2,none⟩)).toArray.getD (sg.io.getD 0) undef],[]⟩ g' w')→
   Sim g0 w0 ((st.pre sg c.args.toList os).call o.dst nd os sg.ext sg.bo (DR r none ob' nw)) (a.put o.dst v) w':=by
  rintro v w' ⟨g',h1⟩
  refine⟨_,hs2.leave (iol:= .ext) hos (by unfold St.pre; split<;>exact hd) hnd (fun _ h=>h.elim) ⟨by simp,by simp⟩ h1 rfl hb0 (fun m z hh hm=>⟨?_,fun _ _ h=>h⟩) ?_⟩
  ·cases hq:gX (jQ sg c.args.toList os m)with
   | true=>rfl
   | false=>
    exfalso
    have hmp:gX m=false:=by
     have:=at_isPlace hm; cases m<;>first | rfl | cases this
    have hm1:(if CF sg=true then st else st.killV).at m=some z:=by unfold St.pre at hm; exact hm
    unfold St.pre at hh; rw[Do hq0 hm1,hq,hmp]at hh; simp [Own.K.hold]at hh
  ·by_cases hp:CF sg=true
   ·exact .inr ⟨HY hp,fun _ h=>h⟩
   ·left
    intro m; unfold St.pre; rw[z14 hp]; refine rZ (fun m=> ?_) m
    split
    ·simp
    ·exact tD st m
 unfold Oper.wp; rw[hrun]; revert hC
 generalize (callFunc f _).run P w=r; intro hC; unfold sL at hC; split at hC
 ·exact hK _ _ (key _ _ hC)
 ·rw[Oper.upon_enter]
  refine Calls.mono hC ?_
  rintro e w' ⟨v,rfl,h⟩
  exact hK _ _ (key _ _ h)
 ·exact hC.elim
end Go.Own

namespace Go.Own
open Go.RowKit

def D.call(x:D)(d nd:Option Nat)(os:List Nat)(y:D):D:=
  { sl:=fun i=>if d=some i then(y.sl 0).to (uO os nd)else x.sl i
    ob:=fun o=>match rF os nd o with | some oc=>y.ob oc | none=>x.ob o }

def dS(os:List Nat)(nd:Option Nat):List Nat:=os++(match nd with | some o=> [o] | none=> [])
def LS{α:Type}(f:Nat→Option α):List Nat→List (Nat×α)
  | []=> []
  | o::r=>match f o with | some a=>(o,a)::LS f r | none=>LS f r

theorem JK{α:Type}(f:Nat→Option α)(o:Nat): ∀l:List Nat,dK o (LS f l)=if o∈l then f o else none
  | []=>by simp [LS,dK]
  | z::r=>by
    have ih:=JK f o r; simp only[LS,Qg]; cases hf:f z with
    | none=>
      simp only; rw[ih]; by_cases e:o=z
      · subst e; simp [hf]
      · simp [e]
    | some a=>
      simp only[dK]; by_cases e:o=z
      · subst e; simp [hf,z42]
      · rw[dQ e]; simp only[z11,ih,e,false_or]

theorem zG{α:Type}(o:Nat): ∀(l r:List (Nat×α)),dK o (l++r)=match dK o l with | some a=>some a | none=>dK o r
  | [],r=>rfl
  | (j,a)::l,r=>by
    simp only[z84,dK]; cases Nat.beq o j with
    | true=>rfl
    | false=>exact zG o l r

theorem tM{os:List Nat}{nd:Option Nat}{o:Nat}:(rF os nd o).isSome=true↔o∈dS os nd:=by
  simp only[rF,dS,z91]; by_cases h:o∈os
  · simp [h]
  · rw[z14 h]
    cases nd with
    | none=>simp [h]
    | some z=>
      by_cases e:z=o
      · subst e; simp
      · simp [h,e,Ne.symm e]

def Dj(sg:Sg)(os:List Nat)(nd:Option Nat)(o:Nat):Option (List K):=match rF os nd o with
  | some oc=>(dK oc sg.bo.ob).map fun r=>r.map (K.back sg.ext)
  | none=>none

def Np(F:FA)(d nd:Option Nat)(os:List Nat)(i:Nat):Bool:= !(decide (d=some i))&& !(uR d nd os (aI (F.shOf i)))&& !(match nd with | some z=>Tk z (F.shOf i) | none=>false)

def B.call(F:FA)(b:B)(d nd:Option Nat)(os:List Nat)(sg:Sg):B:=
  { sl:=(match d with | some d=> [(d,qM (F.shOf d) (fun k j=>(sg.bo.kd (.s 0 k j)).back sg.ext))] | none=> [])++b.sl.filter (fun q=>Np F d nd os q.1)
    ob:=LS (Dj sg os nd) (dS os nd)++b.ob.filter (fun q=>(rF os nd q.1).isNone) }

theorem EO{F:FA}{b:B}{d nd:Option Nat}{os:List Nat}{sg:Sg}(i:Nat):dK i (b.call F d nd os sg).sl=if d=some i then some (qM (F.shOf i) (fun k j=>(sg.bo.kd (.s 0 k j)).back sg.ext))else if Np F d nd os i=true then dK i b.sl else none:=by
  simp only[B.call]; rw[zG,fN (Np F d nd os) i b.sl]; cases d with
  | none=>simp [dK]
  | some z=>
    simp only[dK]; by_cases e:i=z
    · subst e; simp [z42]
    · rw[dQ e]; simp [Ne.symm e]

theorem Bi{F:FA}{b:B}{d nd:Option Nat}{os:List Nat}{sg:Sg}(o:Nat):dK o (b.call F d nd os sg).ob=match rF os nd o with | some _=>Dj sg os nd o | none=>dK o b.ob:=by
  simp only[B.call]; rw[zG,JK,fN (fun o=>(rF os nd o).isNone) o b.ob]
  cases h:rF os nd o with
  | none=>
    have:o ∉ dS os nd:=fun hm=>by have:=tM.2 hm; rw[h]at this; cases this
    simp [this]
  | some oc=>
    have:o∈dS os nd:=tM.1 (by rw[h]; rfl)
    rw[z19 this]; cases Dj sg os nd o<;>simp

theorem uH{F:FA}{b:B}{d nd:Option Nat}{os:List Nat}{sg:Sg}{i:Nat}(hi:d≠some i)(h:(b.call F d nd os sg).has i=true):b.has i=true∧Np F d nd os i=true:=by
  simp only[B.has,EO,z14 hi]at h; split at h
  · rename_i e; exact⟨h,e⟩
  · cases h

theorem EP{F:FA}{b:B}{d nd:Option Nat}{os:List Nat}{sg:Sg}{o:Nat}:(b.call F d nd os sg).hasO o=match rF os nd o with | some oc=>sg.bo.hasO oc | none=>b.hasO o:=by
  simp only[B.hasO,Bi]; cases h:rF os nd o with
  | none=>rfl
  | some oc=>
    simp only[Dj,h]; cases dK oc sg.bo.ob<;>rfl

def bI(F:FA)(x:D)(d nd:Option Nat)(os:List Nat):Bool:=(match d with | some d=>fits (x.sl d) (F.shOf d) | none=>true)&&(dS os nd).all fun o=>match x.ob o with | some cs=>fY cs (F.obOf o) | none=>false

section
variable {P:Program} {τ:TypeId→Option TI} {F:FA} {o:Oper} {b b':B} {x x':D}

theorem Ag.call(hA:Ag F b x){d nd:Option Nat}{os:List Nat}{sg:Sg}{y:D}(h:bI F (x.call d nd os y) d nd os=true):Ag F (b.call F d nd os sg) (x.call d nd os y):=by
  simp only[bI,z7]at h; refine⟨fun i hi=> ?_,fun o ho=> ?_⟩
  · by_cases e:d=some i
    · subst e
      exact .inr h.1
    · have:=hA.sl i (uH e hi).1
      simpa [D.call,e]using this
  · rw[EP]at ho
    cases hi:rF os nd o with
    | some oc=>
      have hm:o∈dS os nd:=tM.1 (by rw[hi]; rfl)
      have:=z18.1 h.2 o hm; split at this
      · rename_i cs hcs; exact⟨cs,hcs,this⟩
      · cases this
    | none=>
      rw[hi]at ho; obtain⟨cs,h1,h2⟩:=hA.ob o ho; exact⟨cs,by simp only[D.call,hi]; exact h1,h2⟩

theorem Mm{n:Nat}{s:St}(hA:Ag F b x)(h:Low n b x s){d nd:Option Nat}{os:List Nat}{sg:Sg}{y:D}(hf: ∀i,d=some i→fits ((y.sl 0).to (uO os nd)) (F.shOf i)=true):
    Low n (b.call F d nd os sg) (x.call d nd os y) (s.call d nd os sg.ext sg.bo y):=by
  have hroot: ∀i,d≠some i→(b.call F d nd os sg).has i=true→uR d nd os (aI (s.sl i))=false∧Ap nd (s.sl i)=s.sl i:=fun i e hi=>by
    obtain⟨h1,h2⟩:=uH e hi; simp only[Np,z7,z38]at h2; rw[h.sl i h1]; rcases hA.sl i h1 with e2 | e2
    · rw[e2]
      refine⟨rfl, ?_⟩
      cases nd<;>rfl
    · rw[eP e2]
      refine⟨h2.1.2, ?_⟩
      cases nd with
      | none=>rfl
      | some z=>exact JF (JV e2 h2.2)
  have hkd: ∀i k j,d≠some i→(b.call F d nd os sg).has i=true→(b.call F d nd os sg).kd (.s i k j)=b.kd (.s i k j):=fun i k j e hi=>by
    simp only[B.kd,B.get,EO,z14 e,(uH e hi).2,if_true]
  have hkd0: ∀i k j,d=some i→(b.call F d nd os sg).get (.s i k j)=CU (qM (F.shOf i) (fun k j=>(sg.bo.kd (.s 0 k j)).back sg.ext)) k j:=fun i k j e=>by
    simp only[B.get,EO,z19 e]
  have hfl: ∀i k j,d≠some i→(b.call F d nd os sg).has i=true→(s.call d nd os sg.ext sg.bo y).fl (.s i k j)=s.fl (.s i k j):=fun i k j e hi=>by
    simp only[St.call,z14 e]; rw[z14]; rintro ⟨_,_,h3⟩
    rw[(hroot i e hi).1]at h3; cases h3
  have hfl0: ∀i k j,d=some i→(s.call d nd os sg.ext sg.bo y).fl (.s i k j)=(sg.bo.kd (.s 0 k j)).back sg.ext:=fun i k j e=>by simp only[St.call,z19 e]
  refine⟨h.n,fun i hi=> ?_,fun o ho=> ?_,fun l t hL ht=> ?_,fun i k zs hi hx=> ?_,fun i hi hr hk=> ?_⟩
  · by_cases e:d=some i
    · simp only[St.call,D.call,z19 e]
    · simp only[St.call,D.call,z14 e]
      rw[(hroot i e hi).2]; exact h.sl i (uH e hi).1
  · rw[EP]at ho
    cases hi:rF os nd o with
    | some oc=>
      rw[hi]at ho; have ho:sg.bo.hasO oc=true:=ho; simp only[St.call,D.call,hi]; rw[z19 ho]
    | none=>
      rw[hi]at ho; simp only[St.call,D.call,hi]; exact h.ob o ho
  · cases l with
    | s i k j=>
      by_cases e:d=some i
      · have ht':((y.sl 0).to (uO os nd)).leaf k j=some t:=by simpa [D.at,atL,D.call,e]using ht
        rw[hfl0 i k j e]; simp only[B.kd,hkd0 i k j e]; rw[CP (hf i e) _ ht']; exact dR _
      · rw[hfl i k j e hL,hkd i k j e hL]
        exact h.fl (.s i k j) t (uH e hL).1 (by simpa [D.at,atL,D.call,e]using ht)
    | oc o j=>
      have hL':(b.call F d nd os sg).hasO o=true:=hL; rw[EP]at hL'; cases hi:rF os nd o with
      | some oc=>
        have e1:(s.call d nd os sg.ext sg.bo y).fl (.oc o j)=(sg.bo.kd (.oc oc j)).back sg.ext:=by simp only[St.call,hi]
        rw[e1]; have e2:(b.call F d nd os sg).get (.oc o j)=(sg.bo.get (.oc oc j)).map (K.back sg.ext):=by
          simp only[B.get,Bi,hi,Dj]; cases dK oc sg.bo.ob with
          | none=>rfl
          | some r=>simp only[z36,z30]
        simp only[B.kd,e2]; cases sg.bo.get (.oc oc j)with
        | none=>exact Ik _
        | some q=>exact dR _
      | none=>
        rw[hi]at hL'; have e1:(s.call d nd os sg.ext sg.bo y).fl (.oc o j)=s.fl (.oc o j):=by simp only[St.call,hi]
        have e2:(b.call F d nd os sg).kd (.oc o j)=b.kd (.oc o j):=by simp only[B.kd,B.get,Bi,hi]
        rw[e1,e2]; exact h.fl (.oc o j) t hL' (by simpa [D.at,atL,D.call,hi]using ht)
    | _=>cases hL
  · by_cases e:d=some i
    · have hx':((y.sl 0).to (uO os nd)).comp k=some (.cp zs):=by simpa [D.call,e]using hx
      rw[hfl0 i k 0 e]; simp only[B.kd,hkd0 i k 0 e]; rw[Gl (hf i e) _ hx']; exact dR _
    · rw[hfl i k 0 e hi,hkd i k 0 e hi]
      exact h.cp i k zs (uH e hi).1 (by simpa [D.call,e]using hx)
  · by_cases e:d=some i
    · exfalso
      apply hr
      simp only[D.call,z19 e]; exact V.to_root
    · rw[hfl i 0 0 e hi]
      rw[hkd i 0 0 e hi]at hk; exact h.al i (uH e hi).1 (by simpa [D.call,e]using hr) hk

def Mq(sg:Sg)(xs:List Operand)(os:List Nat)(m:Loc):Bool:= !(gX (jQ sg xs os m))&& !(gX m)
def B.pre(F:FA)(b:B)(sg:Sg)(xs:List Operand)(os:List Nat):B:=(if CF sg=true then b else b.killV F).setf F (Mq sg xs os) (fun m q=>if Mq sg xs os m=true then .D else q)

theorem MW{n:Nat}{m:Loc}(hm:(b.killV F).hasL m=true):(b.killV F).kd m= .D∨(b.killV F).kd m=(b.S n x).killV.fl m:=by
  have e:(b.S n x).killV.fl m=if b.kd m= .V then .D else b.kd m:=by
    cases m with
    | s i k j=>simp only[St.killV,St.setf]; rw[z14 (by simp)]; rfl
    | _=>rfl
  rw[e]; have hg:(b.killV F).get m=(b.get m).map fun q=>if q= .V then .D else q:=wB hm
  unfold B.kd; rw[hg]; cases b.get m with
  | none=>exact .inl rfl
  | some q=>exact .inr rfl

theorem Ag.pre(hA:Ag F b x)(sg:Sg)(xs:List Operand)(os:List Nat):Ag F (b.pre F sg xs os) x:=by
  unfold B.pre; split
  · exact hA.setf _ _
  · exact Ag.setf (hA.setf _ _) _ _

theorem On{n:Nat}(hA:Ag F b x)(sg:Sg)(xs:List Operand)(os:List Nat):Low n (b.pre F sg xs os) x ((b.S n x).pre sg xs os):=by
  have h0:Mq sg xs os .none=false:=by simp [Mq,gX]
  have hA1:Ag F (b.killV F) x:=hA.setf _ _; unfold B.pre St.pre St.drop; by_cases hp:CF sg=true
  · rw[z19 hp,z19 hp]
    exact kQ (R:=Mq sg xs os) (f:=fun m=>if Mq sg xs os m=true then .D else(b.S n x).fl m) hA (Low.self n b x) h0 (fun m _ _=>dR _) (fun i _ _ hf=>hf)
  · rw[z14 hp,z14 hp]
    refine kQ (b:=b.killV F) (s:=(b.S n x).killV) (R:=Mq sg xs os) (f:=fun m=>if Mq sg xs os m=true then .D else(b.S n x).killV.fl m) hA1 (EJ hA) h0 (fun m hm _=> ?_) (fun i hi _ hf=> ?_)
    · rcases MW (x:=x) (n:=n) hm with e | e
      · rw[e]
        have:(if Mq sg xs os m=true then K.D else K.D)= .D:=by split<;>rfl
        rw[this]; exact Ik _
      · rw[e]; exact dR _
    · rcases MW (x:=x) (n:=n) (m:= .s i 0 0) hi with e | e
      · rw[e]at hf
        have:(if Mq sg xs os (.s i 0 0)=true then K.D else K.D)= .D:=by split<;>rfl
        exact absurd this hf
      · rw[e]at hf; exact hf
end
end Go.Own

namespace Go.Own
open Go.RowKit

def sF(ext:Bool)(f:Nat→K):Nat→List K→Bool
 | _,[]=>true
 | j,q::r=>(f j).hand ext q&&sF ext f (j+1) r
def AK(ext:Bool)(f:Nat→Nat→K):Nat→List (List K)→Bool
 | _,[]=>true
 | k,q::r=>sF ext (f k) 0 q&&AK ext f (k+1) r

theorem xC{ext:Bool}{f:Nat→K}: ∀ {l:List K} {j0:Nat},sF ext f j0 l=true→ ∀ {j:Nat} {q:K},l[j]? =some q→(f (j0+j)).hand ext q=true
 | [],_,_,j,q,h=>by simp at h
 | p::r,j0,h,0,q,h2=>by
  simp only[sF,z7]at h; simp only[z24,z10]at h2
  subst h2; exact h.1
 | p::r,j0,h,j+1,q,h2=>by
  simp only[sF,z7]at h; simp only[z25]at h2
  have:=xC h.2 h2; rwa[show j0+1+j=j0+(j+1)by omega]at this
theorem Ec{ext:Bool}{f:Nat→Nat→K}: ∀ {l:List (List K)} {k0:Nat},AK ext f k0 l=true→ ∀ {k:Nat} {r:List K},l[k]? =some r→sF ext (f (k0+k)) 0 r=true
 | [],_,_,k,q,h=>by simp at h
 | p::r,k0,h,0,q,h2=>by
  simp only[AK,z7]at h; simp only[z24,z10]at h2
  subst h2; exact h.1
 | p::r,k0,h,k+1,q,h2=>by
  simp only[AK,z7]at h; simp only[z25]at h2
  have:=Ec h.2 h2; rwa[show k0+1+k=k0+(k+1)by omega]at this

def Ld(sg:Sg)(f:Nat→Nat→K)(i:Nat):Bool:=match dK i sg.bi.sl with | some κ=>AK sg.ext f 0 κ | none=>true
theorem He{sg:Sg}{f:Nat→Nat→K}{i:Nat}(h:Ld sg f i=true)(k j:Nat):(f k j).hand sg.ext (sg.bi.kd (.s i k j))=true:=by
 unfold Ld at h; simp only[B.kd,B.get]; cases hl:dK i sg.bi.sl with
 | none=>rfl
 | some κ=>
  rw[hl]at h; simp only[CU]; cases hr:κ[k]? with
  | none=>rfl
  | some r=>
   cases hq:r[j]? with
   | none=>simp only[hq]; rfl
   | some q=>
    have h1:=Ec h hr; have h2:=xC h1 hq; simp only[z28]at h2; simp only[hq]; exact h2

def RB(sg:Sg)(f:Nat→K)(oc:Nat):Bool:=match dK oc sg.bi.ob with | some r=>sF sg.ext f 0 r | none=>true
theorem SX{sg:Sg}{f:Nat→K}{oc:Nat}(h:RB sg f oc=true)(j:Nat):(f j).hand sg.ext (sg.bi.kd (.oc oc j))=true:=by
 unfold RB at h; simp only[B.kd,B.get]; cases hl:dK oc sg.bi.ob with
 | none=>rfl
 | some r=>
  rw[hl]at h; cases hq:r[j]? with
  | none=>simp only[hq]; rfl
  | some q=>
   have h2:=xC h hq; simp only[z28]at h2; simp only[hq]; exact h2

def Ib(sg:Sg)(i:Nat):Bool:=match dK i sg.bi.sl with | some κ=>κ.all (fun r=>r.all fun q=> !q.hold) | none=>true
theorem JE{sg:Sg}{i:Nat}(h:Ib sg i=true)(k j:Nat):(sg.bi.kd (.s i k j)).hold=false:=by
 unfold Ib at h; simp only[B.kd,B.get]; cases hl:dK i sg.bi.sl with
 | none=>rfl
 | some κ=>
  rw[hl]at h; simp only[CU]; cases hr:κ[k]? with
  | none=>rfl
  | some r=>
   cases hq:r[j]? with
   | none=>simp only[hq]; rfl
   | some q=>
    have:=z18.1 (z18.1 h r (bV hr)) q (bV hq); simp only[hq]; simpa using this

def dfv:K→Bool
 | .D=>true
 | .F=>true
 | .V=>true
 | _=>false

def YD(F:FA)(b:B)(sg:Sg)(xs:List Operand)(i:Nat):Operand→Bool
 | .tmp t=>b.has t&&(match F.shOf t with
  | .one (.al l _)=>(match l with | .none=>false | _=>true)&&b.hasL l&& !(decide (b.kd (.s t 0 0)= .D))&&K.V.hand sg.ext (sg.bi.kd (.s i 0 0))
  | .one (.pp _ _ _ _)=>true
  | .one (.cp _)=>Ld sg (fun k j=>b.kd (.s t k j)) i&&dfv (sg.bi.kd (.s i 0 0))&&Ib sg i
  | .one _=>Ld sg (fun k j=>b.kd (.s t k j)) i&&(Ib sg i||decide (Fe xs t=some i))
  | .tup _=>false)
 | .const c=>Ld sg (fun k j=>jF (bQ c) k j) i
 | _=>true
def Lm(F:FA)(b:B)(sg:Sg)(xs:List Operand):Nat→List Operand→Bool
 | _,[]=>true
 | i,v::r=>YD F b sg xs i v&&Lm F b sg xs (i+1) r

theorem Hk{F:FA}{b:B}{sg:Sg}{xs:List Operand}: ∀ {l:List Operand} {i0:Nat},Lm F b sg xs i0 l=true→ ∀ {i:Nat} {v:Operand},l[i]? =some v→YD F b sg xs (i0+i) v=true
 | [],_,_,i,v,h=>by simp at h
 | p::r,i0,h,0,v,h2=>by
  simp only[Lm,z7]at h; simp only[z24,z10]at h2
  subst h2; exact h.1
 | p::r,i0,h,i+1,v,h2=>by
  simp only[Lm,z7]at h; simp only[z25]at h2
  have:=Hk h.2 h2; rwa[show i0+1+i=i0+(i+1)by omega]at this

section
variable {P:Program} {τ:TypeId→Option TI} {F:FA} {o:Oper} {b b':B} {x x':D}

theorem Pg(hA:Ag F b x){n:Nat}{sg:Sg}{xs:List Operand}{i:Nat}{v:Operand}(h:YD F b sg xs i v=true)(hj:gH (ev x.sl v)=true):Lu (b.S n x) sg xs i v:=by
 cases v with
 | tmp t=>
  simp only[YD,z7]at h; obtain⟨h1,h2⟩:=h; have hsl:(b.S n x).sl t=x.sl t:=rG h1; have hf:=hA.fits h1 (Iu hj); simp only[Lu]; rw[hsl]
  have plain:Ld sg (fun k j=>b.kd (.s t k j)) i=true→(Ib sg i||decide (Fe xs t=some i))=true→(∀k zs,(x.sl t).comp k≠some (.cp zs))→
    (∀k j,((b.S n x).fl (.s t k j)).hand sg.ext (sg.bi.kd (.s i k j))=true∧((sg.bi.kd (.s i k j)).hold=true→Fe xs t=some i))∧ ∀k zs,(x.sl t).comp k=some (.cp zs)→sg.bi.kd (.s i k 0)= .D∨sg.bi.kd (.s i k 0)= .F∨sg.bi.kd (.s i k 0)= .V:=fun q1 q2 q3=>by
   refine⟨fun k j=>⟨He q1 k j,fun hh=> ?_⟩,fun k zs hz=>absurd hz (q3 k zs)⟩
   simp only[z47,z23]at q2; rcases q2 with q2 | q2
   ·rw[JE q2]at hh; cases hh
   ·exact q2
  have hcomp: ∀w,(∀ys,w≠W.cp ys)→ ∀k zs,(V.one w).comp k≠some (.cp zs):=fun w hw k zs=>by
   cases k with
   | zero=>simp only[V.comp]; intro e; exact hw zs (z46 e)
   | succ k=>simp [V.comp]
  cases hs:F.shOf t with
  | tup ws=>rw[hs]at h2; cases h2
  | one y=>
   rw[hs]at h2 hf; cases hx:x.sl t with
   | tup ws=>rw[hx]at hf; simp [Own.fits]at hf
   | one w=>
    rw[hx]at hf plain; cases w<;>cases y<;>simp only[Own.fits,bX,z54]at hf<;>simp only at h2 ⊢
    case cp.cp zs ys=>
     simp only[z7]at h2; refine⟨fun k j=>⟨He h2.1.1 k j,fun hh=>by rw[JE h2.2]at hh; cases hh⟩,fun k zs hz=> ?_⟩
     cases k with
     | succ k=>simp [V.comp]at hz
     | zero=>
      have:=h2.1.2; cases hq:sg.bi.kd (.s i 0 0)<;>rw[hq]at this<;>simp_all [dfv]
    case nilp.cp ys=>
     simp only[z7]at h2; exact plain h2.1.1 (by rw[h2.2]; rfl) (hcomp _ (by simp))
    case al.al l p l' p'=>
     simp only[z7,z23]at hf h2; obtain⟨rfl,_⟩:=hf; obtain⟨⟨⟨q1,q2⟩,q3⟩,q4⟩:=h2; have q3': ¬ b.kd (.s t 0 0)= .D:=by simpa using q3
     exact⟨fun e=>(by subst e; cases q1),q3',q4⟩
    all_goals
     simp only[z7]at h2; exact plain h2.1 h2.2 (hcomp _ (by simp))
 | const c=>exact fun k j=>He h k j
 | _=>trivial

def Vu(b:B)(sg:Sg):Nat→List Nat→Bool
 | _,[]=>true
 | i,o::r=>b.hasO o&&RB sg (fun j=>b.kd (.oc o j)) (par+i)&&Vu b sg (i+1) r
theorem Ke{sg:Sg}: ∀ {l:List Nat} {i0:Nat},Vu b sg i0 l=true→ ∀ {i o:Nat},l[i]? =some o→b.hasO o=true∧RB sg (fun j=>b.kd (.oc o j)) (par+(i0+i))=true
 | [],_,_,i,o,h=>by simp at h
 | p::r,i0,h,0,o,h2=>by
  simp only[Vu,z7]at h; simp only[z24,z10]at h2
  subst h2; exact h.1
 | p::r,i0,h,i+1,o,h2=>by
  simp only[Vu,z7]at h; simp only[z25]at h2
  have:=Ke h.2 h2; rwa[show i0+1+i=i0+(i+1)by omega]at this

def LA:List Nat→Bool
 | []=>true
 | i::r=> !(mem i r)&&LA r
theorem OP{i:Nat}: ∀ {l:List Nat},i∈l→mem i l=true
 | [],h=>by simp at h
 | j::r,h=>by
  simp only[mem,z47]; rcases Qg.1 h with h | h
  ·left; rw[h]; exact z42 _
  ·exact .inr (OP h)
theorem EF: ∀ {l:List Nat},LA l=true→l.Nodup
 | [],_=>z177
 | i::r,h=>by
  simp only[LA,z7]at h; rw[List.nodup_cons]; exact⟨fun hm=>by rw[OP hm]at h; simp at h,EF h.2⟩

def RE(F:FA)(b:B)(sg:Sg)(c:Call)(v:Operand)(d nd:Option Nat)(os:List Nat):Option B:=
 bif dO b v&&c.args.toList.all (kn b F)&&Lm F b sg c.args.toList 0 c.args.toList&&Vu b sg 0 os&&LA os&&(match d with | some d=>Nat.blt d F.n | none=>true)&&
   (match nd with | some z=>Nat.blt z par&& !(mem z os) | none=>true)&&sg.bo.has 0&&(match sg.io with | none=>true | _=>false)&&(sg.ext||CF sg)&&Nat.ble sg.np par then
  some (((b.pre F sg c.args.toList os).call F d nd os sg).nrm F)else none

def inV(x:D)(c:Call)(caps:List (Nat×Nat))(os:List Nat):List V:=c.args.toList.map (fun v=>(evD x v).to (pF os))++caps.map (fun c=>(V.one (.ptr c.1 c.2)).to (pF os))

theorem Zy(hA:Ag F b x){c:Call}{v:Operand}{f:FuncId}{caps:List (Nat×Nat)}{sg:Sg}{vs:List V}{ob ob':List (List T)}{r:V}{nw:Option (List T)}{os:List Nat}{nd:Option Nat}(ho:o.op= .call c)(hcal:c.callee= .value v)(hx:ev x.sl v= .one (.fn f caps))
  (hC:TC P f sg vs ob r none ob' nw)(hvs:vs=inV x c caps os)(hob:ob.map some=os.map x.ob)(hnp:sg.np=vs.length)(hth:c.args.toList.all (fun v=>gH (ev x.sl v))=true)
  (h1:bI F (x.call o.dst nd os (DR r none ob' nw)) o.dst nd os=true)(h2:RE F b sg c v o.dst nd os=some b'):
  Ag F b' (x.call o.dst nd os (DR r none ob' nw))∧ ∀g0 w0,OpW P g0 w0 o (b.S F.n x) (b'.S F.n (x.call o.dst nd os (DR r none ob' nw))):=by
 unfold RE at h2; obtain⟨hc,h2⟩:=aK h2; simp only[z7]at hc; obtain⟨⟨⟨⟨⟨⟨⟨⟨⟨⟨c1,c2⟩,c3⟩,c4⟩,c5⟩,c6⟩,c7⟩,c8⟩,c9⟩,c10⟩,c11⟩:=hc; cases h2; have hAp:=hA.pre sg c.args.toList os; have hAc:=hAp.call (d:=o.dst) (nd:=nd) (os:=os) (sg:=sg) (y:=DR r none ob' nw) h1; have hfit: ∀i,o.dst=some i→Own.fits (((DR r none ob' nw).sl 0).to (uO os nd)) (F.shOf i)=true:=fun i e=>by
  simp only[bI,z7]at h1; have h:=h1.1; rw[e]at h; simp only[D.call,if_true]at h; exact h
 refine⟨hAc.nrm,fun g0 w0=> ?_⟩
 have hmap:c.args.toList.map (fun v=>(evR (b.S F.n x) v).to (pF os))=c.args.toList.map (fun v=>(evD x v).to (pF os)):=z49 fun v hv=>by rw[Nr hA (z18.1 c2 v hv)]
 have hob2:os.map (b.S F.n x).ob=os.map x.ob:=z49 fun o ho=>by
  obtain⟨i,hi⟩:=z60 ho
  exact Lz (Ke c4 hi).1
 have h3:=VU (g0:=g0) (w0:=w0) (st:=b.S F.n x) (nd:=nd) ho hcal (by rw[pG c1]; exact hx) hC (by
   revert c9; cases sg.io<;>simp) (fun i e=>by rw[e]at c6; exact cZ c6) (fun z e=>by
   rw[e]at c7; simp only[z7]at c7; exact⟨cZ c7.1,fun hm=>by rw[OP hm]at c7; simp at c7⟩) (EF c5) hnp (z33 c11) c8 (fun e=>by rw[e]at c10; simpa using c10) (by rw[hmap]; exact hvs) (by rw[hob2]; exact hob)
   (fun i v hv=>by
    have:=Hk c3 hv; rw[z28]at this; exact Pg hA this (z18.1 hth v (bV hv))) (fun o oc j hio=>by
    have hout:=Hd hio; obtain⟨_,hp,hoi⟩:=MK (EF c5) hout; have:=(Ke c4 hoi).2; rw[z28,Xf hp]at this; exact SX this j)
 refine h3.relax (fun a w hs=>hs.relax ?_)
 exact(Mm hAp (On (n:=F.n) hA sg c.args.toList os) hfit).le hAc
end
end Go.Own
