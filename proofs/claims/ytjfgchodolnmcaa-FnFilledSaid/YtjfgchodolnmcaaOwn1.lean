/- A calculus for runs on plain data (part 2): whoever runs code on data, with its owners checked, runs the program. No conditions. -/
import Derived.Test.YtjfgchodolnmcaaOwn0
set_option linter.unusedVariables false
set_option linter.unusedSimpArgs false
set_option linter.unnecessarySimpa false
namespace Go.Own
open Go.RowKit

def B.put(F:FA)(b:B)(d:Nat)(f:Nat→Nat→K):B:=
 { sl:=(d,nS (F.shOf d) f)::b.sl.filter (fun q=> !(Nat.beq q.1 d)&& !(aS d (aH (F.shOf q.1)))),ob:=b.ob }

theorem Ea{F:FA}{b:B}{d:Nat}{f:Nat→Nat→K}{i:Nat}:(b.put F d f).has i=(Nat.beq i d||(!(aS d (aH (F.shOf i)))&&b.has i)):=by
 simp only[B.has,B.put,cQ]; cases h:Nat.beq i d with
 | true=>rfl
 | false=>
  simp only[z12,z54]; rw[dQ (fun i=> !(Nat.beq i d)&& !(aS d (aH (F.shOf i)))) i b.sl]
  simp only[h,z76,z44]; cases aS d (aH (F.shOf i))<;>simp

theorem cU{i d:Nat}(h:i≠d):Nat.beq i d=false:=by
 cases e:Nat.beq i d with
 | false=>rfl
 | true=>exact absurd (z16 e) h

theorem KO{F:FA}{b:B}{d:Nat}{f:Nat→Nat→K}{i k j:Nat}(h:i≠d)(hr:aS d (aH (F.shOf i))=false):(b.put F d f).get (.s i k j)=b.get (.s i k j):=by
 simp only[B.get,B.put,cQ,cU h,z12]; rw[dQ (fun i=> !(Nat.beq i d)&& !(aS d (aH (F.shOf i)))) i b.sl]
 simp only[cU h,hr,z76,z94,if_true]

theorem zF{F:FA}{b:B}{d:Nat}{f:Nat→Nat→K}{k j:Nat}:(b.put F d f).get (.s d k j)=AU (nS (F.shOf d) f) k j:=by
 simp only[B.get,B.put,cQ,z42,z17]

theorem Ag.put{F:FA}{b:B}{x:D}(h:Ag F b x){d:Nat}{r:V}{f:Nat→Nat→K}(hr:r= .tup []∨fits r (F.shOf d)=true):Ag F (b.put F d f) (x.put d r):=by
 refine⟨fun i hi=> ?_,h.ob⟩
 by_cases e:i=d
 ·subst e; simpa [D.put]using hr
 ·simp only[D.put,z13 e]
  rw[Ea,cU e]at hi; simp only[z54,z7]at hi; exact h.sl i hi.2

theorem Bi{s:St}{d:Nat}{r:V}{κ:Nat→Nat→K}{k j:Nat}:(s.put d r κ).fl (.s d k j)=κ k j:=by simp [St.put]

theorem EZ{F:FA}{n:Nat}{b:B}{x:D}{s:St}(hA:Ag F b x)(h:Low n b x s){d:Nat}{r:V}{κ f:Nat→Nat→K}(hr:r= .tup []∨fits r (F.shOf d)=true)
  (hl: ∀k j t,r.leaf k j=some t→(κ k j).lo (f k j)=true)(hc: ∀k xs,r.comp k=some (.cp xs)→(κ k 0).lo (f k 0)=true)(ha:aH r≠ .none→f 0 0≠ .D→κ 0 0≠ .D):
  Low n (b.put F d f) (x.put d r) (s.put d r κ):=by
 have hhas: ∀i,i≠d→(b.put F d f).has i=true→b.has i=true∧aS d (aH (F.shOf i))=false:=fun i e hi=>by
  rw[Ea,cU e]at hi; simpa [and_comm]using hi
 have hroot: ∀i,i≠d→(b.put F d f).has i=true→aS d (aH (s.sl i))=false:=fun i e hi=>by
  obtain⟨h1,h2⟩:=hhas i e hi; rw[h.sl i h1]; rcases hA.sl i h1 with e2 | e2
  ·rw[e2]; rfl
  ·rw[dK e2]; exact h2
 have hkd: ∀i k j,i≠d→(b.put F d f).has i=true→(b.put F d f).kd (.s i k j)=b.kd (.s i k j):=fun i k j e hi=>by
  simp only[B.kd,KO e (hhas i e hi).2]
 have hfl: ∀i k j,i≠d→(b.put F d f).has i=true→(s.put d r κ).fl (.s i k j)=s.fl (.s i k j):=fun i k j e hi=>by
  simp only[St.put,z13 e]; rw[z13]; rintro ⟨_,_,h3⟩
  rw[hroot i e hi]at h3; cases h3
 have hnf:fits r (F.shOf d)=true∨((∀k j t,r.leaf k j≠some t)∧(∀k xs,r.comp k≠some (.cp xs))∧aH r= .none):=by
  rcases hr with e | e
  ·right
   subst e; refine⟨fun k j t=> ?_,fun k xs=> ?_,rfl⟩
   ·cases k<;>simp [V.leaf,W.leaf]
   ·cases k<;>simp [V.comp]
  ·exact .inl e
 refine⟨h.n,fun i hi=> ?_,fun o ho=>h.ob o ho,fun l t hL ht=> ?_,fun i k xs hi hx=> ?_,fun i hi hr' hf=> ?_⟩
 ·by_cases e:i=d
  ·subst e; simp [St.put,D.put]
  ·simp only[St.put,D.put,z13 e]; exact h.sl i (hhas i e hi).1
 ·cases l with
  | s i k j=>
   by_cases e:i=d
   ·subst e
    have ht':r.leaf k j=some t:=by simpa [D.at,atL,D.put]using ht
    rcases hnf with h1 | h1
    ·rw[Bi]
     simp only[B.kd,zF]; rw[AQ h1 f ht']; exact hl k j t ht'
    ·exact absurd ht' (h1.1 k j t)
   ·rw[hfl i k j e hL,hkd i k j e hL]
    refine h.fl (.s i k j) t (hhas i e hL).1 ?_
    simpa [D.at,atL,D.put,e]using ht
  | oc o j=>exact h.fl (.oc o j) t hL ht
  | _=>cases hL
 ·by_cases e:i=d
  ·subst e
   have hx':r.comp k=some (.cp xs):=by simpa [D.put]using hx
   rcases hnf with h1 | h1
   ·rw[Bi]
    simp only[B.kd,zF]; rw[EK h1 f hx']; exact hc k xs hx'
   ·exact absurd hx' (h1.2.1 k xs)
  ·rw[hfl i k 0 e hi,hkd i k 0 e hi]
   exact h.cp i k xs (hhas i e hi).1 (by simpa [D.put,e]using hx)
 ·by_cases e:i=d
  ·subst e
   have hr2:aH r≠ .none:=by simpa [D.put]using hr'
   rcases hnf with h1 | h1
   ·rw[Bi]
    simp only[B.kd,zF]at hf; rw[HS h1 f hr2]at hf; exact ha hr2 hf
   ·exact absurd h1.2.2 hr2
  ·rw[hfl i 0 0 e hi]
   rw[hkd i 0 0 e hi]at hf; exact h.al i (hhas i e hi).1 (by simpa [D.put,e]using hr') hf

def B.setf(F:FA)(b:B)(R:Loc→Bool)(f:Loc→K→K):B:=(b.mapK f).filt fun i=> !(R (aH (F.shOf i)))

theorem pG{F:FA}{b:B}{R:Loc→Bool}{f:Loc→K→K}{i:Nat}:(b.setf F R f).has i=(!(R (aH (F.shOf i)))&&b.has i):=by
 rw[B.setf,dT,Jf]
theorem fG{F:FA}{b:B}{R:Loc→Bool}{f:Loc→K→K}{o:Nat}:(b.setf F R f).hasO o=b.hasO o:=by
 rw[B.setf,xF,Gk]

theorem sV{F:FA}{b:B}{R:Loc→Bool}{f:Loc→K→K}{l:Loc}(h:(b.setf F R f).hasL l=true):(b.setf F R f).get l=(b.get l).map (f l):=by
 rw[B.setf,wS]; cases l with
 | s i k j=>
  have h:(b.setf F R f).has i=true:=h; rw[pG,z7]at h; simp only; rw[z19 h.1,FD]
 | _=>exact FD _ _ _

theorem Ag.setf{F:FA}{b:B}{x:D}(h:Ag F b x)(R:Loc→Bool)(f:Loc→K→K):Ag F (b.setf F R f) x:=by
 refine⟨fun i hi=>h.sl i ?_,fun o ho=>h.ob o ?_⟩
 ·rw[pG,z7]at hi; exact hi.2
 ·rw[fG]at ho; exact ho

theorem iR{F:FA}{n:Nat}{b:B}{x:D}{s:St}(hA:Ag F b x)(h:Low n b x s){R:Loc→Bool}{f:Loc→K}{f':Loc→K→K}(hR:R .none=false)
  (hl: ∀l,b.hasL l=true→(s.fl l).lo (b.kd l)=true→(f l).lo (f' l (b.kd l))=true)(ha: ∀i,b.has i=true→(b.kd (.s i 0 0)≠ .D→s.fl (.s i 0 0)≠ .D)→f' (.s i 0 0) (b.kd (.s i 0 0))≠ .D→f (.s i 0 0)≠ .D):
  Low n (b.setf F R f') x (s.setf R f):=by
 have hhas: ∀i,(b.setf F R f').has i=true→b.has i=true∧R (aH (F.shOf i))=false:=fun i hi=>by
  rw[pG]at hi; simpa [and_comm]using hi
 have hroot: ∀i,(b.setf F R f').has i=true→R (aH (s.sl i))=false:=fun i hi=>by
  obtain⟨h1,h2⟩:=hhas i hi; rw[h.sl i h1]; rcases hA.sl i h1 with e2 | e2
  ·rw[e2]; exact hR
  ·rw[dK e2]; exact h2
 have hfl: ∀i k j,(b.setf F R f').has i=true→(s.setf R f).fl (.s i k j)=f (.s i k j):=fun i k j hi=>by
  simp only[St.setf]; rw[z13]; rintro ⟨_,_,h3⟩
  rw[hroot i hi]at h3; cases h3
 have key: ∀l,(b.setf F R f').hasL l=true→(b.hasL l=true):=fun l hL=>by
  cases l with
  | s i k j=>exact(hhas i hL).1
  | oc o j=>have hL:(b.setf F R f').hasO o=true:=hL; rw[fG]at hL; exact hL
  | _=>cases hL
 have hkd: ∀l,(b.setf F R f').hasL l=true→(b.setf F R f').kd l= .D∨(b.setf F R f').kd l=f' l (b.kd l):=fun l hL=>by
  simp only[B.kd,sV hL]; cases b.get l with
  | none=>exact .inl rfl
  | some q=>exact .inr rfl
 have hlo: ∀l,(b.setf F R f').hasL l=true→(s.fl l).lo (b.kd l)=true→(f l).lo ((b.setf F R f').kd l)=true:=fun l hL h1=>by
  rcases hkd l hL with e | e
  ·rw[e]; exact GQ _
  ·rw[e]; exact hl l (key l hL) h1
 refine⟨h.n,fun i hi=>h.sl i (hhas i hi).1,fun o ho=>h.ob o (by rw[fG]at ho; exact ho),fun l t hL ht=> ?_,fun i k xs hi hx=> ?_,fun i hi hr hf=> ?_⟩
 ·have h1:=hlo l hL (h.fl l t (key l hL) ht)
  cases l with
  | s i k j=>rw[hfl i k j hL]; exact h1
  | oc o j=>exact h1
  | _=>cases hL
 ·rw[hfl i k 0 hi]
  exact hlo (.s i k 0) hi (h.cp i k xs (hhas i hi).1 hx)
 ·rw[hfl i 0 0 hi]
  rcases hkd (.s i 0 0) hi with e | e
  ·exact absurd e hf
  ·rw[e]at hf
   exact ha i (hhas i hi).1 (fun hk=>h.al i (hhas i hi).1 hr hk) hf

def hH(M:List (Loc×Loc))(l:Loc):Bool:=M.all fun m=> !(decide (l=m.1))&& !(decide (l=m.2))
def B.mvs(F:FA)(b:B)(M:List (Loc×Loc)):B:=match M with
 | []=>b
 | _=>b.setf F (fun l=> !(hH M l)) (fun l _=>mvK M b.kd l)

theorem OS(M:List (Loc×Loc)): ∀ {f g:Loc→K} {l:Loc},(f l).lo (g l)=true→(∀m∈M,(f m.1).lo (g m.1)=true∧(f m.2).lo (g m.2)=true)→(mvK M f l).lo (mvK M g l)=true:=by
 induction M with
 | nil=>intro f g l h _; exact h
 | cons m r ih=>
  intro f g l h hM; obtain⟨a,b⟩:=m; have ha:=(hM (a,b) z29).1; have key: ∀m,(f m).lo (g m)=true→(if m=b then f a else if m=a then(f a).cp else f m).lo (if m=b then g a else if m=a then(g a).cp else g m)=true:=fun m hm=>by
   by_cases e1:m=b
   ·rw[z19 e1,z19 e1]; exact ha
   ·rw[z13 e1,z13 e1]
    by_cases e2:m=a
    ·rw[z19 e2,z19 e2]; exact lo_cp ha
    ·rw[z13 e2,z13 e2]; exact hm
  exact ih (key l h) (fun m' hm'=>by
   obtain⟨h1,h2⟩:=hM m' (z25 _ hm'); exact⟨key _ h1,key _ h2⟩)

theorem Ag.mvs{F:FA}{b:B}{x:D}(h:Ag F b x)(M:List (Loc×Loc)):Ag F (b.mvs F M) x:=by
 cases M with
 | nil=>exact h
 | cons m r=>exact h.setf (fun l=> !(hH (m::r) l)) (fun l _=>mvK (m::r) b.kd l)

theorem IB{F:FA}{n:Nat}{b:B}{x:D}{s:St}(hA:Ag F b x)(h:Low n b x s){M:List (Loc×Loc)}(hM: ∀m∈M,(b.hasL m.1=true∧ ∃t,x.at m.1=some t)∧(b.hasL m.2=true∧ ∃t,x.at m.2=some t)):
  Low n (b.mvs F M) x (s.mvs M):=by
 cases hM0:M with
 | nil=>exact h
 | cons m0 r0=>
 have hB:b.mvs F (m0::r0)=b.setf F (fun l=> !(hH M l)) (fun l _=>mvK M b.kd l):=by rw[←hM0,hM0]; rfl
 rw[hB, ←hM0]; have hat: ∀l,b.hasL l=true→s.at l=x.at l:=fun l hL=>by
  cases l with
  | s i k j=>rw[St.at_s,h.sl i hL]; rfl
  | oc o j=>rw[St.at_oc,h.ob o hL]; rfl
  | _=>cases hL
 have hMs: ∀m∈M,(∃y,s.at m.1=some y)∧(∃y,s.at m.2=some y):=fun m hm=>by
  obtain⟨⟨h1,t1,e1⟩,h2,t2,e2⟩:=hM m hm; exact⟨⟨t1,(hat _ h1).trans e1⟩,⟨t2,(hat _ h2).trans e2⟩⟩
 have hMn: ∀m∈M,m.1≠ .none∧m.2≠ .none:=fun m hm=>by
  obtain⟨⟨y1,h1⟩,⟨y2,h2⟩⟩:=hMs m hm; exact⟨(FN h1).1,(FN h2).1⟩
 have hMlo: ∀m∈M,(s.fl m.1).lo (b.kd m.1)=true∧(s.fl m.2).lo (b.kd m.2)=true:=fun m hm=>by
  obtain⟨⟨h1,t1,e1⟩,h2,t2,e2⟩:=hM m hm; exact⟨h.fl _ t1 h1 e1,h.fl _ t2 h2 e2⟩
 have hhas: ∀i,(b.setf F (fun l=> !(hH M l)) (fun l _=>mvK M b.kd l)).has i=true→b.has i=true∧hH M (aH (F.shOf i))=true:=fun i hi=>by
  rw[pG]at hi; simpa [and_comm]using hi
 have hkd: ∀l,(b.setf F (fun l=> !(hH M l)) (fun l _=>mvK M b.kd l)).hasL l=true→(b.setf F (fun l=> !(hH M l)) (fun l _=>mvK M b.kd l)).kd l= .D∨
   (b.setf F (fun l=> !(hH M l)) (fun l _=>mvK M b.kd l)).kd l=mvK M b.kd l:=fun l hL=>by
  simp only[B.kd,sV hL]; cases b.get l with
  | none=>exact .inl rfl
  | some q=>exact .inr rfl
 have hapart: ∀l,hH M l=true→ ∀m∈M,l≠m.1∧l≠m.2:=fun l hl m hm=>by
  have:=z15.1 hl m hm; simpa using this
 have hnd: ∀i k,b.has i=true→(∀t,(x.sl i).leaf k 0≠some t)→ ∀m∈M,Loc.s i k 0≠m.1∧Loc.s i k 0≠m.2:=fun i k hi hno m hm=>by
  obtain⟨⟨h1,t1,e1⟩,h2,t2,e2⟩:=hM m hm; refine⟨fun e=> ?_,fun e=> ?_⟩
  ·rw[←e]at e1; exact hno t1 e1
  ·rw[←e]at e2; exact hno t2 e2
 have hflo: ∀i k,b.has i=true→hH M (aH (F.shOf i))=true→(∀t,(x.sl i).leaf k 0≠some t)→(s.mvs M).fl (.s i k 0)=s.fl (.s i k 0)∧mvK M b.kd (.s i k 0)=b.kd (.s i k 0):=fun i k hi hra hno=>by
  have hap:=hnd i k hi hno; refine⟨?_,Qd M hap⟩
  have hr: ∀m∈M,aH (s.sl i)≠m.1∧aH (s.sl i)≠m.2:=by
   rw[h.sl i hi]; rcases hA.sl i hi with e | e
   ·rw[e]; exact fun m hm=>⟨Ne.symm (hMn m hm).1,Ne.symm (hMn m hm).2⟩
   ·rw[dK e]; exact hapart _ hra
  exact Ig M hr hap
 refine⟨(Tu M s).trans h.n,fun i hi=>by rw[Ts]; exact h.sl i (hhas i hi).1,fun o ho=>by rw[Tt]; rw[fG]at ho; exact h.ob o ho,fun l t hL ht=> ?_,fun i k xs hi hx=> ?_,fun i hi hr hf=> ?_⟩
 ·have hLb:b.hasL l=true:=by
   cases l with
   | s i k j=>exact(hhas i hL).1
   | oc o j=>have hL:(b.setf F _ _).hasO o=true:=hL; rw[fG]at hL; exact hL
   | _=>cases hL
  rcases hkd l hL with e | e
  ·rw[e]; exact GQ _
  ·rw[e,Tv M ((hat l hLb).trans ht) hMs hMn]
   exact OS M (h.fl l t hLb ht) hMlo
 ·obtain⟨h1,h2⟩:=hhas i hi
  have hno: ∀t,(x.sl i).leaf k 0≠some t:=fun t ht=>by
   cases hv:x.sl i with
   | one w=>
    rw[hv]at hx ht; cases k with
    | zero=>simp only[V.comp,z10]at hx; subst hx; simp [V.leaf,W.leaf]at ht
    | succ k=>simp [V.comp]at hx
   | tup ws=>rw[hv]at hx ht; simp only[V.comp]at hx; simp [V.leaf,hx,W.leaf]at ht
  obtain⟨e1,e2⟩:=hflo i k h1 h2 hno; rcases hkd (.s i k 0) hi with e | e
  ·rw[e]; exact GQ _
  ·rw[e,e1,e2]; exact h.cp i k xs h1 hx
 ·obtain⟨h1,h2⟩:=hhas i hi
  have hno: ∀t,(x.sl i).leaf 0 0≠some t:=fun t ht=>hr (by
   rcases hA.sl i h1 with e | e
   ·rw[e]; rfl
   ·rw[dK e]; exact hA.leaf_root h1 ht)
  obtain⟨e1,e2⟩:=hflo i 0 h1 h2 hno; rcases hkd (.s i 0 0) hi with e | e
  ·exact absurd e hf
  ·rw[e,e2]at hf
   rw[e1]; exact h.al i h1 hr hf
end Go.Own

namespace Go.Own
open Go.RowKit

def Cz(d:Nat):W→Bool
  | .ptr o _=>Nat.beq o d
  | .fn _ cs=>cs.any fun c=>decide (c.1=d)
  | _=>false
def Pj(d:Nat):V→Bool
  | .one w=>Cz d w
  | .tup ws=>ws.any (Cz d)

theorem EE{d:Nat}{w:W}(h:Cz d w=false):w.kill d=w:=by
  cases w with
  | ptr o p=>
    have:o≠d:=fun e=>by subst e; simp [Cz,z42]at h
    simp [W.kill,this]
  | fn f cs=>
    show(if(cs.any fun c=>c.1 == d)then W.junk else W.fn f cs)=W.fn f cs
    rw[z13]; intro e; have h:(cs.any fun c=>decide (c.1=d))=false:=h
    rw[show(fun c:Nat×Nat=>c.1 == d)=fun c=>decide (c.1=d)from rfl,h]at e
    cases e
  | _=>rfl

theorem Gi{d:Nat}{v:V}(h:Pj d v=false):v.kill d=v:=by
  cases v with
  | one w=>exact congrArg V.one (EE h)
  | tup ws=>
    have h':ws.any (Cz d)=false:=h; rw[TN]at h'; simp only[V.kill]; congr 1
    exact(z49 fun w hw=>EE (by simpa using h' w hw)).trans (List.map_id ws)

theorem EO{d:Nat}{v s:W}(h:bP v s=true)(hs:Cz d s=false):Cz d v=false:=by
  cases v<;>cases s<;>simp only[bP,z7,z52]at h<;>first | rfl | skip
  · obtain⟨h1,_⟩:=h
    rw[z16 h1]; exact hs
  · obtain⟨_,h2⟩:=h
    have:=of_decide_eq_true h2; subst this; exact hs

theorem CN{d:Nat}: ∀ {xs ys:List W},lG xs ys=true→ys.any (Cz d)=false→xs.any (Cz d)=false
  | [],[],_,_=>rfl
  | [],_::_,h,_=>by simp [lG]at h
  | _::_,[],h,_=>by simp [lG]at h
  | x::xs,y::ys,h,hs=>by
    simp only[lG,z7]at h; simp only[RR,z58]at hs ⊢; exact⟨EO h.1 hs.1,CN h.2 hs.2⟩

theorem Gv{d:Nat}{v s:V}(h:fits v s=true)(hs:Pj d s=false):Pj d v=false:=by
  cases v with
  | one w=>cases s with
    | one y=>exact EO h hs
    | tup ys=>simp [fits]at h
  | tup ws=>cases s with
    | one y=>simp [fits]at h
    | tup ys=>exact CN h hs

def tH(F:FA)(d i:Nat):Bool:= !(Nat.beq i d)&& !(aS d (aH (F.shOf i)))&& !(sT d (aH (F.shOf i)))&& !(Pj d (F.shOf i))

def B.alloc(F:FA)(b:B)(d:Nat)(κ:Nat→K):B:=
  { sl:=(d,[[.S]])::b.sl.filter (fun q=>tH F d q.1)
    ob:=(d,Nl κ 0 (F.obOf d))::b.ob.filter (fun q=> !(Nat.beq q.1 d)) }

theorem CB{F:FA}{b:B}{d:Nat}{κ:Nat→K}{i:Nat}:(b.alloc F d κ).has i=(Nat.beq i d||(tH F d i&&b.has i)):=by
  simp only[B.has,B.alloc,cQ]; cases h:Nat.beq i d with
  | true=>rfl
  | false=>
    simp only[z12,z54]; rw[dQ (tH F d) i b.sl]; cases tH F d i<;>simp

theorem zO{F:FA}{b:B}{d:Nat}{κ:Nat→K}{o:Nat}:(b.alloc F d κ).hasO o=(Nat.beq o d||b.hasO o):=by
  simp only[B.hasO,B.alloc,cQ]; cases h:Nat.beq o d with
  | true=>rfl
  | false=>
    simp only[z12,z54]; rw[dQ (fun o=> !(Nat.beq o d)) o b.ob]
    simp [h]

theorem HX{F:FA}{b:B}{d:Nat}{κ:Nat→K}{i k j:Nat}(h:i≠d)(hp:tH F d i=true):(b.alloc F d κ).get (.s i k j)=b.get (.s i k j):=by
  simp only[B.get,B.alloc,cQ,cU h,z12]; rw[dQ (tH F d) i b.sl,z19 hp]
theorem Cr{F:FA}{b:B}{d:Nat}{κ:Nat→K}{o j:Nat}(h:o≠d):(b.alloc F d κ).get (.oc o j)=b.get (.oc o j):=by
  simp only[B.get,B.alloc,cQ,cU h,z12]; rw[dQ (fun o=> !(Nat.beq o d)) o b.ob]
  simp [cU h]

theorem Ag.alloc{F:FA}{b:B}{x:D}(h:Ag F b x){d:Nat}{cells:List T}{κ:Nat→K}(hs:F.shOf d= .one (.ptr d 0))(hc:eH cells (F.obOf d)=true):Ag F (b.alloc F d κ) ((x.put d (.one (.ptr d 0))).setO d cells):=by
  refine⟨fun i hi=> ?_,fun o ho=> ?_⟩
  · by_cases e:i=d
    · subst e
      right
      simp [D.setO,D.put,hs,fits,bP]
    · simp only[D.setO,D.put,z13 e]
      rw[CB,cU e]at hi; simp only[z54,z7]at hi; exact h.sl i hi.2
  · by_cases e:o=d
    · subst e
      exact⟨cells,by simp [D.setO],hc⟩
    · simp only[D.setO,D.put,z13 e]
      rw[zO,cU e]at ho; exact h.ob o (by simpa using ho)

theorem HC{F:FA}{n:Nat}{b:B}{x:D}{s:St}(hA:Ag F b x)(h:Low n b x s){d:Nat}{cells:List T}{κ f:Nat→K}(hc:eH cells (F.obOf d)=true)(hl: ∀j,(κ j).lo (f j)=true):
    Low n (b.alloc F d f) ((x.put d (.one (.ptr d 0))).setO d cells) (s.alloc d cells κ):=by
  have hhas: ∀i,i≠d→(b.alloc F d f).has i=true→b.has i=true∧tH F d i=true:=fun i e hi=>by
    rw[CB,cU e]at hi; simpa [and_comm]using hi
  have hall: ∀i,i≠d→(b.alloc F d f).has i=true→(aS d (aH (s.sl i))||sT d (aH (s.sl i)))=false∧Pj d (s.sl i)=false:=fun i e hi=>by
    obtain⟨h1,h2⟩:=hhas i e hi; rw[h.sl i h1]; rcases hA.sl i h1 with e2 | e2
    · rw[e2]; exact⟨rfl,rfl⟩
    · rw[dK e2]
      simp only[tH,z7,z37]at h2; exact⟨by simp [h2.1.1.2,h2.1.2],Gv e2 h2.2⟩
  have hkd: ∀i k j,i≠d→(b.alloc F d f).has i=true→(b.alloc F d f).kd (.s i k j)=b.kd (.s i k j):=fun i k j e hi=>by
    simp only[B.kd,HX e (hhas i e hi).2]
  have hfl: ∀i k j,i≠d→(b.alloc F d f).has i=true→(s.alloc d cells κ).fl (.s i k j)=s.fl (.s i k j):=fun i k j e hi=>by
    simp only[St.alloc,z13 e]; rw[z13]; rintro ⟨_,_,h3⟩
    rw[(hall i e hi).1]at h3; cases h3
  have hO: ∀o,o≠d→(b.alloc F d f).hasO o=true→b.hasO o=true:=fun o e ho=>by
    rw[zO,cU e]at ho; simpa using ho
  refine⟨h.n,fun i hi=> ?_,fun o ho=> ?_,fun l t hL ht=> ?_,fun i k xs hi hx=> ?_,fun i hi hr' hf=> ?_⟩
  · by_cases e:i=d
    · subst e; simp [St.alloc,D.put,D.setO]
    · simp only[St.alloc,D.put,D.setO,z13 e]
      rw[Gi (hall i e hi).2]; exact h.sl i (hhas i e hi).1
  · by_cases e:o=d
    · subst e; simp [St.alloc,D.setO]
    · simp only[St.alloc,D.put,D.setO,z13 e]; exact h.ob o (hO o e ho)
  · cases l with
    | s i k j=>
      by_cases e:i=d
      · subst e
        exfalso
        simp only[D.at,atL,D.setO,D.put,if_true]at ht; cases k<;>simp [V.leaf,W.leaf]at ht
      · rw[hfl i k j e hL,hkd i k j e hL]
        refine h.fl (.s i k j) t (hhas i e hL).1 ?_
        simpa [D.at,atL,D.setO,D.put,e]using ht
    | oc o j=>
      by_cases e:o=d
      · subst e
        have ht':cells[j]? =some t:=by simpa [D.at,atL,D.setO]using ht
        have hj:j<(F.obOf o).length:=by rw[←xI hc]; exact bW ht'
        have e1:(s.alloc o cells κ).fl (.oc o j)=κ j:=by simp [St.alloc]
        have e2:(b.alloc F o f).kd (.oc o j)=f j:=by
          simp only[B.kd,B.get,B.alloc,cQ,z42,z17,Ad,z19 hj,z32]
        rw[e1,e2]; exact hl j
      · have e1:(s.alloc d cells κ).fl (.oc o j)=s.fl (.oc o j):=by simp [St.alloc,e]
        have e2:(b.alloc F d f).kd (.oc o j)=b.kd (.oc o j):=by simp only[B.kd,Cr e]
        rw[e1,e2]; exact h.fl (.oc o j) t (hO o e hL) (by simpa [D.at,atL,D.setO,D.put,e]using ht)
    | _=>cases hL
  · by_cases e:i=d
    · subst e
      exfalso
      simp only[D.setO,D.put,if_true]at hx; cases k<;>simp [V.comp]at hx
    · rw[hfl i k 0 e hi,hkd i k 0 e hi]
      exact h.cp i k xs (hhas i e hi).1 (by simpa [D.setO,D.put,e]using hx)
  · by_cases e:i=d
    · subst e
      exact absurd (show aH (((x.put i (.one (.ptr i 0))).setO i cells).sl i)= .none from by simp [D.setO,D.put,aH]) hr'
    · rw[hfl i 0 0 e hi]
      rw[hkd i 0 0 e hi]at hf; exact h.al i (hhas i e hi).1 (by simpa [D.setO,D.put,e]using hr') hf

def B.write(F:FA)(b:B)(o p m:Nat)(κ:Nat→K):B:=
  (b.mapK (fun l q=>match l with | .oc o' j=>if Nat.beq o' o&&Nat.ble p j&&Nat.blt j (p+m)then κ (j - p)else q | _=>q)).filt fun i=> !(sT o (aH (F.shOf i)))

theorem wU{F:FA}{b:B}{o p m:Nat}{κ:Nat→K}{i:Nat}:(b.write F o p m κ).has i=(!(sT o (aH (F.shOf i)))&&b.has i):=by rw[B.write,dT,Jf]
theorem tU{F:FA}{b:B}{o p m:Nat}{κ:Nat→K}{o':Nat}:(b.write F o p m κ).hasO o'=b.hasO o':=by rw[B.write,xF,Gk]

theorem Ag.write{F:FA}{b:B}{x:D}(h:Ag F b x){o p m:Nat}{cells:List T}{κ:Nat→K}(hc:eH cells (F.obOf o)=true):Ag F (b.write F o p m κ) (x.setO o cells):=by
  refine⟨fun i hi=> ?_,fun o' ho=> ?_⟩
  · rw[wU,z7]at hi; exact h.sl i hi.2
  · rw[tU]at ho
    by_cases e:o'=o
    · subst e; exact⟨cells,by simp [D.setO],hc⟩
    · simp only[D.setO,z13 e]; exact h.ob o' ho

theorem MQ{F:FA}{n:Nat}{b:B}{x:D}{s:St}(hA:Ag F b x)(h:Low n b x s){o p:Nat}{xs cells:List T}{κ:Nat→K}(hc:x.ob o=some cells)(hle:p+xs.length≤cells.length):
    Low n (b.write F o p xs.length κ) (x.setO o (cells.take p++xs++cells.drop (p+xs.length))) (s.write o p xs cells κ):=by
  have hhas: ∀i,(b.write F o p xs.length κ).has i=true→b.has i=true∧sT o (aH (s.sl i))=false:=fun i hi=>by
    rw[wU,z7]at hi; refine⟨hi.2, ?_⟩
    rw[h.sl i hi.2]; rcases hA.sl i hi.2 with e2 | e2
    · rw[e2]; rfl
    · rw[dK e2]; simpa using hi.1
  have hkd: ∀i k j,(b.write F o p xs.length κ).has i=true→(b.write F o p xs.length κ).kd (.s i k j)=b.kd (.s i k j):=fun i k j hi=>by
    have h0:=hi; rw[wU,z7]at h0; rw[B.write,fF (by exact h0.1),Lt]
    simp only[B.kd]
  have hfl: ∀i k j,(b.write F o p xs.length κ).has i=true→(s.write o p xs cells κ).fl (.s i k j)=s.fl (.s i k j):=fun i k j hi=>by
    simp only[St.write]; rw[z13]; rintro ⟨_,_,h3⟩
    rw[(hhas i hi).2]at h3; cases h3
  refine⟨h.n,fun i hi=>h.sl i (hhas i hi).1,fun o' ho=> ?_,fun l t hL ht=> ?_,fun i k ys hi hx=> ?_,fun i hi hr' hf=> ?_⟩
  · rw[tU]at ho
    by_cases e:o'=o
    · subst e; simp [St.write,D.setO]
    · simp only[St.write,D.setO,z13 e]; exact h.ob o' ho
  · cases l with
    | s i k j=>rw[hfl i k j hL,hkd i k j hL]; exact h.fl (.s i k j) t (hhas i hL).1 ht
    | oc o' j=>
      have hL':b.hasO o'=true:=by have hL:(b.write F o p xs.length κ).hasO o'=true:=hL; rw[tU]at hL; exact hL
      have e2:(b.write F o p xs.length κ).kd (.oc o' j)=match b.get (.oc o' j)with | some q=>(if Nat.beq o' o&&Nat.ble p j&&Nat.blt j (p+xs.length)then κ (j - p)else q) | none=> .D:=by
        rw[B.write,EP,Lt]; cases b.get (.oc o' j)<;>rfl
      rw[e2]; show(if o'=o∧p≤j∧j<p+xs.length then κ (j - p)else s.fl (.oc o' j)).lo _=true
      by_cases e:o'=o∧p≤j∧j<p+xs.length
      · rw[z19 e]
        have hb:(Nat.beq o' o&&Nat.ble p j&&Nat.blt j (p+xs.length))=true:=by
          obtain⟨rfl,h1,h2⟩:=e; simp [z42,Nat.blt,h1,Nat.succ_le_of_lt h2]
        cases b.get (.oc o' j)with
        | none=>exact GQ _
        | some q=>simp only[hb,if_true]; exact cV _
      · rw[z13 e]
        have hb:(Nat.beq o' o&&Nat.ble p j&&Nat.blt j (p+xs.length))=false:=by
          rw[Bool.eq_false_iff]; intro hh; simp only[z7]at hh; exact e ⟨z16 hh.1.1,z33 hh.1.2,z33 hh.2⟩
        have ht':x.at (.oc o' j)=some t:=by
          by_cases eo:o'=o
          · subst eo
            have hj: ¬ (p≤j∧j<p+xs.length):=fun h=>e ⟨rfl,h⟩
            simp only[D.at,atL,D.setO,if_true,z8]at ht ⊢; rw[pL cells xs p hle j,z13 hj]at ht; rw[hc]; exact ht
          · simpa [D.at,atL,D.setO,eo]using ht
        have h1:=h.fl (.oc o' j) t hL' ht'; simp only[B.kd]at h1; cases hg:b.get (.oc o' j)with
        | none=>exact GQ _
        | some q=>rw[hg]at h1; simp only[hb]; exact h1
    | _=>cases hL
  · rw[hfl i k 0 hi,hkd i k 0 hi]; exact h.cp i k ys (hhas i hi).1 hx
  · rw[hfl i 0 0 hi]
    rw[hkd i 0 0 hi]at hf; exact h.al i (hhas i hi).1 hr' hf
end Go.Own

namespace Go.Own
open Go.RowKit

def mem(d:Nat):List Nat→Bool
 | []=>false
 | i::r=>Nat.beq d i||mem d r

def qG(F:FA)(x:D)(d:Nat)(v:V):Option D:=bif fits v (F.shOf d)then some (x.put d v)else none

theorem bU{F:FA}{x x':D}{d:Nat}{v:V}(h:qG F x d v=some x'):fits v (F.shOf d)=true∧x'=x.put d v:=by
 unfold qG at h; cases e:fits v (F.shOf d)with
 | true=>rw[e]at h; simp only[z17,z10]at h; exact⟨rfl,h.symm⟩
 | false=>rw[e]at h; cases h

structure OpS (P:Program) (F:FA) (n:Nat) (o:Oper) (b:B) (x:D) (b':B) (x':D):Prop where
 ag:Ag F b' x'
 ok: ∀g0 w0,nL P g0 w0 o (b.S n x) (b'.S n x')

theorem OpS.fin{P:Program}{F:FA}{n:Nat}{o:Oper}{b:B}{x:D}{b':B}{x':D}{s:St}(hA:Ag F b' x')(h: ∀g0 w0,nL P g0 w0 o (b.S n x) s)(hL:Low n b' x' s):OpS P F n o b x (b'.nrm F) x':=
 ⟨hA.nrm,fun g0 w0=>(h g0 w0).relax (hL.le hA)⟩

def cR(b:B):Operand→Bool
 | .tmp t=>b.has t
 | _=>true
def mM(F:FA):Operand→V
 | .tmp t=>F.shOf t
 | .const v=>bG v
 | .func f=> .one (.fn f [])
 | .global _=> .one .junk
def Dw(b:B):Operand→Nat→Nat→K
 | .tmp t,k,j=>(b.kd (.s t k j)).cp
 | .const v,k,j=>gH (bG v) k j
 | _,_,_=> .S

theorem qR{n:Nat}{b:B}{x:D}{v:Operand}:opK (b.S n x) v=Dw b v:=by cases v<;>rfl

theorem oK{n:Nat}{b:B}{x:D}{t:Nat}(h:b.has t=true):(b.S n x).sl t=x.sl t:=by simp only[B.S]; rw[z19 h]
theorem JJ{n:Nat}{b:B}{x:D}{t:Nat}(h:b.hasO t=true):(b.S n x).ob t=x.ob t:=by simp only[B.S]; rw[z19 h]
theorem mW{n:Nat}{b:B}{x:D}{v:Operand}(h:cR b v=true):ev (b.S n x).sl v=ev x.sl v:=by
 cases v with
 | tmp t=>exact oK h
 | _=>rfl

theorem Ag.fits{F:FA}{b:B}{x:D}(hA:Ag F b x){t:Nat}(h:b.has t=true)(hj:x.sl t≠ .tup []):fits (x.sl t) (F.shOf t)=true:=by
 rcases hA.sl t h with e | e
 ·exact absurd e hj
 ·exact e

def fY:V→Bool
 | .tup []=>false
 | _=>true
theorem GY{v:V}(h:fY v=true):v≠ .tup []:=fun e=>by subst e; cases h

theorem wA(v:Value):aH (bG v)= .none:=by unfold bG; (repeat' split)<;>rfl

theorem MF{F:FA}{b:B}{x:D}(hA:Ag F b x){v:Operand}(h:cR b v=true):aH (ev x.sl v)≠ .none→aH (ev x.sl v)=aH (mM F v):=by
 cases v with
 | tmp t=>
  intro h1; rcases hA.sl t h with e | e
  ·exact absurd (show aH (x.sl t)= .none by rw[e]; rfl) h1
  ·exact dK e
 | _=>intro _; rfl

def range':Nat→Nat→List Nat
 | _,0=> []
 | i,m+1=>i::range' (i+1) m
theorem oJ: ∀ {m i j:Nat},j∈range' i m↔i≤j∧j<i+m
 | 0,i,j=>by
  simp only[range',RU,false_iff]; omega
 | m+1,i,j=>by
  simp only[range',z98,oJ (m:=m)]; omega
def Ee:W→List Nat
 | .c _=> [0]
 | .ag xs=>range' 0 xs.length
 | _=> []
def wN:Nat→List W→List (Nat×Nat)
 | _,[]=> []
 | k,w::r=>(Ee w).map (fun j=>(k,j))++wN (k+1) r
def lF:V→List (Nat×Nat)
 | .one w=>(Ee w).map fun j=>(0,j)
 | .tup ws=>wN 0 ws

theorem EH{x y:W}(h:bP x y=true){j:Nat}(hj:j∈Ee y): ∃t,x.leaf j=some t:=by
 cases y<;>simp only[Ee,RU,z64]at hj<;>try exact absurd hj (by simp)
 ·subst hj
  cases x<;>simp [bP]at h
  exact⟨_,rfl⟩
 ·rename_i ys
  cases x<;>simp [bP]at h
  rename_i xs; have:=(oJ.1 hj).2; rw[z32, ←xI h]at this; exact⟨xs[j],z14 this⟩

theorem CJ: ∀ {ys:List W} {xs:List W} {k0 k j:Nat},lG xs ys=true→(k,j)∈wN k0 ys→ ∃w t,xs[k - k0]? =some w∧w.leaf j=some t∧k0≤k
 | [],_,_,_,_,_,hm=>by simp [wN]at hm
 | y::ys,[],_,_,_,h,_=>by simp [lG]at h
 | y::ys,x::xs,k0,k,j,h,hm=>by
  simp only[lG,z7]at h; simp only[wN,z78,z51,z48,exists_eq_right_right]at hm; rcases hm with⟨h1,rfl⟩ | hm
  ·obtain⟨t,ht⟩:=EH h.1 h1
   exact⟨x,t,by simp,ht,z53 _⟩
  ·obtain⟨w,t,h1,h2,h3⟩:=CJ h.2 hm
   refine⟨w,t, ?_,h2,by omega⟩
   rw[show k - k0=(k - (k0+1))+1 by omega,z23]
   exact h1

theorem oT{v s:V}(h:Own.fits v s=true){k j:Nat}(hm:(k,j)∈lF s): ∃t,v.leaf k j=some t:=by
 cases v with
 | one w=>
  cases s with
  | tup ws=>simp [Own.fits]at h
  | one y=>
   simp only[lF,z51,z48,exists_eq_right_right]at hm; obtain⟨h1,rfl⟩:=hm; exact EH h h1
 | tup ws=>
  cases s with
  | one y=>simp [Own.fits]at h
  | tup ys=>
   obtain⟨w,t,h1,h2,_⟩:=CJ (k0:=0) h hm; exact⟨t,by simp only[V.leaf]; rw[z165]at h1; rw[h1]; exact h2⟩

def holds(F:FA)(b:B)(t:Nat):List (Nat×Nat):=(lF (F.shOf t)).filter fun m=>(b.kd (.s t m.1 m.2)).hold

theorem OM{F:FA}{b:B}{x:D}(hA:Ag F b x){d:Nat}{r:V}{f:Nat→Nat→K}{l:Loc}{t:T}(h:b.hasL l=true)(hd:aS d l=false)(ht:x.at l=some t):(b.put F d f).hasL l=true∧ ∃t,(x.put d r).at l=some t:=by
 cases l with
 | s i k j=>
  have hi:b.has i=true:=h; have hne:i≠d:=fun e=>by subst e; simp [aS]at hd
  have hr:=hA.leaf_root hi ht; refine⟨?_,t, ?_⟩
  ·show(b.put F d f).has i=true
   rw[Ea,cU hne,hr,hi]; rfl
  ·simpa [D.at,atL,D.put,hne]using ht
 | oc o j=>exact⟨h,t,ht⟩
 | _=>cases h

theorem QZ{F:FA}{b:B}{x:D}{d:Nat}{r:V}{f:Nat→Nat→K}{k j:Nat}(h: ∃t,r.leaf k j=some t):(b.put F d f).hasL (.s d k j)=true∧ ∃t,(x.put d r).at (.s d k j)=some t:=by
 obtain⟨t,h⟩:=h; refine⟨?_,t,by simpa [D.at,atL,D.put]using h⟩
 show(b.put F d f).has d=true; rw[Ea,z42]; rfl

theorem OpS.put{P:Program}{F:FA}{n:Nat}{o:Oper}{b:B}{x:D}(hA:Ag F b x){d:Nat}{r:V}{κ:Nat→Nat→K}{M:List (Loc×Loc)}(hr:Own.fits r (F.shOf d)=true)
  (h: ∀g0 w0,nL P g0 w0 o (b.S n x) (((b.S n x).put d r κ).mvs M))(hM: ∀m∈M,(b.hasL m.1=true∧aS d m.1=false∧ ∃t,x.at m.1=some t)∧ ∃k j,m.2= .s d k j∧ ∃t,r.leaf k j=some t):
  OpS P F n o b x (((b.put F d κ).mvs F M).nrm F) (x.put d r):=by
 have h1:=hA.put (f:=κ) (.inr hr); have h2:=EZ hA (Low.self n b x) (κ:=κ) (f:=κ) (.inr hr) (fun _ _ _ _=>cV _) (fun _ _ _=>cV _) (fun _ h=>h)
 refine OpS.fin (h1.mvs M) h (IB h1 h2 (fun m hm=> ?_))
 obtain⟨⟨q1,q2,t,q3⟩,k,j,q4,q5⟩:=hM m hm; refine⟨OM hA q1 q2 q3, ?_⟩
 rw[q4]; exact QZ q5

def xY(F:FA)(x:D)(d:Nat)(v:Operand):Option D:=bif fY (ev x.sl v)then qG F x d (ev x.sl v)else none
def NQ(F:FA)(b:B)(d:Nat)(take:Bool):Operand→List (Loc×Loc)
 | .tmp t=>bif take then(holds F b t).map fun m=>(.s t m.1 m.2, .s d m.1 m.2)else []
 | _=> []
def Ey(d:Nat)(v:V):Bool:=match aH v with | .none=>true | l=> !(aS d l)
def GH(d:Nat):Operand→Bool
 | .tmp t=> !(Nat.beq t d)
 | _=>true
def QF(F:FA)(b:B)(d:Nat)(take:Bool)(v:Operand):Option B:=
 bif Nat.blt d F.n&&cR b v&&Ey d (mM F v)&&GH d v then some (((b.put F d (Dw b v)).mvs F (NQ F b d take v)).nrm F)else none

theorem cD{a b:Nat}(h:Nat.blt a b=true):a<b:=z33 h
theorem Ic{d:Nat}{v:V}(h:Ey d v=true)(hv:aH v≠ .none):aS d (aH v)=false:=by
 unfold Ey at h; split at h
 ·rename_i e; exact absurd e hv
 ·simpa using h
theorem xC{d t:Nat}(h:GH d (.tmp t)=true):t≠d:=fun e=>by subst e; simp [GH,z42]at h

section
variable {P:Program} {τ:TypeId→Option TI} {F:FA} {o:Oper} {b b':B} {x x':D} {d:Nat}

theorem aI{α:Type}{c:Bool}{a:Option α}{y:α}(h:(bif c then a else none)=some y):c=true∧a=some y:=by
 cases c with
 | true=>exact⟨rfl,h⟩
 | false=>cases h

theorem PU(hA:Ag F b x){v:Operand}{take:Bool}(hd:o.dst=some d)(ho:o.op= .assign v∨o.op= .move v)(h1:xY F x d v=some x')(h2:QF F b d take v=some b'):OpS P F F.n o b x b' x':=by
 obtain⟨c,h2⟩:=aI h2; simp only[z7]at c; obtain⟨⟨⟨c1,c2⟩,c3⟩,c4⟩:=c; cases h2; unfold xY at h1; obtain⟨hth,h1⟩:=aI h1; obtain⟨e1,rfl⟩:=bU h1; have hroot:aH (ev x.sl v)≠ .none→aS d (aH (ev x.sl v))=false:=fun h=>by
  have:=MF hA c2 h; rw[this]at h ⊢; exact Ic c3 h
 have hMs: ∀m∈NQ F b d take v, ∃t k j,v= .tmp t∧m=(.s t k j, .s d k j)∧ ∃y,(x.sl t).leaf k j=some y:=fun m hm=>by
  cases v with
  | tmp t=>
   simp only[NQ]at hm; cases take with
   | false=>simp at hm
   | true=>
    simp only[z17,z51]at hm; obtain⟨⟨k,j⟩,hm,rfl⟩:=hm; have hm:=(z74.1 hm).1; refine⟨t,k,j,rfl,rfl, ?_⟩
    have hj:x.sl t≠ .tup []:=GY hth; exact oT (hA.fits c2 hj) hm
  | _=>simp [NQ]at hm
 refine OpS.put hA e1 (fun g0 w0=> ?_) (fun m hm=> ?_)
 ·have h0: ∀L:List (Nat×Nat),(∀m∈L, ∃t,v= .tmp t∧t≠d∧ ∃y,(x.sl t).leaf m.1 m.2=some y)→_:=fun L hL=>Qe (P:=P) (g0:=g0) (w0:=w0) (st:=b.S F.n x) L hd (cD c1) ho (by rw[mW c2]; exact hroot) (fun m hm=>by
   obtain⟨t,rfl,h1,y,h2⟩:=hL m hm; exact⟨t,rfl,h1,y,by rw[St.at_s,oK c2]; exact h2⟩)
  rw[mW c2,qR]at h0; cases v with
  | tmp t=>
   cases take with
   | true=>
    exact h0 (holds F b t) (fun m hm=>by
     obtain⟨t',k,j,e,e2,y,e3⟩:=hMs (.s t m.1 m.2, .s d m.1 m.2) (List.mem_map_of_mem (f:=fun m=>(Loc.s t m.1 m.2,Loc.s d m.1 m.2)) hm)
     cases e; simp only[z48,Loc.s.injEq]at e2; obtain⟨⟨_,rfl,rfl⟩,_⟩:=e2; exact⟨t,rfl,xC c4,y,e3⟩)
   | false=>exact h0 [] (fun m hm=>by simp at hm)
  | const u=>exact h0 [] (fun m hm=>by simp at hm)
  | func f=>exact h0 [] (fun m hm=>by simp at hm)
  | global i=>exact h0 [] (fun m hm=>by simp at hm)
 ·obtain⟨t,k,j,rfl,rfl,y,e3⟩:=hMs m hm
  exact⟨⟨c2,by simp [aS,xC c4],y,e3⟩,k,j,rfl,y,e3⟩

def zC(F:FA)(x:D)(d:Nat):Operand→Option D
 | .tmp t=>match x.sl t with
  | .one (.c (.sl _))=>qG F x d (.one (.al (.s t 0 0) []))
  | _=>none
 | _=>none
def Le(F:FA)(b:B)(d:Nat):Operand→Option B
 | .tmp t=>bif Nat.blt d F.n&&b.has t&& !(Nat.beq t d)&&(b.kd (.s t 0 0)).hold then some ((b.put F d (fun _ _=> .F)).nrm F)else none
 | _=>none

theorem RM(hA:Ag F b x){v:Operand}(hd:o.dst=some d)(ho:o.op= .move v)(h1:zC F x d v=some x')(h2:Le F b d v=some b'):OpS P F F.n o b x b' x':=by
 cases v with
 | tmp t=>
  simp only[Le]at h2; obtain⟨c,h2⟩:=aI h2; simp only[z7]at c; obtain⟨⟨⟨c1,c2⟩,c3⟩,c4⟩:=c; cases h2; simp only[zC]at h1; split at h1<;>try cases h1
  rename_i es hs; obtain⟨e1,rfl⟩:=bU h1; refine OpS.put (M:=[]) hA e1 (fun g0 w0=> ?_) (fun m hm=>by simp at hm)
  exact PG hd (cD c1) ho (fun e=>by subst e; simp [z42]at c3) (by rw[oK c2]; exact hs) c4
 | _=>cases h2

def nN(F:FA)(x:D)(d k:Nat):Operand→Option D
 | .tmp t=>match x.sl t with
  | .tup ws=>match ws[k]? with | some w=>qG F x d (.one w) | none=>none
  | _=>none
 | _=>none
def FM(F:FA)(b:B)(d k:Nat):Operand→Option B
 | .tmp t=>bif Nat.blt d F.n&&b.has t&& !(Nat.beq t d)&&decide (aH (F.shOf d)= .none)then
   some (((b.put F d (fun _ j=>(b.kd (.s t k j)).cp)).mvs F (((lF (F.shOf d)).filter fun m=>(b.kd (.s t k m.2)).hold).map fun m=>(.s t k m.2, .s d 0 m.2))).nrm F)else none
 | _=>none

theorem AP{s:V}{w:W}(h:Own.fits (.one w) s=true){k j:Nat}(hm:(k,j)∈lF s):k=0:=by
 cases s with
 | tup ws=>simp [Own.fits]at h
 | one y=>
  simp only[lF,z51,z48,exists_eq_right_right]at hm; exact hm.2.symm

theorem Mw(hA:Ag F b x){v:Operand}{k:Nat}(hd:o.dst=some d)(ho:o.op= .extract v k)(h1:nN F x d k v=some x')(h2:FM F b d k v=some b'):OpS P F F.n o b x b' x':=by
 cases v with
 | tmp t=>
  simp only[FM]at h2; obtain⟨c,h2⟩:=aI h2; simp only[z7]at c; obtain⟨⟨⟨c1,c2⟩,c3⟩,c4⟩:=c; cases h2; simp only[nN]at h1; split at h1<;>try cases h1
  rename_i ws hs; split at h1<;>try cases h1
  rename_i w hw; obtain⟨e1,rfl⟩:=bU h1; have hne:t≠d:=fun e=>by subst e; simp [z42]at c3
  have hl: ∀j,(0,j)∈lF (F.shOf d)→ ∃y,w.leaf j=some y:=fun j hj=>by
   obtain⟨y,hy⟩:=oT e1 hj; exact⟨y,hy⟩
  refine OpS.put hA e1 (fun g0 w0=> ?_) (fun m hm=> ?_)
  ·have:=Kc (P:=P) (g0:=g0) (w0:=w0) (st:=b.S F.n x) (((lF (F.shOf d)).filter fun m=>(b.kd (.s t k m.2)).hold).map (·.2)) hd (cD c1) ho hne (by rw[oK c2]; exact hs) hw
    (by rw[dK e1]; exact of_decide_eq_true c4) (fun j hj=>by
     obtain⟨⟨k',j'⟩,hm,rfl⟩:=z51.1 hj; have hm:=(z74.1 hm).1; have:=AP e1 hm; subst this; exact hl _ hm)
   rw[TE]at this; exact this
  ·obtain⟨⟨k',j⟩,hm',rfl⟩:=z51.1 hm
   have hm':=(z74.1 hm').1; have:=AP e1 hm'; subst this; obtain⟨y,hy⟩:=hl _ hm'; exact⟨⟨c2,by simp [aS,hne],y,by simp [D.at,atL,hs,V.leaf,hw,hy]⟩,0,j,rfl,y,hy⟩
 | _=>cases h2
end
end Go.Own

namespace Go.Own
open Go.RowKit

section
variable {P:Program} {τ:TypeId→Option TI} {F:FA} {o:Oper} {b b':B} {x x':D} {d:Nat}

theorem OpS.put0(hA:Ag F b x){r:V}{κ:Nat→Nat→K}(hr:Own.fits r (F.shOf d)=true)(h: ∀g0 w0,nL P g0 w0 o (b.S F.n x) ((b.S F.n x).put d r κ)):OpS P F F.n o b x ((b.put F d κ).nrm F) (x.put d r):=
 OpS.put (M:=[]) hA hr h (fun m hm=>by simp at hm)

def DC(F:FA)(x:D)(d:Nat)(c y z:Operand):Option D:=
 match ev x.sl c with
 | .one (.c (.bool true))=>(match ev x.sl y with | .one (.c r)=>bif scal r then qG F x d (.one (.c r))else none | _=>none)
 | .one (.c (.bool false))=>(match ev x.sl z with | .one (.c r)=>bif scal r then qG F x d (.one (.c r))else none | _=>none)
 | _=>none
def TA(F:FA)(b:B)(d:Nat)(c y z:Operand):Option B:=bif Nat.blt d F.n&&cR b c&&cR b y&&cR b z then some ((b.put F d (fun _ _=> .S)).nrm F)else none

theorem Tr(hA:Ag F b x){c y z:Operand}(hd:o.dst=some d)(ho:o.op= .pick c y z)(h1:DC F x d c y z=some x')(h2:TA F b d c y z=some b'):OpS P F F.n o b x b' x':=by
 obtain⟨hc,h2⟩:=aI h2; simp only[z7]at hc; obtain⟨⟨⟨c1,c2⟩,c3⟩,c4⟩:=hc; cases h2; unfold DC at h1; split at h1
 ·rename_i hcv
  split at h1<;>try cases h1
  rename_i r hr; obtain⟨hs,h1⟩:=aI h1; obtain⟨e1,rfl⟩:=bU h1; refine OpS.put0 hA e1 (fun g0 w0=> ?_)
  exact Lp (b:=true) (r1:=r) (r2:=r) hd (cD c1) ho (by rw[mW c2]; exact hcv) (fun _=>⟨by rw[mW c3]; exact hr,hs⟩) (fun e=>by cases e)
 ·rename_i hcv
  split at h1<;>try cases h1
  rename_i r hr; obtain⟨hs,h1⟩:=aI h1; obtain⟨e1,rfl⟩:=bU h1; refine OpS.put0 hA e1 (fun g0 w0=> ?_)
  exact Lp (b:=false) (r1:=r) (r2:=r) hd (cD c1) ho (by rw[mW c2]; exact hcv) (fun e=>by cases e) (fun _=>⟨by rw[mW c4]; exact hr,hs⟩)
 ·cases h1

def tF(τ:TypeId→Option TI)(F:FA)(x:D)(d:Nat)(s:TypeId)(v:Operand)(f:Nat):Option D:=
 match tk τ s with
 | some (.struct fs)=>(match fs[f]? with
  | some q=>(match zB (q.1,q.2.1) (ev x.sl v)with | some r=>qG F x d r | none=>none)
  | none=>none)
 | _=>none
def GO(F:FA)(b:B)(d:Nat)(v:Operand):Bool:=match mM F v with
 | .one (.pp l _ _ _)=>(match aH (mM F v)with | .none=>false | _=>true)&& !(aS d l)&& !(decide (Dw b v 0 0= .D))
 | .one (.al _ _)=>false
 | _=>true
def Pb(F:FA)(b:B)(d:Nat)(v:Operand):Option B:=bif Nat.blt d F.n&&cR b v&&GO F b d v then some ((b.put F d (fun _ _=>Dw b v 0 0)).nrm F)else none

theorem Ak{F:FA}{b:B}{x:D}(hA:Ag F b x){v:Operand}(hk:cR b v=true)(h:GO F b d v=true){l:Loc}{p:List (Nat×Nat)}{i j:Nat}(hv:ev x.sl v= .one (.pp l p i j)):l≠ .none∧aS d l=false∧Dw b v 0 0≠ .D:=by
 cases v with
 | tmp t=>
  have hf:=hA.fits hk (t:=t) (by have hv:x.sl t=_:=hv; rw[hv]; simp)
  have hv:x.sl t=_:=hv; rw[hv]at hf; have hs: ∃p' i' ,F.shOf t= .one (.pp l p' i' j):=by
   cases hsh:F.shOf t with
   | tup ws=>rw[hsh]at hf; simp [Own.fits]at hf
   | one y=>
    rw[hsh]at hf; cases y<;>simp [Own.fits,bP]at hf
    obtain⟨⟨rfl,_⟩,e⟩:=hf; subst e; exact⟨_,_,rfl⟩
  obtain⟨p',i',hs⟩:=hs; unfold GO at h; have hs':mM F (.tmp t)= .one (.pp l p' i' j):=hs; rw[hs']at h; simp only[aH,z7]at h; obtain⟨⟨h1,h2⟩,h3⟩:=h; refine⟨fun e=> ?_,by simpa using h2,by simpa using h3⟩
  subst e; simp at h1
 | const u=>exact absurd (wA u) (by have hv:bG u=_:=hv; rw[hv]; intro e; have:l= .none:=e; subst this; unfold bG at hv; (repeat' split at hv)<;>cases hv)
 | _=>cases hv

theorem Qy(hT:aY P τ)(hA:Ag F b x){s:TypeId}{v:Operand}{f:Nat}(hd:o.dst=some d)(ho:o.op= .fieldAddr s v f)(h1:tF τ F x d s v f=some x')(h2:Pb F b d v=some b'):OpS P F F.n o b x b' x':=by
 obtain⟨hc,h2⟩:=aI h2; simp only[z7]at hc; obtain⟨⟨c1,c2⟩,c3⟩:=hc; cases h2; unfold tF at h1; split at h1<;>try cases h1
 rename_i fs hfs; split at h1<;>try cases h1
 rename_i q hq; split at h1<;>try cases h1
 rename_i r hr; obtain⟨e1,rfl⟩:=bU h1; obtain⟨off,size,agg⟩:=q; refine OpS.put0 hA e1 (fun g0 w0=> ?_)
 have h0:=HV (g0:=g0) (w0:=w0) (st:=b.S F.n x) hT hd (cD c1) ho hfs hq (r:=r) (by rw[mW c2]; exact hr) (by
  rw[mW c2,qR]; intro hroot; unfold zB at hr; split at hr<;>try cases hr
  ·rename_i hv; rw[hv]at hroot; exact absurd rfl hroot
  ·rename_i hv; rw[hv]at hroot; exact absurd rfl hroot
  ·rename_i l p i j hv
   obtain⟨a1,a2,a3⟩:=Ak hA c2 c3 hv; rw[hv]; exact⟨a2,a3⟩) (by
  rw[mW c2]; intro l p i j hv; exact(Ak hA c2 c3 hv).1)
 rw[qR]at h0; exact h0

def KF(F:FA)(x:D)(d:Nat)(v:Operand):Option D:=match ev x.sl v with
 | .one (.ptr o p)=>qG F x d (.one (.ptr o p))
 | .one (.cp xs)=>qG F x d (.one (.cp xs))
 | .one (.fn f cs)=>qG F x d (.one (.fn f cs))
 | .one (.pp l p i j)=>qG F x d (.one (.pp l p i j))
 | _=>none
def cNil(F:FA)(b:B)(d:Nat)(v:Operand):Option B:=bif Nat.blt d F.n&&cR b v&&GO F b d v then some ((b.put F d (Dw b v)).nrm F)else none

theorem nil_S(hA:Ag F b x){v:Operand}(hd:o.dst=some d)(ho:o.op= .nilCheck v)(h1:KF F x d v=some x')(h2:cNil F b d v=some b'):OpS P F F.n o b x b' x':=by
 obtain⟨hc,h2⟩:=aI h2; simp only[z7]at hc; obtain⟨⟨c1,c2⟩,c3⟩:=hc; cases h2; have key:Own.fits (ev x.sl v) (F.shOf d)=true∧x'=x.put d (ev x.sl v)∧match ev x.sl v with | .one (.ptr _ _)=>True | .one (.cp _)=>True | .one (.fn _ _)=>True | .one (.pp l _ _ _)=>l≠ .none∧aS d l=false∧Dw b v 0 0≠ .D | _=>False:=by
  unfold KF at h1; split at h1<;>try cases h1
  all_goals
   rename_i hv; obtain⟨e1,rfl⟩:=bU h1; rw[hv]; refine⟨e1,rfl, ?_⟩
   first | trivial | exact Ak hA c2 c3 hv
 obtain⟨e1,rfl,e3⟩:=key; refine OpS.put0 hA e1 (fun g0 w0=> ?_)
 have h0:=If (P:=P) (g0:=g0) (w0:=w0) (st:=b.S F.n x) hd (cD c1) ho (by rw[mW c2,qR]; exact e3)
 rw[qR,mW c2]at h0; exact h0

def HL(F:FA)(x:D)(d:Nat)(f:FuncId)(caps:Array Operand):Option D:=match DV (caps.toList.map (ev x.sl))with
 | some cs=>qG F x d (.one (.fn f cs))
 | none=>none
def TB(F:FA)(b:B)(d:Nat)(caps:Array Operand):Option B:=bif Nat.blt d F.n&&caps.toList.all (cR b)then some ((b.put F d (fun _ _=> .S)).nrm F)else none

theorem UG(hA:Ag F b x){f:FuncId}{caps:Array Operand}(hd:o.dst=some d)(ho:o.op= .makeFunc (.func f) #[] caps)(h1:HL F x d f caps=some x')(h2:TB F b d caps=some b'):OpS P F F.n o b x b' x':=by
 obtain⟨hc,h2⟩:=aI h2; simp only[z7]at hc; obtain⟨c1,c2⟩:=hc; cases h2; unfold HL at h1; split at h1<;>try cases h1
 rename_i cs hcs; obtain⟨e1,rfl⟩:=bU h1; refine OpS.put0 hA e1 (fun g0 w0=> ?_)
 have hm:caps.toList.map (ev (b.S F.n x).sl)=caps.toList.map (ev x.sl):=z49 fun v hv=>mW (z15.1 c2 v hv)
 exact Ij hd (cD c1) ho (by rw[hm]; exact hcs)

def kn(b:B)(F:FA):Operand→Bool
 | .tmp t=>b.has t&&(match aH (F.shOf t)with | .none=>true | l=>b.hasL l)
 | _=>true

def Hm(F:FA)(b:B)(m:Bool):Operand→Bool
 | .tmp t=>match F.shOf t with
  | .one (.al _ _)=> !m&& !(decide (b.kd (.s t 0 0)= .D))
  | .one (.pp _ _ _ _)=>false
  | .one (.c z)=>scal z||(match b.kd (.s t 0 0)with | .D=>false | .F=>true | .S=>true | .N=>true | _=> !m)
  | .one (.cp _)=>(match b.kd (.s t 0 0)with | .D=>false | .F=>true | _=> !m)
  | _=>true
 | _=>true

theorem Hy(hA:Ag F b x){n:Nat}{m:Bool}{v:Operand}(hk:cR b v=true)(h:Hm F b m v=true):Rdy (b.S n x) m v:=by
 cases v with
 | tmp t=>
  have hsl:(b.S n x).sl t=x.sl t:=oK hk; have hfl:(b.S n x).fl (.s t 0 0)=b.kd (.s t 0 0):=rfl; simp only[Rdy]; rw[hsl,hfl]; rcases hA.sl t hk with e | e
  ·rw[e]; trivial
  ·simp only[Hm]at h
   cases hv:x.sl t with
   | tup ws=>trivial
   | one w=>
    rw[hv]at e; cases hs:F.shOf t with
    | tup ws=>rw[hs]at e; simp [Own.fits]at e
    | one y=>
     rw[hs]at e h; cases w with
     | c z=>
      cases y<;>simp [Own.fits,bP]at e
      rename_i y; simp only[z50]at h; rcases h with h | h
      ·exact .inl ((xJ e).trans h)
      ·right
       cases hq:b.kd (.s t 0 0)<;>rw[hq]at h<;>cases m<;>simp_all
     | cp xs=>
      cases y<;>simp [Own.fits,bP]at e
      cases hq:b.kd (.s t 0 0)<;>rw[hq]at h<;>cases m<;>simp_all
     | al l p=>
      cases y<;>simp [Own.fits,bP]at e
      simpa using h
     | pp l p i j=>
      cases y<;>simp [Own.fits,bP]at e
      cases h
     | _=>trivial
 | _=>trivial

def evD(x:D)(v:Operand):V:=uU x.sl x.ob (ev x.sl v)

theorem wQ{v:Operand}(h:kn b F v=true):cR b v=true:=by
 cases v with
 | tmp t=>simp only[kn,z7]at h; exact h.1
 | _=>rfl

theorem Qq(hA:Ag F b x){v:Operand}(h:kn b F v=true)(hr:aH (ev x.sl v)≠ .none):b.hasL (aH (ev x.sl v))=true:=by
 cases v with
 | tmp t=>
  simp only[kn,z7]at h; have e:=MF hA (v:= .tmp t) h.1 hr; have h2:=h.2; rw[e]at hr ⊢; have hr':aH (F.shOf t)≠ .none:=hr; show b.hasL (aH (F.shOf t))=true; split at h2
  ·rename_i e; exact absurd e hr'
  ·exact h2
 | const u=>exact absurd (wA u) hr
 | _=>exact absurd rfl hr

theorem Ky(hA:Ag F b x){n:Nat}{v:Operand}(h:kn b F v=true):evR (b.S n x) v=evD x v:=by
 unfold evR evD; rw[mW (wQ h)]; generalize hv:ev x.sl v=y; cases y with
 | tup ws=>rfl
 | one w=>
  cases w with
  | al l p=>
   have hL:l≠ .none→b.hasL l=true:=fun e=>by have:=Qq hA h (by rw[hv]; exact e); rw[hv]at this; exact this
   simp only[uU]; have:atL (b.S n x).sl (b.S n x).ob l=atL x.sl x.ob l:=by
    by_cases e:l= .none
    ·subst e; rfl
    ·exact Hr (n:=n) (hL e)
   rw[this]
  | _=>rfl

def mU(τ:TypeId→Option TI)(F:FA)(x:D)(d:Nat)(op:Op):Option D:=match gL τ (evD x) op with
 | some r=>qG F x d (.one (.c r))
 | none=>none
def Sz(F:FA):Op→Bool
 | .binOp _ _ _ y _=>(match y with | .const _=>true | .tmp t=>(match F.shOf t with | .one (.ifc _)=>false | _=>true) | _=>true)
 | _=>true
def Is(F:FA)(b:B)(d:Nat)(op:Op):Option B:=
 bif Nat.blt d F.n&&op.operands.toList.all (kn b F)&&Sz F op&&op.operands.toList.all (Hm F b false)then
  some ((b.put F d (fun _ _=>bif HK op&&(match F.shOf d with | .one (.c z)=> !(scal z) | _=>true)then(bif op.operands.toList.all (Hm F b true)then .F else .V)else .S)).nrm F)else none
end
end Go.Own

namespace Go.Own
open Go.RowKit

theorem Ff{ρ ρ':Operand→V}{len:Nat}{lo hi mx:Option Operand}(h1: ∀x,lo=some x→ρ x=ρ' x)(h2: ∀x,hi=some x→ρ x=ρ' x)(h3: ∀x,mx=some x→ρ x=ρ' x):mI ρ len lo hi mx=mI ρ' len lo hi mx:=by
 cases lo<;>cases hi<;>cases mx<;>simp only[mI]<;>first | rfl | (try rw[h1 _ rfl])<;>(try rw[h2 _ rfl])<;>(try rw[h3 _ rfl])

theorem vU{τ:TypeId→Option TI}{ρ ρ':Operand→V}(o:Op)(h: ∀x∈o.operands,ρ x=ρ' x):gL τ ρ o=gL τ ρ' o:=by
 cases o with
 | binOp op t x y u=>simp only[Op.operands]at h; simp only[gL,h x (by simp),h y (by simp)]
 | unOp op t x=>simp only[Op.operands]at h; simp only[gL,h x (by simp)]
 | convert s d x=>simp only[Op.operands]at h; simp only[gL,h x (by simp)]
 | index t x i=>simp only[Op.operands]at h; simp only[gL,h x (by simp),h i (by simp)]
 | slice t x lo hi mx=>
  simp only[Op.operands]at h
  have e: ∀n m',(m'=none∨m'=mx)→mI ρ n lo hi m'=mI ρ' n lo hi m':=fun n m' hm=>Ff (fun y hy=>h y (by subst hy; simp)) (fun y hy=>h y (by subst hy; simp)) (fun y hy=>h y (by
   rcases hm with rfl | rfl
   ·cases hy
   ·subst hy; simp))
  simp only[gL,h x (by simp),e _ _ (.inl rfl),e _ _ (.inr rfl)]
 | call c=>
  simp only[Op.operands,Call.operands]at h; have e: ∀x∈c.args.toList,ρ x=ρ' x:=fun x hx=>h x (by simp; exact .inr (by simpa using hx))
  simp only[gL]; split
  ·rename_i x t h1 h2 h3
   rw[e x (by rw[h2]; simp)]
  ·rename_i l x y h1 h2
   rw[e x (by rw[h2]; simp),e y (by rw[h2]; simp)]
  ·rename_i l x y h1 h2
   rw[e x (by rw[h2]; simp),e y (by rw[h2]; simp)]
  ·rfl
 | _=>rfl

section
variable {P:Program} {τ:TypeId→Option TI} {F:FA} {o:Oper} {b b':B} {x x':D} {d:Nat}

theorem Mv{r z:T}(h:Own.fits (.one (.c r)) (.one (.c z))=true):scal r=scal z:=xJ h

theorem LR(hT:aY P τ)(hA:Ag F b x)(hd:o.dst=some d)(h1:mU τ F x d o.op=some x')(h2:Is F b d o.op=some b'):OpS P F F.n o b x b' x':=by
 unfold Is at h2; obtain⟨hc,h2⟩:=aI h2; simp only[z7]at hc; obtain⟨⟨⟨c1,c2⟩,c3⟩,c4⟩:=hc; unfold mU at h1; split at h1<;>try cases h1
 rename_i r hr; obtain⟨e1,rfl⟩:=bU h1; have hk: ∀v∈o.op.operands,kn b F v=true:=fun v hv=>z15.1 c2 v (by simpa using hv)
 have hev: ∀v∈o.op.operands,evR (b.S F.n x) v=evD x v:=fun v hv=>Ky hA (hk v hv)
 have hc2: ∀op t v y u,o.op= .binOp op t v y u→evR (b.S F.n x) y= .one (.ifc true)→ ∃c,y= .const c:=by
  intro op t v y u ho hy; rw[ho]at c3; rw[hev y (by rw[ho]; simp [Op.operands])]at hy
  cases y with
  | const c=>exact⟨c,rfl⟩
  | tmp t=>
   exfalso
   have hkn:=hk (.tmp t) (by rw[ho]; simp [Op.operands])
   have hx:x.sl t= .one (.ifc true):=by
    have hy:uU x.sl x.ob (x.sl t)= .one (.ifc true):=hy; unfold uU at hy; split at hy
    ·split at hy<;>cases hy
    ·exact hy
   have hf:=hA.fits (wQ hkn) (t:=t) (by rw[hx]; simp)
   rw[hx]at hf; simp only[Sz]at c3; cases hs:F.shOf t with
   | tup ws=>rw[hs]at hf; simp [Own.fits]at hf
   | one z=>
    rw[hs]at hf c3; cases z<;>simp [Own.fits,bP]at hf
    cases c3
  | func f=>cases hy
  | global i=>cases hy
 have main: ∀m:Bool,(∀v∈o.op.operands.toList,Hm F b m v=true)→ ∀g0 w0,nL P g0 w0 o (b.S F.n x) ((b.S F.n x).put d (.one (.c r)) (fun _ _=>if HK o.op&& !scal r then(if m then .F else .V)else .S)):=fun m hm g0 w0=>
  QW hT hd (cD c1) (fun v hv=>Hy hA (wQ (hk v hv)) (hm v (by simpa using hv))) hc2 (by rw[vU o.op hev]; exact hr)
 have hsub: ∀z,F.shOf d= .one (.c z)→scal r=scal z:=fun z hz=>by rw[hz]at e1; exact Mv e1
 have hshape: ∃z,F.shOf d= .one (.c z):=by
  cases hs:F.shOf d with
  | tup ws=>rw[hs]at e1; simp [Own.fits]at e1
  | one z=>
   rw[hs]at e1; cases z<;>simp [Own.fits,bP]at e1
   exact⟨_,rfl⟩
 obtain⟨z,hz⟩:=hshape; have hrz:=hsub z hz; rw[hz]at h2; simp only at h2; rw[←hrz]at h2; cases hm:o.op.operands.toList.all (Hm F b true)with
 | true=>
  rw[hm]at h2; cases h2; refine OpS.put0 hA e1 (fun g0 w0=> ?_)
  have:=main true (z15.1 hm) g0 w0; cases hb:(HK o.op&& !scal r)with
  | true=>rw[hb]at this; exact this
  | false=>rw[hb]at this; exact this
 | false=>
  rw[hm]at h2; cases h2; refine OpS.put0 hA e1 (fun g0 w0=> ?_)
  have:=main false (z15.1 c4) g0 w0; cases hb:(HK o.op&& !scal r)with
  | true=>rw[hb]at this; exact this
  | false=>rw[hb]at this; exact this

def idx(τ:TypeId→Option TI)(e:TypeId)(es:List (List T))(n:Int):Option (List T):=match τ e with
 | some ei=>if 0≤n then(match es[n.toNat]? with | some row=>bif Nat.beq row.length ei.size then some row else none | none=>none)else none
 | none=>none

theorem Aj{e:TypeId}{es:List (List T)}{n:Int}{row:List T}(h:idx τ e es n=some row): ∃ei,τ e=some ei∧0≤n∧es[n.toNat]? =some row∧row.length=ei.size:=by
 unfold idx at h; split at h<;>try cases h
 rename_i ei he; split at h<;>try cases h
 rename_i hn; split at h<;>try cases h
 rename_i row' hr; obtain⟨hs,h⟩:=aI h; cases h; exact⟨ei,he,hn,hr,z16 hs⟩

def nM(τ:TypeId→Option TI)(F:FA)(x:D)(d:Nat)(t:TypeId)(v i:Operand):Option D:=
 match tk τ t,ev x.sl i with
 | some (.sl e), .one (.c (.int _ n))=>(match ev x.sl v with
  | .one (.al l p)=>(match(x.at l).bind (nav · p)with
   | some (.sl es)=>(match idx τ e es n with | some _=>qG F x d (.one (.pp l p n.toNat 0)) | none=>none)
   | _=>none)
  | .one (.c (.sl es))=>(match idx τ e es n with | some row=>qG F x d (.one (.cp row)) | none=>none)
  | _=>none)
 | some (.arr len e), .one (.c (.int _ n))=>(match ev x.sl v,τ e with
  | .one (.ptr ob p),some ei=>if 0≤n∧n<len then qG F x d (.one (.ptr ob (p+n.toNat*ei.size)))else none
  | _,_=>none)
 | _,_=>none

def Ac(F:FA)(b:B)(d:Nat):Operand→Bool
 | .tmp t=>match F.shOf t with
  | .one (.al l _)=>(match l with | .none=>false | _=>true)&& !(aS d l)&& !(decide (b.kd (.s t 0 0)= .D))&&b.hasL l
  | .one (.pp l _ _ _)=>(match l with | .none=>false | _=>true)&& !(aS d l)&& !(decide (b.kd (.s t 0 0)= .D))&&b.hasL l
  | _=>true
 | _=>true

theorem qO(hA:Ag F b x){t:Nat}(hk:b.has t=true)(h:Ac F b d (.tmp t)=true){l:Loc}(hv:(∃p,x.sl t= .one (.al l p))∨ ∃p i j,x.sl t= .one (.pp l p i j)):l≠ .none∧aS d l=false∧b.kd (.s t 0 0)≠ .D∧b.hasL l=true:=by
 have hf:=hA.fits hk (t:=t) (by rcases hv with⟨p,hv⟩ | ⟨p,i,j,hv⟩<;>(rw[hv]; simp))
 simp only[Ac]at h; have fin: ∀l':Loc,((match l' with | .none=>false | _=>true)&& !(aS d l')&& !(decide (b.kd (.s t 0 0)= .D))&&b.hasL l')=true→l=l'→l≠ .none∧aS d l=false∧b.kd (.s t 0 0)≠ .D∧b.hasL l=true:=by
  rintro l' h rfl
  simp only[z7]at h; obtain⟨⟨⟨h1,h2⟩,h3⟩,h4⟩:=h; exact⟨fun e=>(by subst e; cases h1),by simpa using h2,by simpa using h3,h4⟩
 cases hs:F.shOf t with
 | tup ws=>rcases hv with⟨p,hv⟩ | ⟨p,i,j,hv⟩<;>(rw[hv,hs]at hf; simp [Own.fits]at hf)
 | one y=>
  rw[hs]at hf h; rcases hv with⟨p,hv⟩ | ⟨p,i,j,hv⟩
  ·rw[hv]at hf
   cases y<;>simp [Own.fits,bP]at hf
   exact fin _ h hf.1
  ·rw[hv]at hf
   cases y<;>simp [Own.fits,bP]at hf
   exact fin _ h hf.1.1

def IW(F:FA)(b:B)(d:Nat)(v i:Operand):Option B:=
 bif Nat.blt d F.n&&cR b v&&cR b i then
  match mM F v with
  | .one (.al _ _)=>bif Ac F b d v then some ((b.put F d (fun _ _=> .F)).nrm F)else none
  | .one (.c _)=>bif kn b F v&&Hm F b false v then some ((b.put F d (fun _ _=>bif Hm F b true v then .F else .V)).nrm F)else none
  | .one (.ptr _ _)=>some ((b.put F d (fun _ _=> .S)).nrm F)
  | _=>none
 else none

theorem AF(hA:Ag F b x){v:Operand}(hk:cR b v=true){y:W}(hv:ev x.sl v= .one y)(hj:y≠ .junk):Own.fits (.one y) (mM F v)=true∨(∀t,v≠ .tmp t)∧mM F v= .one y:=by
 cases v with
 | tmp t=>
  have hv':x.sl t=_:=hv; left
  rw[←hv]; exact hA.fits hk (by rw[hv']; simpa using hj)
 | _=>exact .inr ⟨fun _ e=>(by cases e),hv⟩

theorem evD_c{v:Operand}{z:T}(h:ev x.sl v= .one (.c z)):evD x v= .one (.c z):=by unfold evD; rw[h]; rfl

theorem Qt(hT:aY P τ)(hA:Ag F b x){t:TypeId}{v i:Operand}(hd:o.dst=some d)(ho:o.op= .indexAddr t v i)(h1:nM τ F x d t v i=some x')(h2:IW F b d v i=some b'):OpS P F F.n o b x b' x':=by
 unfold IW at h2; obtain⟨hc,h2⟩:=aI h2; simp only[z7]at hc; obtain⟨⟨c1,c2⟩,c3⟩:=hc; unfold nM at h1; split at h1
 ·rename_i e k n hte hi
  split at h1
  ·-- a place's slice
   rename_i l p hv; split at h1<;>try cases h1
   rename_i es hnav; split at h1<;>try cases h1
   rename_i row hrow; obtain⟨e1,rfl⟩:=bU h1; obtain⟨ei,q1,q2,q3,q4⟩:=Aj hrow; cases v with
   | tmp tv=>
    rcases AF hA c2 hv (by simp)with hf | ⟨hn,_⟩
    ·have hs: ∃p',mM F (.tmp tv)= .one (.al l p'):=by
      cases hs:mM F (.tmp tv)with
      | tup ws=>rw[hs]at hf; simp [Own.fits]at hf
      | one y=>
       rw[hs]at hf; cases y<;>simp [Own.fits,bP]at hf
       obtain⟨rfl,_⟩:=hf; exact⟨_,rfl⟩
     obtain⟨p',hs⟩:=hs; rw[hs]at h2; obtain⟨c4,h2⟩:=aI h2; cases h2; obtain⟨a1,a2,a3,a4⟩:=qO hA c2 c4 (.inl ⟨p,hv⟩); simp only[z18]at hnav; obtain⟨x0,hx0,hnav⟩:=hnav; refine OpS.put0 hA e1 (fun g0 w0=> ?_)
     exact Fb hT hd (cD c1) ho hte q1 (by rw[oK c2]; exact hv) a1 a3 a2 (by rw[Hr a4]; exact hx0) hnav (by rw[mW c3]; exact hi) q2 q3 q4
    ·exact absurd rfl (hn tv)
   | const u=>exact absurd (wA u) (by have hv:bG u=_:=hv; unfold bG at hv; (repeat' split at hv)<;>cases hv)
   | _=>cases hv
  ·-- a slice that is read
   rename_i es hv; split at h1<;>try cases h1
   rename_i row hrow; obtain⟨e1,rfl⟩:=bU h1; obtain⟨ei,q1,q2,q3,q4⟩:=Aj hrow; have hs: ∃z,mM F v= .one (.c z):=by
    rcases AF hA c2 hv (by simp)with hf | ⟨_,hs⟩
    ·cases hs:mM F v with
     | tup ws=>rw[hs]at hf; simp [Own.fits]at hf
     | one y=>
      rw[hs]at hf; cases y<;>simp [Own.fits,bP]at hf
      exact⟨_,rfl⟩
    ·exact⟨_,hs⟩
   obtain⟨z,hs⟩:=hs; rw[hs]at h2; obtain⟨c4,h2⟩:=aI h2; simp only[z7]at c4; cases h2; have main: ∀m:Bool,Hm F b m v=true→ ∀g0 w0,nL P g0 w0 o (b.S F.n x) ((b.S F.n x).put d (.one (.cp row)) (fun _ _=>if m then .F else .V)):=fun m hm g0 w0=>
    HT hT hd (cD c1) ho hte q1 (by rw[Ky hA c4.1]; exact evD_c hv) (Hy hA c2 hm) (by rw[mW c3]; exact hi) q2 q3 q4
   refine OpS.put0 hA e1 (fun g0 w0=> ?_)
   cases hm:Hm F b true v with
   | true=>exact main true hm g0 w0
   | false=>exact main false c4.2 g0 w0
  ·cases h1
 ·-- an object's array
  rename_i len e k n hte hi; split at h1<;>try cases h1
  rename_i ob p ei hv he; split at h1<;>try cases h1
  rename_i hn; obtain⟨e1,rfl⟩:=bU h1; have hs: ∃ob' p',mM F v= .one (.ptr ob' p'):=by
   rcases AF hA c2 hv (by simp)with hf | ⟨_,hs⟩
   ·cases hs:mM F v with
    | tup ws=>rw[hs]at hf; simp [Own.fits]at hf
    | one y=>
     rw[hs]at hf; cases y<;>simp [Own.fits,bP]at hf
     exact⟨_,_,rfl⟩
   ·exact⟨_,_,hs⟩
  obtain⟨ob',p',hs⟩:=hs; rw[hs]at h2; cases h2; refine OpS.put0 hA e1 (fun g0 w0=> ?_)
  exact Im hT hd (cD c1) ho hte he (by rw[mW c2]; exact hv) (by rw[mW c3]; exact hi) hn.1 hn.2
 ·cases h1
end
end Go.Own

namespace Go.Own
open Go.RowKit

section
variable {P:Program} {τ:TypeId→Option TI} {F:FA} {o:Oper} {b b':B} {x x':D} {d:Nat}

theorem tX{i:TI}{xs:List T}{r:V}(h:nV i xs=some r){k j:Nat}{y:T}(hy:r.leaf k j=some y):k=0∧xs[j]? =some y:=by
 unfold nV at h; split at h<;>try cases h
 split at h
 ·simp only[z10]at h
  subst h; cases k with
  | succ k=>simp [V.leaf]at hy
  | zero=>
   refine⟨rfl, ?_⟩
   simp only[V.leaf,W.leaf,z73]at hy
   split at hy<;>simp_all
 ·split at h<;>cases h
  cases k with
  | succ k=>simp [V.leaf]at hy
  | zero=>
   cases j with
   | zero=>exact⟨rfl,by simpa [V.leaf,W.leaf]using hy⟩
   | succ j=>simp [V.leaf,W.leaf]at hy

def FU(τ:TypeId→Option TI)(t:TypeId):Bool:=match tk τ t with | some (.sl _)=>true | _=>false
theorem Jm{t:TypeId}(h:FU τ t=true): ∃e,tk τ t=some (.sl e):=by
 unfold FU at h; split at h
 ·rename_i e he; exact⟨e,he⟩
 ·cases h
def slT:Option T→Bool
 | some (.sl _)=>true
 | _=>false
theorem PL{y:Option T}(h:slT y=true): ∃es,y=some (.sl es):=by
 unfold slT at h; split at h
 ·exact⟨_,rfl⟩
 ·cases h

def pT(τ:TypeId→Option TI)(F:FA)(x:D)(d:Nat)(t:TypeId)(v:Operand)(al:Bool):Option D:=
 match τ t,ev x.sl v with
 | some i, .one (.ptr ob p)=>(match x.ob ob with
  | some cells=>bif al then(bif FU τ t&&slT (cells[p]?)then qG F x d (.one (.al (.oc ob p) []))else none)
   else(match nV i (cells.drop p)with | some r=>qG F x d r | none=>none)
  | none=>none)
 | some i, .one (.cp xs)=>(match nV i xs with | some r=>qG F x d r | none=>none)
 | some i, .one (.pp l p n j)=>(match(x.at l).bind (nav · p)with
  | some (.sl es)=>(match es[n]? with
   | some row=>bif al then(bif FU τ t&&slT (row[j]?)then qG F x d (.one (.al l (p++[(n,j)])))else none)
    else(match nV i (row.drop j)with | some r=>qG F x d r | none=>none)
   | none=>none)
  | _=>none)
 | _,_=>none

def NV(F:FA)(b:B)(d ob p:Nat)(take:Bool):List Nat:=bif take then(((lF (F.shOf d)).map (·.2)).filter fun j=>(b.kd (.oc ob (p+j))).hold)else []

def Nd(τ:TypeId→Option TI)(F:FA)(b:B)(d:Nat)(t:TypeId)(v:Operand)(al take:Bool):Option B:=
 bif Nat.blt d F.n&&cR b v then
  match τ t,mM F v with
  | some i, .one (.ptr ob p)=>
   bif al then(bif b.hasO ob&&(b.kd (.oc ob p)).hold then some ((b.put F d (fun _ _=> .F)).nrm F)else none)
   else(bif b.hasO ob then some (((b.put F d (fun _ j=>if iO i.zero j then .S else(b.kd (.oc ob (p+j))).cp)).mvs F ((NV F b d ob p take).map fun j=>(.oc ob (p+j), .s d 0 j))).nrm F)else none)
  | some i, .one (.cp _)=>bif !(decide (Dw b v 0 0= .D))then some ((b.put F d (fun _ j=>if iO i.zero j then .S else Dw b v 0 0)).nrm F)else none
  | some i, .one (.pp _ _ _ _)=>bif Ac F b d v then(bif al then some ((b.put F d (fun _ _=> .F)).nrm F)else some ((b.put F d (fun _ j=>if iO i.zero j then .S else .V)).nrm F))else none
  | _,_=>none
 else none

theorem IM(hA:Ag F b x){v:Operand}(hk:cR b v=true){ob p:Nat}(hv:ev x.sl v= .one (.ptr ob p)):mM F v= .one (.ptr ob p):=by
 rcases AF hA hk hv (by simp)with hf | ⟨_,hs⟩
 ·cases hs:mM F v with
  | tup ws=>rw[hs]at hf; simp [Own.fits]at hf
  | one y=>
   rw[hs]at hf; cases y<;>simp [Own.fits,bP]at hf
   obtain⟨rfl,rfl⟩:=hf; rfl
 ·exact hs

theorem Rk(hA:Ag F b x){v:Operand}(hk:cR b v=true){xs:List T}(hv:ev x.sl v= .one (.cp xs)): ∃ys,mM F v= .one (.cp ys):=by
 rcases AF hA hk hv (by simp)with hf | ⟨_,hs⟩
 ·cases hs:mM F v with
  | tup ws=>rw[hs]at hf; simp [Own.fits]at hf
  | one y=>
   rw[hs]at hf; cases y<;>simp [Own.fits,bP]at hf
   exact⟨_,rfl⟩
 ·exact⟨_,hs⟩

theorem NR(hA:Ag F b x){v:Operand}(hk:cR b v=true){l:Loc}{p:List (Nat×Nat)}{i j:Nat}(hv:ev x.sl v= .one (.pp l p i j)): ∃t p' i',v= .tmp t∧mM F v= .one (.pp l p' i' j):=by
 cases v with
 | tmp t=>
  rcases AF hA hk hv (by simp)with hf | ⟨hn,hs⟩
  ·cases hs:mM F (.tmp t)with
   | tup ws=>rw[hs]at hf; simp [Own.fits]at hf
   | one y=>
    rw[hs]at hf; cases y<;>simp [Own.fits,bP]at hf
    obtain⟨⟨rfl,_⟩,rfl⟩:=hf; exact⟨t,_,_,rfl,rfl⟩
  ·exact absurd rfl (hn t)
 | const u=>have hv:bG u=_:=hv; unfold bG at hv; (repeat' split at hv)<;>cases hv
 | _=>cases hv

theorem Ty(hT:aY P τ)(hA:Ag F b x){t:TypeId}{v:Operand}{al take:Bool}(hd:o.dst=some d)(ho:o.op= .load t v)(h1:pT τ F x d t v al=some x')(h2:Nd τ F b d t v al take=some b'):OpS P F F.n o b x b' x':=by
 unfold Nd at h2; obtain⟨hc,h2⟩:=aI h2; simp only[z7]at hc; obtain⟨c1,c2⟩:=hc; unfold pT at h1; split at h1
 ·-- an object's cells
  rename_i i ob p hi hv; split at h1<;>try cases h1
  rename_i cells hcells; rw[hi,IM hA c2 hv]at h2; simp only at h2; cases al with
  | true=>
   simp only[z17]at h1 h2; obtain⟨hs,h1⟩:=aI h1; obtain⟨hk,h2⟩:=aI h2; simp only[z7]at hs hk; obtain⟨e1,rfl⟩:=bU h1; cases h2; obtain⟨e,he⟩:=Jm hs.1; obtain⟨es,hes⟩:=PL hs.2; exact OpS.put0 hA e1 (fun g0 w0=>HR hT hd (cD c1) ho hi he (by rw[mW c2]; exact hv) (by rw[JJ hk.1]; exact hcells) hes hk.2)
  | false=>
   simp only[z12]at h1 h2; split at h1<;>try cases h1
   rename_i r hr; obtain⟨e1,rfl⟩:=bU h1; obtain⟨hk,h2⟩:=aI h2; cases h2; have hl: ∀j∈NV F b d ob p take, ∃y,r.leaf 0 j=some y:=fun j hj=>by
    unfold NV at hj; cases take with
    | false=>simp at hj
    | true=>
     simp only[z17]at hj; have hj:=(z74.1 hj).1; obtain⟨⟨k,j'⟩,hm,rfl⟩:=z51.1 hj; obtain⟨y,hy⟩:=oT e1 hm; obtain⟨rfl,_⟩:=tX hr hy; exact⟨y,hy⟩
   refine OpS.put hA e1 (fun g0 w0=> ?_) (fun m hm=> ?_)
   ·exact Qj (st:=b.S F.n x) hT (NV F b d ob p take) hd (cD c1) ho hi (by rw[mW c2]; exact hv) (by rw[JJ hk]; exact hcells) hr hl
   ·obtain⟨j,hj,rfl⟩:=z51.1 hm
    obtain⟨y,hy⟩:=hl j hj; obtain⟨_,hy2⟩:=tX hr hy; exact⟨⟨hk,rfl,y,by simp only[D.at,atL,hcells,z8]; rw[z56]at hy2; exact hy2⟩,0,j,rfl,y,hy⟩
 ·-- cells that are read
  rename_i i xs hi hv; split at h1<;>try cases h1
  rename_i r hr; obtain⟨e1,rfl⟩:=bU h1; obtain⟨ys,hs⟩:=Rk hA c2 hv; rw[hi,hs]at h2; obtain⟨hk,h2⟩:=aI h2; cases h2; refine OpS.put0 hA e1 (fun g0 w0=> ?_)
  have:=Ik (g0:=g0) (w0:=w0) (st:=b.S F.n x) hT hd (cD c1) ho hi (by rw[mW c2]; exact hv) (by rw[qR]; simpa using hk) hr
  rw[qR]at this; exact this
 ·-- a place's cells
  rename_i i l p n j hi hv; split at h1<;>try cases h1
  rename_i es hnav; split at h1<;>try cases h1
  rename_i row hrow; obtain⟨tv,p',i',rfl,hs⟩:=NR hA c2 hv; rw[hi,hs]at h2; obtain⟨ha,h2⟩:=aI h2; obtain⟨a1,a2,a3,a4⟩:=qO hA c2 ha (.inr ⟨p,n,j,hv⟩); simp only[z18]at hnav; obtain⟨x0,hx0,hnav⟩:=hnav; cases al with
  | true=>
   simp only[z17]at h1 h2; obtain⟨hs,h1⟩:=aI h1; simp only[z7]at hs; obtain⟨e1,rfl⟩:=bU h1; cases h2; obtain⟨e,he⟩:=Jm hs.1; obtain⟨es',hes⟩:=PL hs.2; exact OpS.put0 hA e1 (fun g0 w0=>zW hT hd (cD c1) ho hi he (by rw[oK c2]; exact hv) a1 a3 a2 (by rw[Hr a4]; exact hx0) hnav hrow hes)
  | false=>
   simp only[z12]at h1 h2; split at h1<;>try cases h1
   rename_i r hr; obtain⟨e1,rfl⟩:=bU h1; cases h2; exact OpS.put0 hA e1 (fun g0 w0=>HQ hT hd (cD c1) ho hi (by rw[oK c2]; exact hv) a1 a3 (by rw[Hr a4]; exact hx0) hnav hrow hr)
 ·cases h1

def NX(d:Nat):V→Bool
 | .one (.ptr o p)=>Nat.beq o d&&Nat.beq p 0
 | _=>false
theorem Jn{d:Nat}{v:V}(h:NX d v=true):v= .one (.ptr d 0):=by
 unfold NX at h; split at h
 ·simp only[z7]at h
  rw[z16 h.1,z16 h.2]
 ·cases h

def Aa(τ:TypeId→Option TI)(F:FA)(x:D)(d:Nat)(t:TypeId):Option D:=match τ t with
 | some i=>bif eH i.zero (F.obOf d)then some ((x.put d (.one (.ptr d 0))).setO d i.zero)else none
 | none=>none
def Ld(τ:TypeId→Option TI)(F:FA)(b:B)(d:Nat)(t:TypeId):Option B:=match τ t with
 | some i=>bif Nat.blt d F.n&&NX d (F.shOf d)then some ((b.alloc F d (Bb i.zero)).nrm F)else none
 | none=>none

theorem RL(hT:aY P τ)(hA:Ag F b x){t:TypeId}(hd:o.dst=some d)(ho:o.op= .alloc t)(h1:Aa τ F x d t=some x')(h2:Ld τ F b d t=some b'):OpS P F F.n o b x b' x':=by
 unfold Ld at h2; unfold Aa at h1; split at h2<;>try cases h2
 rename_i i hi; rw[hi]at h1; obtain⟨hc,h2⟩:=aI h2; simp only[z7]at hc; obtain⟨e1,h1⟩:=aI h1; cases h1; cases h2; have hs:=Jn hc.2; exact OpS.fin (hA.alloc hs e1) (fun g0 w0=>PF hT hd (cD hc.1) ho hi) (HC hA (Low.self _ _ _) e1 (fun _=>cV _))

def Nv(F:FA)(x:D)(d:Nat)(v:Operand):Option D:=match v with
 | .tmp t=>(match aT (x.sl t)with
  | some xs=>bif eH xs (F.obOf d)then some ((x.put d (.one (.ptr d 0))).setO d xs)else none
  | none=>none)
 | _=>none
def boxM(F:FA)(b:B)(d t:Nat):List Nat:=(range' 0 (F.obOf d).length).filter fun j=>(b.kd (.s t 0 j)).hold
def cBox(F:FA)(b:B)(d:Nat)(v:Operand):Option B:=match v with
 | .tmp t=>bif Nat.blt d F.n&&NX d (F.shOf d)&&b.has t&&tH F d t then
   some (((b.alloc F d (fun j=>(b.kd (.s t 0 j)).cp)).mvs F ((boxM F b d t).map fun j=>(.s t 0 j, .oc d j))).nrm F)else none
 | _=>none

theorem box_S(hA:Ag F b x){ty:TypeId}{v:Operand}(hd:o.dst=some d)(ho:o.op= .box ty v)(h1:Nv F x d v=some x')(h2:cBox F b d v=some b'):OpS P F F.n o b x b' x':=by
 cases v with
 | tmp t=>
  simp only[cBox]at h2; obtain⟨hc,h2⟩:=aI h2; simp only[z7]at hc; obtain⟨⟨⟨c1,c2⟩,c3⟩,c4⟩:=hc; cases h2; simp only[Nv]at h1; split at h1<;>try cases h1
  rename_i xs hxs; obtain⟨e1,h1⟩:=aI h1; cases h1; have hs:=Jn c2; have hne:t≠d:=fun e=>by subst e; simp [tH,z42]at c4
  have hM: ∀j∈boxM F b d t,j<xs.length:=fun j hj=>by
   have:=(oJ.1 (z74.1 hj).1).2; rw[xI e1]; omega
  refine OpS.fin ((hA.alloc hs e1).mvs _) (fun g0 w0=>VT (boxM F b d t) hd (cD c1) ho (by rw[oK c3]; exact hxs) hne hM) (IB (hA.alloc hs e1) (HC hA (Low.self _ _ _) e1 (fun _=>cV _)) (fun m hm=> ?_))
  obtain⟨j,hj,rfl⟩:=z51.1 hm; have hlt:=hM j hj; refine⟨⟨?_,xs[j], ?_⟩, ?_,xs[j], ?_⟩
  ·show(b.alloc F d _).has t=true
   rw[CB,cU hne,c4,c3]; rfl
  ·simp only[D.at,atL,D.setO,D.put,z13 hne]
   rw[zL hxs j,z14 hlt]
  ·show(b.alloc F d _).hasO d=true
   rw[zO,z42]; rfl
  ·simp only[D.at,atL,D.setO,if_true,z8]
   exact z14 hlt
 | _=>cases h2

def qT(F:FA)(x:D)(i:TI)(ob p:Nat)(xs:List T):Option D:=match x.ob ob with
 | some cells=>bif Nat.beq xs.length i.size&&Nat.ble (p+xs.length) cells.length&&eH (cells.take p++xs++cells.drop (p+xs.length)) (F.obOf ob)then some (x.setO ob (cells.take p++xs++cells.drop (p+xs.length)))else none
 | none=>none
def GE(F:FA)(b:B):Operand→List (Nat×Nat)
 | .tmp t=>((lF (F.shOf t)).filter fun m=>Nat.beq m.1 0&&(b.kd (.s t 0 m.2)).hold).map fun m=>(t,m.2)
 | _=> []
def BY(F:FA)(b:B)(i:TI)(ob p:Nat)(v y:Operand):Option B:=
 bif cR b v&&cR b y&&b.hasO ob then
  some (((b.write F ob p i.size (Dw b y 0)).mvs F ((GE F b y).map fun m=>(.s m.1 0 m.2, .oc ob (p+m.2)))).nrm F)else none

theorem QO(hT:aY P τ)(hA:Ag F b x){t:TypeId}{v y:Operand}{i:TI}{ob p:Nat}{xs:List T}(hd:o.dst=none)(ho:o.op= .store t v y)(hi:τ t=some i)(hv:ev x.sl v= .one (.ptr ob p))(hy:aT (ev x.sl y)=some xs)
  (h1:qT F x i ob p xs=some x')(h2:BY F b i ob p v y=some b'):OpS P F F.n o b x b' x':=by
 unfold BY at h2; obtain⟨hc,h2⟩:=aI h2; simp only[z7]at hc; obtain⟨⟨c1,c2⟩,c3⟩:=hc; cases h2; unfold qT at h1; split at h1<;>try cases h1
 rename_i cells hcells; obtain⟨hq,h1⟩:=aI h1; simp only[z7]at hq; obtain⟨⟨q1,q2⟩,q3⟩:=hq; cases h1; have hsz:=z16 q1; have hle:=z33 q2; have hM: ∀m∈GE F b y,m.2<xs.length∧y= .tmp m.1∧ ∃t,(x.sl m.1).leaf 0 m.2=some t:=fun m hm=>by
  cases y with
  | tmp t'=>
   simp only[GE,z51]at hm; obtain⟨⟨k,j⟩,hm,rfl⟩:=hm; have hm:=z74.1 hm; simp only[z7]at hm; have hk0:=z16 hm.2.1; subst hk0; have hj:x.sl t'≠ .tup []:=fun e=>by have hy:aT (x.sl t')=some xs:=hy; rw[e]at hy; simp [aT]at hy
   obtain⟨u,hu⟩:=oT (hA.fits c2 hj) hm.1; refine⟨?_,rfl,u,hu⟩
   have hu':(ev x.sl (.tmp t')).leaf 0 j=some u:=hu; rw[zL hy]at hu'; exact bW hu'
  | _=>simp [GE]at hm
 have h3:=MQ hA (Low.self F.n b x) (p:=p) (xs:=xs) (κ:=Dw b y 0) hcells hle; have hAw:=hA.write (o:=ob) (p:=p) (m:=xs.length) (κ:=Dw b y 0) q3; rw[←hsz]; refine OpS.fin (hAw.mvs _) (fun g0 w0=> ?_) (IB hAw h3 (fun m hm=> ?_))
 ·have:=OD (P:=P) (g0:=g0) (w0:=w0) (st:=b.S F.n x) hT (GE F b y) hd ho hi (by rw[mW c1]; exact hv) (by rw[JJ c3]; exact hcells) (by rw[mW c2]; exact hy) hsz hle (fun m hm=>by
   obtain⟨a1,a2,_⟩:=hM m hm; exact⟨a1,a2⟩)
  rw[qR]at this; exact this
 ·obtain⟨m',hm',rfl⟩:=z51.1 hm
  obtain⟨a1,rfl,u,a3⟩:=hM m' hm'; refine⟨⟨?_,u,a3⟩, ?_, ?_⟩
  ·show(b.write F ob p xs.length _).has m'.1=true
   rw[wU,hA.leaf_root c2 a3]; exact(z7 _ _).mpr ⟨rfl,c2⟩
  ·show(b.write F ob p xs.length _).hasO ob=true
   rw[tU]; exact c3
  ·refine⟨xs[m'.2], ?_⟩
   simp only[D.at,atL,D.setO,if_true,z8]; rw[pL cells xs p hle,z19 ⟨by omega,by omega⟩,z77]
   exact z14 a1
end
end Go.Own

namespace Go.Own
open Go.RowKit

section
variable {P:Program} {τ:TypeId→Option TI} {F:FA} {o:Oper} {b b':B} {x x':D} {d:Nat}

theorem OpS.setPut{n:Nat}{s1:St}{b1:B}(hA:Ag F b1 x)(h1:Low n b1 x s1){r:V}{κ:Nat→Nat→K}(hr:Own.fits r (F.shOf d)=true)(h: ∀g0 w0,nL P g0 w0 o (b.S n x) (s1.put d r κ)):OpS P F n o b x ((b1.put F d κ).nrm F) (x.put d r):=
 OpS.fin (hA.put (.inr hr)) h (EZ hA h1 (.inr hr) (fun _ _ _ _=>cV _) (fun _ _ _=>cV _) (fun _ h=>h))

def B.killV(F:FA)(b:B):B:=b.setf F (fun _=>false) (fun _ q=>if q= .V then .D else q)

theorem Bu{n:Nat}(hA:Ag F b x):Low n (b.killV F) x (b.S n x).killV:=
 iR hA (Low.self n b x) rfl (fun _ _ _=>cV _) (fun _ _ _ hf=>hf)

def B.lowO(F:FA)(b:B)(l:Loc):B:=if l.place then b.setf F (fun m=>decide (m=l)) (fun m q=>if m=l then .D else q)else b

theorem Ag.lowO(hA:Ag F b x)(l:Loc):Ag F (b.lowO F l) x:=by
 unfold B.lowO; split
 ·exact hA.setf _ _
 ·exact hA

theorem Jh{n:Nat}{s:St}(hA:Ag F b x)(h:Low n b x s)(l:Loc):Low n (b.lowO F l) x (s.lowO l):=by
 unfold B.lowO St.lowO; by_cases hp:l.place=true
 ·rw[z19 hp,z19 hp]
  refine iR hA h (by simp [Ne.symm (Loc.place_ne hp).1]) (fun m _ hl=> ?_) (fun i _ hi hf=> ?_)
  ·by_cases e:m=l
   ·rw[z19 e,z19 e]; rfl
   ·rw[z13 e,z13 e]; exact hl
  ·by_cases e:Loc.s i 0 0=l
   ·rw[z19 e]at hf; exact absurd rfl hf
   ·rw[z13 e]at hf ⊢; exact hi hf
 ·rw[z13 hp,z13 hp]; exact h

def yC(τ:TypeId→Option TI)(u:TypeId)(e:TypeId):Bool:=match tk τ u with | some (.sl e')=>Nat.beq e' e | some .str=>true | _=>false
theorem KH{u e:TypeId}(h:yC τ u e=true):tk τ u=some (.sl e)∨tk τ u=some .str:=by
 unfold yC at h; split at h
 ·rename_i e' h1; left; rw[h1,z16 h]
 ·rename_i h1; exact .inr h1
 ·cases h

def Nh(ei:TI)(es1 es2:List (List T)):Bool:=es1.all (fun e=>Nat.beq e.length ei.size)&&es2.all (fun e=>eH e ei.zero)&&Nat.ble (es1.length+es2.length) maxLen&&Nat.ble ((es1.length+es2.length)*ei.bytes) 140737488355328

def qU(τ:TypeId→Option TI)(F:FA)(x:D)(d:Nat)(t u:TypeId)(v y:Operand):Option D:=
 match tk τ t with
 | some (.sl e)=>(match τ e,ev x.sl v,FW (ev x.sl y)with
  | some ei, .one (.c (.sl es1)),some es2=>bif yC τ u e&&Nh ei es1 es2 then qG F x d (.one (.c (.sl (es1++es2))))else none
  | _,_,_=>none)
 | _=>none

def Kp(b:B):Operand→K
 | .tmp t=>b.kd (.s t 0 0)
 | .const v=>gH (bG v) 0 0
 | _=> .S
def tC(b:B):Operand→Loc
 | .tmp t=>if(b.kd (.s t 0 0)).hold then .s t 0 0 else .none
 | _=> .none
def sndB(F:FA)(b:B)(zero:List T)(f:Bool)(y:Operand):Bool:=
 match mM F y with
 | .one (.c (.str _))=>true
 | _=>match Kp b y with
  | .D=>false
  | .V=>nU zero
  | .F=>nU zero|| !f
  | .A s=>(s == zero.length)&&(nU zero|| !f)
  | .U s=>s == zero.length&& !(s == 0)
  | .S=>false
  | .N=>true

def IK(τ:TypeId→Option TI)(F:FA)(b:B)(d:Nat)(t:TypeId)(v y:Operand):Option B:=
 match tk τ t with
 | some (.sl e)=>(match τ e with
  | some ei=>bif Nat.blt d F.n&&cR b v&&cR b y&&(Kp b v).app ei.size&&(!(mem d F.dp)||(Kp b v).deep)&&sndB F b ei.zero (mem d F.dp) y&&(!((tC b y).place)|| !(decide (tC b y=tC b v)))then
    some (((((b.killV F).lowO F (tC b v)).lowO F (tC b y)).put F d (fun _ _=>bif mem d F.dp then .U ei.size else .A ei.size)).nrm F)else none
  | none=>none)
 | _=>none

theorem FB{n:Nat}{v:Operand}:KB (b.S n x) v=Kp b v:=by cases v<;>rfl
theorem xB{n:Nat}{v:Operand}:gY (b.S n x) v=tC b v:=by cases v<;>rfl

theorem QP(hA:Ag F b x){n:Nat}{zero:List T}{f:Bool}{y:Operand}{es:List (List T)}(hk:cR b y=true)(hy:FW (ev x.sl y)=some es)(h:sndB F b zero f y=true):IX (b.S n x) zero f y=true:=by
 have hw: ∃z,ev x.sl y= .one (.c z):=by
  unfold FW at hy; split at hy
  ·rename_i e; exact⟨_,e⟩
  ·rename_i e; exact⟨_,e⟩
  ·cases hy
 obtain⟨z,hz⟩:=hw; have hs: ∃z',mM F y= .one (.c z')∧qX z z'=true:=by
  rcases AF hA hk hz (by simp)with hf | ⟨_,hs⟩
  ·cases hs:mM F y with
   | tup ws=>rw[hs]at hf; simp [Own.fits]at hf
   | one w=>
    rw[hs]at hf; cases w<;>simp [Own.fits,bP]at hf
    exact⟨_,rfl,hf⟩
  ·exact⟨z,hs,by cases z<;>first | (rw[hz]at hy; simp [FW]at hy; done) | simp [qX]⟩
 obtain⟨z',hs,hc⟩:=hs; unfold IX; rw[mW hk,hz,FB]; unfold sndB at h; rw[hs]at h; cases z with
 | str s=>rfl
 | sl es'=>
  cases z'<;>simp [qX]at hc
  simp only at h ⊢; revert h
  cases Kp b y<;>simp
 | hole=>rw[hz]at hy; simp [FW]at hy
 | int k m=>rw[hz]at hy; simp [FW]at hy
 | bool m=>rw[hz]at hy; simp [FW]at hy
 | np=>rw[hz]at hy; simp [FW]at hy

theorem PD(hT:aY P τ)(hA:Ag F b x){t u:TypeId}{v y:Operand}(hd:o.dst=some d)(ho:o.op= .call { callee:= .builtin .append,args:= #[v,y],argTypes:= #[t,u] })
  (h1:qU τ F x d t u v y=some x')(h2:IK τ F b d t v y=some b'):OpS P F F.n o b x b' x':=by
 unfold qU at h1; split at h1<;>try cases h1
 rename_i e he; split at h1<;>try cases h1
 rename_i ei es1 es2 hei hv hy; obtain⟨hq,h1⟩:=aI h1; simp only[z7]at hq; obtain⟨q1,q2⟩:=hq; obtain⟨e1,rfl⟩:=bU h1; unfold IK at h2; rw[he]at h2; simp only[hei]at h2; obtain⟨hc,h2⟩:=aI h2; simp only[z7]at hc; obtain⟨⟨⟨⟨⟨⟨c1,c2⟩,c3⟩,c4⟩,c5⟩,c6⟩,c7⟩:=hc; cases h2; simp only[Nh,z7]at q2; obtain⟨⟨⟨a1,a2⟩,a3⟩,a4⟩:=q2; have hA0:Ag F (b.killV F) x:=hA.setf _ _; have hA1:=hA0.lowO (F:=F) (tC b v); refine OpS.setPut (hA1.lowO (tC b y)) (Jh hA1 (Jh hA0 (Bu (n:=F.n) hA) (tC b v)) (tC b y)) e1 (fun g0 w0=> ?_)
 have:=NF (P:=P) (g0:=g0) (w0:=w0) (st:=b.S F.n x) hT (mem d F.dp) hd (cD c1) ho he (KH q1) hei (by rw[mW c2]; exact hv) (by rw[FB]; exact c4)
  (fun hf=>by rw[FB]; rw[hf]at c5; simpa using c5) (by rw[mW c3]; exact hy) (QP hA c3 hy c6) (fun hp=>by
   rw[xB]at hp ⊢; rw[xB]; rw[hp]at c7; simpa using c7) (fun e' he'=>z16 (z15.1 a1 e' he')) (fun e' he'=>z15.1 a2 e' he') (z33 a3) (z33 a4)
 rw[xB,xB]at this; cases hm:mem d F.dp with
 | true=>rw[hm]at this; exact this
 | false=>rw[hm]at this; exact this

def sY:List V→Option (List (List T))
 | []=>some []
 | v::r=>match aT v,sY r with
  | some xs,some xss=>some (xs::xss)
  | _,_=>none
theorem CV: ∀ {l:List V} {es:List (List T)},sY l=some es→l.map aT=es.map some
 | [],es,h=>by cases h; rfl
 | v::r,es,h=>by
  unfold sY at h; split at h<;>try cases h
  rename_i xs xss h1 h2; simp [h1,CV h2]

def yD:Nat→List (Nat×Operand)→Bool
 | _,[]=>true
 | i,p::r=>Nat.beq p.1 i&&yD (i+1) r
theorem ED: ∀ {l:List (Nat×Operand)} {i:Nat},yD i l=true→l=((l.map (·.2)).zipIdx i).map fun p=>(p.2,p.1)
 | [],i,_=>rfl
 | p::r,i,h=>by
  simp only[yD,z7]at h; simp only[z61,z158]; have:=z16 h.1; rw[←ED h.2, ←this]

def Ss(t:Nat)(l:List Operand):Bool:=l.all (GH t)
def pH:List Operand→Bool
 | []=>true
 | .tmp t::r=>Ss t r&&pH r
 | _::r=>pH r
theorem Ja{t:Nat}: ∀ {l:List Operand} {i:Nat},Ss t l=true→l[i]? ≠some (.tmp t):=by
 intro l i h e; have:=z15.1 h _ (z24 e); simp [GH,z42]at this
theorem CP: ∀ {l:List Operand},pH l=true→ ∀(i i' t:Nat),l[i]? =some (Operand.tmp t)→l[i']? =some (Operand.tmp t)→i=i'
 | [],_,_,_,_,h,_=>by simp at h
 | p::r,h,i,i',t,h1,h2=>by
  have hr:pH r=true:=by
   cases p with
   | tmp t'=>simp only[pH,z7]at h; exact h.2
   | _=>exact h
  cases i with
  | zero=>
   cases i' with
   | zero=>rfl
   | succ i'=>
    exfalso
    simp only[z20,z10]at h1
    subst h1; simp only[pH,z7]at h; simp only[z23]at h2
    exact Ja h.1 h2
  | succ i=>
   cases i' with
   | zero=>
    exfalso
    simp only[z20,z10]at h2
    subst h2; simp only[pH,z7]at h; simp only[z23]at h1
    exact Ja h.1 h1
   | succ i'=>
    simp only[z23]at h1 h2
    rw[CP hr i i' t h1 h2]

def LK(τ:TypeId→Option TI)(F:FA)(x:D)(d:Nat)(t:TypeId)(n:Nat)(parts:Array (Nat×Operand)):Option D:=
 match tk τ t with
 | some (.sl e)=>(match τ e,sY ((parts.toList.map (·.2)).map (ev x.sl))with
  | some ei,some es=>bif yD 0 parts.toList&&Nat.beq n parts.toList.length&&es.all (fun e=>Nat.beq e.length ei.size)&&Nat.ble (n*ei.size) 16777216 then qG F x d (.one (.c (.sl es)))else none
  | _,_=>none)
 | _=>none
def IQ(b:B):Operand→Nat→K
 | .tmp t,j=>b.kd (.s t 0 j)
 | .const v,j=>gH (bG v) 0 j
 | _,_=> .D
def B.lowT(F:FA)(b:B)(ps:List Operand):B:=b.setf F (dD ps) (fun m q=>if dD ps m=true∧q.hold=true then .D else q)
def cLit(τ:TypeId→Option TI)(F:FA)(b:B)(d:Nat)(t:TypeId)(parts:Array (Nat×Operand)):Option B:=
 match tk τ t with
 | some (.sl e)=>(match τ e with
  | some ei=>bif Nat.blt d F.n&&(parts.toList.map (·.2)).all (cR b)&&pH (parts.toList.map (·.2))&&(parts.toList.map (·.2)).all (fun v=>(range' 0 ei.size).all fun j=>(IQ b v j).part (mem d F.dp))then
    some (((b.lowT F (parts.toList.map (·.2))).put F d (fun _ _=>bif mem d F.dp then .U ei.size else .A ei.size)).nrm F)else none
  | none=>none)
 | _=>none

theorem OU{n:Nat}(hA:Ag F b x)(ps:List Operand):Low n (b.lowT F ps) x ((b.S n x).lowT ps):=
 iR hA (Low.self n b x) rfl (fun _ _ _=>cV _) (fun _ _ _ hf=>hf)

theorem lit_S(hT:aY P τ)(hA:Ag F b x){t:TypeId}{n:Nat}{parts:Array (Nat×Operand)}(hd:o.dst=some d)(ho:o.op= .buildSlice t n parts)
  (h1:LK τ F x d t n parts=some x')(h2:cLit τ F b d t parts=some b'):OpS P F F.n o b x b' x':=by
 unfold LK at h1; split at h1<;>try cases h1
 rename_i e he; split at h1<;>try cases h1
 rename_i ei es hei hes; obtain⟨hq,h1⟩:=aI h1; simp only[z7]at hq; obtain⟨⟨⟨q1,q2⟩,q3⟩,q4⟩:=hq; obtain⟨e1,rfl⟩:=bU h1; unfold cLit at h2; rw[he]at h2; simp only[hei]at h2; obtain⟨hc,h2⟩:=aI h2; simp only[z7]at hc; obtain⟨⟨⟨c1,c2⟩,c3⟩,c4⟩:=hc; cases h2; have hps:(parts.toList.map (·.2)).map (fun v=>aT (ev (b.S F.n x).sl v))=es.map some:=by
  rw[←CV hes]; have key: ∀ps:List Operand,ps.all (cR b)=true→ps.map (fun v=>aT (ev (b.S F.n x).sl v))=(ps.map (ev x.sl)).map aT:=fun ps h=>by
   rw[TE]; refine z49 fun v hv=> ?_
   simp only[Function.comp]; rw[mW (z15.1 h v hv)]
  exact key _ c2
 refine OpS.setPut (hA.setf _ _) (OU (n:=F.n) hA _) e1 (fun g0 w0=> ?_)
 have:=Tz (P:=P) (g0:=g0) (w0:=w0) (st:=b.S F.n x) hT (mem d F.dp) hd (cD c1) ho (ED q1) (by rw[z89]; exact z16 q2) he hei hps
  (fun e' he'=>z16 (z15.1 q3 e' he')) (z33 q4) (CP c3) (fun v hv j hj=>by
   have h:=z15.1 (z15.1 c4 v hv) j (oJ.2 ⟨LD _,by omega⟩)
   have e:Cy (b.S F.n x) v j=IQ b v j:=by cases v<;>rfl
   rw[e]; exact h)
 cases hm:mem d F.dp with
 | true=>rw[hm]at this; exact this
 | false=>rw[hm]at this; exact this

def DD(τ:TypeId→Option TI)(F:FA)(x:D)(d:Nat)(t:TypeId)(v y:Operand):Option D:=
 match tk τ t with
 | some (.sl e)=>(match τ e,ev x.sl v,ev x.sl y with
  | some ei, .one (.c (.int _ n)), .one (.c (.int _ n'))=>if n=n'∧0≤n∧n≤maxLen∧ei.bytes*n≤281474976710656 then qG F x d (.one (.c (.sl (List.replicate n.toNat ei.zero))))else none
  | _,_,_=>none)
 | _=>none
def QG(τ:TypeId→Option TI)(F:FA)(b:B)(d:Nat)(t:TypeId)(v y:Operand):Option B:=
 match tk τ t with
 | some (.sl e)=>(match τ e with
  | some ei=>bif Nat.blt d F.n&&cR b v&&cR b y then some ((b.put F d (fun _ _=> .U ei.size)).nrm F)else none
  | none=>none)
 | _=>none

theorem Tx(hT:aY P τ)(hA:Ag F b x){t:TypeId}{v y:Operand}(hd:o.dst=some d)(ho:o.op= .makeSlice t v y)
  (h1:DD τ F x d t v y=some x')(h2:QG τ F b d t v y=some b'):OpS P F F.n o b x b' x':=by
 unfold DD at h1; split at h1<;>try cases h1
 rename_i e he; split at h1<;>try cases h1
 rename_i ei k n k' n' hei hv hy; split at h1<;>try cases h1
 rename_i hq; obtain⟨rfl,q1,q2,q3⟩:=hq; obtain⟨e1,rfl⟩:=bU h1; unfold QG at h2; rw[he]at h2; simp only[hei]at h2; obtain⟨hc,h2⟩:=aI h2; simp only[z7]at hc; obtain⟨⟨c1,c2⟩,c3⟩:=hc; cases h2; exact OpS.put0 hA e1 (fun g0 w0=>Qg hT hd (cD c1) ho he hei (by rw[mW c2]; exact hv) (by rw[mW c3]; exact hy) q1 q2 q3)
end
end Go.Own

namespace Go.Own
open Go.RowKit

section
variable {P:Program} {τ:TypeId→Option TI} {F:FA} {o:Oper} {b b':B} {x x':D} {d:Nat}

theorem ER(fs:List (Nat×Nat×Bool)): ∀(l:List (Nat×V)) {cs rs:List T},qQ fs cs l=some rs→rs.length=cs.length
 | [],cs,rs,h=>by cases h; rfl
 | (i,v)::r,cs,rs,h=>by
  unfold qQ at h; split at h<;>try cases h
  rename_i off size _ xs h1 h2; split at h<;>try cases h
  rename_i hq; rw[ER fs r h]; simp only[z30,z38,z65]; omega

theorem CX(fs:List (Nat×Nat×Bool)): ∀(l:List (Nat×V)) {cs rs:List T},qQ fs cs l=some rs→ ∀ {p i:Nat} {v:V},l[p]? =some (i,v)→ ∃off size bb xs,fs[i]? =some (off,size,bb)∧aT v=some xs∧xs.length=size∧off+size≤cs.length
 | [],cs,rs,h,p,i,v,hp=>by simp at hp
 | (i0,v0)::r,cs,rs,h,p,i,v,hp=>by
  unfold qQ at h; split at h<;>try cases h
  rename_i off size bb xs h1 h2; split at h<;>try cases h
  rename_i hq; cases p with
  | zero=>
   simp only[z20,z10,z48]at hp
   obtain⟨rfl,rfl⟩:=hp; exact⟨off,size,bb,xs,h1,h2,hq.1,hq.2⟩
  | succ p=>
   simp only[z23]at hp
   obtain⟨off',size',bb',xs',e1,e2,e3,e4⟩:=CX fs r h hp; refine⟨off',size',bb',xs',e1,e2,e3, ?_⟩
   simp only[z30,z38,z65]at e4; omega

def Sv(fs:List (Nat×Nat×Bool))(k:Nat)(ps:List (Nat×Operand)):Bool:=ps.all fun p=>match fs[p.1]? with
 | some (off,size,_)=>Nat.blt k off||Nat.ble (off+size) k
 | none=>true
theorem On{fs:List (Nat×Nat×Bool)}{k:Nat}{ps:List (Nat×Operand)}(h:Sv fs k ps=true):AZ fs k ps:=by
 intro p hp off size bb hf; have:=z15.1 h p hp; rw[hf]at this; simp only[z50]at this; rcases this with h | h
 ·exact .inl (z33 h)
 ·exact .inr (z33 h)

def vS(b:B)(d:Nat)(fs:List (Nat×Nat×Bool)):List (Nat×Operand)→List (Loc×Loc)
 | []=> []
 | (i, .tmp t)::r=>(match fs[i]? with
  | some (off,size,_)=>((range' 0 size).filter fun j=>(b.kd (.s t 0 j)).hold&&Sv fs (off+j) r&& !(Nat.beq t d)).map fun j=>(.s t 0 j, .s d 0 (off+j))
  | none=> [])++vS b d fs r
 | _::r=>vS b d fs r

theorem HB(fs:List (Nat×Nat×Bool)): ∀ {l:List (Nat×Operand)} {m:Loc×Loc},m∈vS b d fs l→ ∃(p i off size j t:Nat) (bb:Bool),l[p]? =some (i,Operand.tmp t)∧fs[i]? =some (off,size,bb)∧j<size∧AZ fs (off+j) (l.drop (p+1))∧m=(.s t 0 j, .s d 0 (off+j))∧t≠d
 | [],m,h=>by simp [vS]at h
 | (i,v)::r,m,h=>by
  have rest:m∈vS b d fs r→ ∃(p i' off size j t:Nat) (bb:Bool),((i,v)::r)[p]? =some (i',Operand.tmp t)∧fs[i']? =some (off,size,bb)∧j<size∧AZ fs (off+j) (((i,v)::r).drop (p+1))∧m=(.s t 0 j, .s d 0 (off+j))∧t≠d:=fun h=>by
   obtain⟨p,i',off,size,j,t,bb,h1,h2⟩:=HB fs h; exact⟨p+1,i',off,size,j,t,bb,h1,h2⟩
  cases v with
  | tmp t=>
   simp only[vS,z78]at h; rcases h with h | h
   ·split at h
    ·rename_i off size bb hf
     obtain⟨j,hj,rfl⟩:=z51.1 h; have hj:=z74.1 hj; simp only[z7]at hj; obtain⟨q1,⟨_,q2⟩,q3⟩:=hj; exact⟨0,i,off,size,j,t,bb,rfl,hf,by have:=(oJ.1 q1).2; omega,On q2,rfl,fun e=>by subst e; simp [z42]at q3⟩
    ·simp at h
   ·exact rest h
  | _=>exact rest h

def vP(τ:TypeId→Option TI)(F:FA)(x:D)(d:Nat)(t:TypeId)(parts:Array (Nat×Operand)):Option D:=
 match τ t with
 | some ti=>(match ti.kind with
  | .struct fs=>(match qQ fs ti.zero (parts.toList.map fun p=>(p.1,ev x.sl p.2))with
   | some rs=>qG F x d (.one (.ag rs))
   | none=>none)
  | _=>none)
 | none=>none
def Lc(τ:TypeId→Option TI)(F:FA)(b:B)(d:Nat)(t:TypeId)(parts:Array (Nat×Operand)):Option B:=
 match τ t with
 | some ti=>(match ti.kind with
  | .struct fs=>bif Nat.blt d F.n&&parts.toList.all (fun p=>cR b p.2)then
    some (((b.put F d (fun _=>Ab fs (Bb ti.zero) (parts.toList.map fun p=>(p.1,Dw b p.2 0)))).mvs F (vS b d fs parts.toList)).nrm F)else none
  | _=>none)
 | none=>none

theorem RI(hT:aY P τ)(hA:Ag F b x){t:TypeId}{parts:Array (Nat×Operand)}(hd:o.dst=some d)(ho:o.op= .build t parts)
  (h1:vP τ F x d t parts=some x')(h2:Lc τ F b d t parts=some b'):OpS P F F.n o b x b' x':=by
 unfold vP at h1; split at h1<;>try cases h1
 rename_i ti hti; split at h1<;>try cases h1
 rename_i fs hfs; split at h1<;>try cases h1
 rename_i rs hrs; obtain⟨e1,rfl⟩:=bU h1; unfold Lc at h2; rw[hti]at h2; simp only[hfs]at h2; obtain⟨hc,h2⟩:=aI h2; simp only[z7]at hc; obtain⟨c1,c2⟩:=hc; cases h2; have hk: ∀p∈parts.toList,cR b p.2=true:=fun p hp=>z15.1 c2 p hp
 have hmap:parts.toList.map (fun p=>(p.1,ev (b.S F.n x).sl p.2))=parts.toList.map (fun p=>(p.1,ev x.sl p.2)):=z49 fun p hp=>by rw[mW (hk p hp)]
 have hM: ∀m∈vS b d fs parts.toList, ∃(p i off size j t':Nat) (bb:Bool),parts.toList[p]? =some (i,Operand.tmp t')∧fs[i]? =some (off,size,bb)∧j<size∧AZ fs (off+j) (parts.toList.drop (p+1))∧m=(.s t' 0 j, .s d 0 (off+j))∧t'≠d∧(∃y,(x.sl t').leaf 0 j=some y)∧b.has t'=true∧off+j<rs.length:=fun m hm=>by
  obtain⟨p,i,off,size,j,t',bb,h1,h2,h3,h4,h5,h6⟩:=HB fs hm; have hp:(parts.toList.map fun p=>(p.1,ev x.sl p.2))[p]? =some (i,x.sl t'):=by rw[z36,h1]; rfl
  obtain⟨off',size',bb',xs,e1,e2,e3,e4⟩:=CX fs _ hrs hp; rw[h2]at e1; cases e1; refine⟨p,i,off,size,j,t',bb,h1,h2,h3,h4,h5,h6,⟨xs[j], ?_⟩,hk _ (bI h1), ?_⟩
  ·rw[zL e2 j]; exact z14 (by omega)
  ·rw[ER fs _ hrs]; omega
 refine OpS.put hA e1 (fun g0 w0=> ?_) (fun m hm=> ?_)
 ·have:=PA (P:=P) (g0:=g0) (w0:=w0) (st:=b.S F.n x) hT (vS b d fs parts.toList) hd (cD c1) ho hti hfs (by rw[hmap]; exact hrs) (fun m hm=>by
   obtain⟨p,i,off,size,j,t',bb,h1,h2,h3,h4,h5,h6,⟨y,h7⟩,h8,_⟩:=hM m hm; exact⟨p,i,off,size,j,t',bb,h1,h2,h3,h4,h5,h6,y,by rw[St.at_s,oK h8]; exact h7⟩)
  have e:(parts.toList.map fun p=>(p.1,opK (b.S F.n x) p.2 0))=parts.toList.map fun p=>(p.1,Dw b p.2 0):=z49 fun p _=>by rw[qR]
  rw[e]at this; exact this
 ·obtain⟨p,i,off,size,j,t',bb,h1,h2,h3,h4,rfl,h6,⟨y,h7⟩,h8,h9⟩:=hM m hm
  exact⟨⟨h8,by simp [aS,h6],y,h7⟩,0,off+j,rfl,rs[off+j],z14 h9⟩

end
end Go.Own

namespace Go.Own
open Go.RowKit

def cJ:T→List (Nat×Nat)→T→T
 | _,[],y=>y
 | .sl es,(i,j)::p,y=> .sl (es.set i ((es.getD i []).set j (cJ ((es.getD i []).getD j (.sl [])) p y)))
 | x,_::_,_=>x

theorem uR{α:Type}{l:List α}{i:Nat}{x d:α}(h:l[i]? =some x):l.getD i d=x:=by simp [List.getD,h]

theorem EB{es:List (List T)}{i j:Nat}{row:List T}{c:T}{p:List (Nat×Nat)}{y:T}(h1:es[i]? =some row)(h2:row[j]? =some c):cJ (.sl es) ((i,j)::p) y= .sl (es.set i (row.set j (cJ c p y))):=by
 simp only[cJ,uR h1,uR h2]

theorem jV{α:Type}{l:List α}{i:Nat}{y:α}(k:Nat)(h:i<l.length):(l.set i y)[k]? =if k=i then some y else l[k]? :=by
 rw[List.getElem?_set]
 by_cases e:i=k
 ·subst e; simp [h]
 ·rw[z13 e,z13 (Ne.symm e)]

theorem Ow.part{w:World}{p:List (Nat×Nat)}: ∀ {Z:Nat→Prop} {t:Option Nat} {F:Nat→Prop} {v:Value} {x:T} {v':Value} {x':T},Ow Z true w t F v x→Pl w v x p v' x'→
  ∃Fp:Nat→Prop,(∀b,Fp b→F b)∧Ow Z true w (if p=[]then t else none) Fp v' x'∧
   ∀(Z':Nat→Prop) (w':World) (N Gd:Nat→Prop) (y:T),(∀b,F b→ ¬ Fp b→Gd b∧w'.heap[b]? =w.heap[b]?)→(∀b,N b→Gd b)→(∀b,N b→F b→Fp b)→Ow Z' true w' (if p=[]then t else none) N v' y→Ow Z' true w' t Gd v (cJ x p y):=by
 induction p with
 | nil=>
  intro Z t F v x v' x' h hp; cases hp; refine⟨F,fun _ h=>h,by simpa using h,fun Z' w' N Gd y _ h2 _ h4=> ?_⟩
  have h4:Ow Z' true w' t N v y:=by simpa using h4
  have:cJ x [] y=y:=by cases x<;>rfl
  rw[this]; exact h4.mono (fun e=>e) (fun e=>by cases e) (fun b hb=>⟨h2 b hb,rfl⟩)
 | cons ij p ih=>
  intro Z t F v x v' x' h hp; cases hp with
  | cons b off len cap es e c y0 i j p v' x' he hy hc hp=>
   classical
   cases h with
   | nil t F a=>simp at he
   | frz F v x hd h=>cases hd
   | sl t F b len cap s arr ty es own cs ht hb hh hl hcl hcap hs ha hm hr=>
    have e1:=hs i e he; have hcell:arr[i*s+j]? =some (cs i j):=hm i e j y0 he hy; rw[bX w b _ arr ty (0,0) hh,z32,e1,hcell]at hc; cases hc; obtain⟨Fp,q1,q2,q3⟩:=ih (hr i e j y0 he hy) hp; refine⟨Fp,fun k hk=>(q1 k hk).1, ?_,fun Z' w' N Gd y h1 h2 h3 h4=> ?_⟩
    ·rw[z13 (by simp)]
     by_cases e:p=[]
     ·rw[z19 e]at q2; exact q2
     ·rw[z13 e]at q2; exact q2
    rw[z13 (by simp)]at h4
    have hjlt:j<e.length:=bW hy; have hilt:i<es.length:=bW he; have hnb: ¬ Fp b:=fun hk=>(q1 b hk).2.1 rfl
    have hNb: ∀k,N k→k≠b:=fun k hk e=>by subst e; exact hnb (h3 k hk hb)
    have hkeep:=h1 b hb hnb; rw[EB he hy]; have hsub:=q3 Z' w' N (fun k=>Gd k∧k≠b∧(if N k then(i,j)else own k)=(i,j)) y (fun k hk hn=>by
     obtain⟨g1,g2⟩:=h1 k hk.1 hn; refine⟨⟨g1,hk.2.1, ?_⟩,g2⟩
     have: ¬ N k:=fun hN=>hn (h3 k hN hk.1)
     rw[z13 this]; exact hk.2.2) (fun k hk=>⟨h2 k hk,hNb k hk,by rw[z19 hk]⟩) (fun k hN hk=>h3 k hN hk.1) (by
      by_cases e:p=[]
      ·rw[z19 e]; exact h4
      ·rw[z13 e]; exact h4)
    refine .sl t Gd b len cap s arr ty _ (fun k=>if N k then(i,j)else own k) cs ht hkeep.1 (hkeep.2.trans hh) (by simpa using hl) hcl hcap (fun i' e' he'=> ?_) ha (fun i' e' j' x he' hx=> ?_) (fun i' e' j' x he' hx=> ?_)
    ·rw[jV i' hilt]at he'
     by_cases ei:i'=i
     ·rw[z19 ei]at he'; cases he'; simpa using e1
     ·rw[z13 ei]at he'; exact hs i' e' he'
    ·rw[jV i' hilt]at he'
     by_cases ei:i'=i
     ·rw[z19 ei]at he'; cases he'
      rw[jV j' hjlt]at hx; by_cases ej:j'=j
      ·rw[ei,ej]; exact hcell
      ·rw[z13 ej]at hx; rw[ei]; exact hm i e j' x he hx
     ·rw[z13 ei]at he'; exact hm i' e' j' x he' hx
    ·have other: ∀e0 x0,es[i']? =some e0→e0[j']? =some x0→(i',j')≠(i,j)→Ow Z' true w' none (fun k=>Gd k∧k≠b∧(if N k then(i,j)else own k)=(i',j')) (cs i' j') x0:=fun e0 x0 h5 h6 hne=>
      (hr i' e0 j' x0 h5 h6).mono (fun e=>e) (fun e=>by cases e) (fun k hk=>by
       have hnp: ¬ Fp k:=fun hp=>hne (by rw[←hk.2.2,(q1 k hp).2.2])
       obtain⟨g1,g2⟩:=h1 k hk.1 hnp; refine⟨⟨g1,hk.2.1, ?_⟩,g2⟩
       have: ¬ N k:=fun hN=>hnp (h3 k hN hk.1)
       rw[z13 this]; exact hk.2.2)
     rw[jV i' hilt]at he'; by_cases ei:i'=i
     ·rw[z19 ei]at he'; cases he'
      rw[jV j' hjlt]at hx; by_cases ej:j'=j
      ·rw[z19 ej]at hx; cases hx
       rw[ei,ej]; exact hsub
      ·rw[z13 ej]at hx
       subst ei; exact other e x he hx (by simp [ej])
     ·rw[z13 ei]at he'
      exact other e' x he' hx (by simp [ei])

theorem Ow.cells{Z Z':Nat→Prop}{deep:Bool}{w w':World}{t:Option Nat}{F:Nat→Prop}{b off len cap:Nat}{es:List (List T)}(h:Ow Z deep w t F (.slice (some ⟨b,off,none⟩) len cap) (.sl es))(hne: ¬ (deep=false∧t=none))
  {i j:Nat}{row ys:List T}{vs:List Value}{N:Nat→Prop}{ownN:Nat→Nat}{arr arr':Array Value}{ty:TypeId}(hrow:es[i]? =some row)(hle:j+ys.length≤row.length)(hlen:vs.length=ys.length)
  (hh:w.heap[b]? =some (.cells arr ty (0,0)))(hh':w'.heap[b]? =some (.cells arr' ty (0,0)))(hsz:arr'.size=arr.size)(harr: ∀k,arr'[k]? =if off+i*row.length+j≤k∧k<off+i*row.length+j+ys.length then vs[k - (off+i*row.length+j)]? else arr[k]?)
  (hZ:deep=false→ ∀k,Z k→Z' k∧w'.heap[k]? =w.heap[k]?)(hF: ∀k,F k→k≠b→w'.heap[k]? =w.heap[k]?)(hN: ∀k,N k→ ¬ F k)
  (hnew: ∀(c:Nat) y,ys[c]? =some y→ ∃u,vs[c]? =some u∧Ow Z' deep w' none (fun k=>N k∧ownN k=c) u y):
  Ow Z' deep w' t (fun k=>F k∨N k) (.slice (some ⟨b,off,none⟩) len cap) (.sl (es.set i (row.take j++ys++row.drop (j+ys.length)))):=by
 cases h with
 | nil t F a=>simp at hrow
 | frz F v x hd h=>exact absurd ⟨hd,rfl⟩ hne
 | sl t F b len cap s arr0 ty0 es own cs ht hb hh0 hl hcl hcap hs ha hm hr=>
  rw[hh]at hh0; cases hh0; have hilt:i<es.length:=bW hrow; have e1:=hs i row hrow; have hseg:=pL row ys j hle; simp only[z32,e1]at harr; classical
  have hlt: ∀(i':Nat) e' (j':Nat) x,es[i']? =some e'→e'[j']? =some x→j'<s:=fun i' e' j' x h1 h2=>by rw[←hs i' e' h1]; exact bW h2
  have hnl: ∀i' j',j'<s→(i'*s+j'=i*s+j'∧i'=i)∨ ¬ (i*s+j≤i'*s+j'∧i'*s+j'<i*s+j+ys.length):=by
   intro i' j' hj'; rcases Nat.lt_trichotomy i' i with h | h | h
   ·right
    have:(i'+1)*s≤i*s:=z45 s h; rw[z85]at this; omega
   ·left; subst h; exact⟨rfl,rfl⟩
   ·right
    have:(i+1)*s≤i'*s:=z45 s h; rw[z85]at this; rw[e1]at hle; omega
  refine .sl t _ b len cap s arr' ty _ (fun k=>if N k then(i,j+ownN k)else own k) (fun i' j'=>if i'=i∧j≤j'∧j'<j+ys.length then vs.getD (j' - j) undef else cs i' j') ht (.inl hb) hh' (by simpa using hl) hcl hcap (fun i' e' he'=> ?_) (by rw[hsz]; exact ha) (fun i' e' j' x he' hx=> ?_) (fun i' e' j' x he' hx=> ?_)
  ·rw[jV i' hilt]at he'
   by_cases ei:i'=i
   ·rw[z19 ei]at he'; cases he'
    simp only[z30,z38,z65]; omega
   ·rw[z13 ei]at he'; exact hs i' e' he'
  ·rw[jV i' hilt]at he'
   by_cases ei:i'=i
   ·rw[z19 ei]at he'; cases he'
    rw[hseg j']at hx; subst ei; rw[harr]; by_cases ej:j≤j'∧j'<j+ys.length
    ·rw[z19 ej]at hx
     rw[z19 ⟨by omega,by omega⟩]
     simp only[ej,and_self,if_true]; have:j' - j<vs.length:=by omega
     rw[show i'*s+j' - (i'*s+j)=j' - j by omega]
     simp [List.getD,z14 this]
    ·rw[z13 ej]at hx
     rw[z13 (by omega)]
     simp only[ej,and_false,if_false]; exact hm i' row j' x hrow hx
   ·rw[z13 ei]at he'
    have hj':=hlt i' e' j' x he' hx; rw[harr]; rw[z13 (by rcases hnl i' j' hj' with h | h; exact absurd h.2 ei; exact h)]
    simp only[ei,false_and,if_false]; exact hm i' e' j' x he' hx
  ·have keep: ∀e0 x0,es[i']? =some e0→e0[j']? =some x0→Ow Z' deep w' none (fun k=>(F k∨N k)∧k≠b∧(if N k then(i,j+ownN k)else own k)=(i',j')) (cs i' j') x0:=fun e0 x0 h5 h6=>
    (hr i' e0 j' x0 h5 h6).mono (fun e=>e) (fun e=>hZ e) (fun k hk=>by
     refine⟨⟨.inl hk.1,hk.2.1, ?_⟩,hF k hk.1 hk.2.1⟩
     have: ¬ N k:=fun h=>hN k h hk.1
     rw[z13 this]; exact hk.2.2)
   rw[jV i' hilt]at he'; by_cases ei:i'=i
   ·rw[z19 ei]at he'; cases he'
    rw[hseg j']at hx; subst ei; by_cases ej:j≤j'∧j'<j+ys.length
    ·rw[z19 ej]at hx
     simp only[ej,and_self,if_true]; obtain⟨u,hu,ho⟩:=hnew _ _ hx; have:vs.getD (j' - j) undef=u:=uR hu; rw[this]; refine ho.mono (fun e=>e) (fun e k hk=>⟨hk,rfl⟩) (fun k hk=>⟨⟨.inr hk.1,fun e=>by subst e; exact hN k hk.1 hb, ?_⟩,rfl⟩)
     rw[z19 hk.1,hk.2,Nat.add_sub_cancel' ej.1]
    ·rw[z13 ej]at hx
     simp only[ej,and_false,if_false]; exact keep row x hrow hx
   ·rw[z13 ei]at he'
    simp only[ei,false_and,if_false]; exact keep e' x he' hx
end Go.Own

namespace Go.Own
open Go.RowKit

def W.setLeaf:W→Nat→T→W
  | .c _,0,z=> .c z
  | .ag xs,j,z=> .ag (xs.set j z)
  | w,_,_=>w
def V.setLeaf:V→Nat→Nat→T→V
  | .one w,0,j,z=> .one (w.setLeaf j z)
  | .tup ws,k,j,z=> .tup (match ws[k]? with | some w=>ws.set k (w.setLeaf j z) | none=>ws)
  | v,_,_,_=>v

def jS(sl:Nat→V)(l:Loc)(z:T)(i:Nat):V:=match l with
  | .s i' k j=>if i=i' then(sl i).setLeaf k j z else sl i
  | _=>sl i
def rJ(ob:Rg)(l:Loc)(z:T)(o:Nat):Option (List T):=match l with
  | .oc o' j=>if o=o' then(ob o).map (·.set j z)else ob o
  | _=>ob o

def HG:V→Bool
  | .one (.al _ [])=>true
  | .one (.pp _ [] _ _)=>true
  | _=>false
def Rows(x z:T):Prop:= ∀es,x= .sl es→ ∃es',z= .sl es'∧ ∀(i:Nat) e,es[i]? =some e→ ∃e',es'[i]? =some e'∧e'.length=e.length
def St.upd(st:St)(l:Loc)(z:T):St:=
  { n:=st.n
    sl:=jS st.sl l z
    ob:=rJ st.ob l z
    fl:=fun m=>match m with
      | .s i k j=>if k=0∧j=0∧aH (st.sl i)=l∧HG (st.sl i)=false then .D else st.fl (.s i k j)
      | m=>st.fl m }

theorem W.setLeaf_leaf{w:W}{j:Nat}{z t:T}(h:w.leaf j=some t)(j':Nat):(w.setLeaf j z).leaf j'=if j'=j then some z else w.leaf j':=by
  cases w with
  | c y=>
    cases j with
    | zero=>cases j'<;>simp [W.setLeaf,W.leaf]
    | succ j=>simp [W.leaf]at h
  | ag xs=>
    simp only[W.setLeaf,W.leaf]; exact jV j' (bW h)
  | _=>simp [W.leaf]at h

theorem V.setLeaf_leaf{v:V}{k j:Nat}{z t:T}(h:v.leaf k j=some t)(k' j':Nat):(v.setLeaf k j z).leaf k' j'=if k'=k∧j'=j then some z else v.leaf k' j':=by
  cases v with
  | one w=>
    cases k with
    | succ k=>simp [V.leaf]at h
    | zero=>
      cases k' with
      | succ k'=>simp [V.setLeaf,V.leaf]
      | zero=>simp only[V.setLeaf,V.leaf,NH]; exact W.setLeaf_leaf h j'
  | tup ws=>
    simp only[V.leaf,z18]at h; obtain⟨w,hw,h⟩:=h; simp only[V.setLeaf,hw,V.leaf]; rw[jV k' (bW hw)]; by_cases e:k'=k
    · subst e
      rw[z19 rfl,hw]; simp only[z8,NH]; exact W.setLeaf_leaf h j'
    · rw[z13 e]; simp [e]

theorem V.setLeaf_root{v:V}{k j:Nat}{z t:T}(h:v.leaf k j=some t):aH (v.setLeaf k j z)= .none∧aH v= .none:=by
  cases v with
  | tup ws=>exact⟨rfl,rfl⟩
  | one w=>
    cases k with
    | succ k=>simp [V.leaf]at h
    | zero=>
      cases w with
      | c y=>cases j<;>exact⟨rfl,rfl⟩
      | ag xs=>exact⟨rfl,rfl⟩
      | _=>simp [V.leaf,W.leaf]at h

theorem upd_at{st:St}{l m:Loc}{z t:T}(h:st.at l=some t):(st.upd l z).at m=if m=l then some z else st.at m:=by
  cases m with
  | s i k j=>
    show((jS st.sl l z) i).leaf k j=_; cases l with
    | s i' k' j'=>
      simp only[jS]; by_cases e:i=i'
      · subst e
        rw[z19 rfl]; rw[V.setLeaf_leaf (by exact h)]
        by_cases e2:k=k'∧j=j'
        · rw[z19 e2,z19 (by rw[e2.1,e2.2])]
        · rw[z13 e2,z13 (by simpa using e2)]; rfl
      · rw[z13 e,z13 (by simp [e])]; rfl
    | oc o' j'=>rfl
    | _=>simp [St.at,atL]at h
  | oc o j=>
    show((rJ st.ob l z) o).bind (·[j]?)=_
    cases l with
    | oc o' j'=>
      simp only[rJ]; by_cases e:o=o'
      · subst e
        rw[z19 rfl]; simp only[St.at,atL,z18]at h; obtain⟨cells,hc,hj⟩:=h; rw[hc]; simp only[z35,z8]; rw[jV j (bW hj)]; by_cases e2:j=j'
        · subst e2; simp
        · rw[z13 e2,z13 (by simp [e2])]; simp only[St.at,atL,hc,z8]
      · rw[z13 e,z13 (by simp [e])]; rfl
    | s i' k' j'=>rfl
    | _=>simp [St.at,atL]at h
  | _=>cases l<;>first | rfl | (simp [St.at,atL]at h)

theorem PJ{st:St}{l m:Loc}{z t:T}(hl:l≠ .none)(hm:st.at m=some t):(st.upd l z).fl m=st.fl m:=by
  cases m with
  | s i k j=>
    simp only[St.upd]; rw[z13]; rintro ⟨rfl,rfl,h,_⟩
    rw[sG hm]at h; exact hl h.symm
  | _=>rfl

theorem bM.upd{g0:G}{w0:World}{st:St}{a:Act}{g:G}{w:World}(h:bM g0 w0 st a g w){g':G}{w':World}{X:Loc→Prop}(hC:wT g w g' w' X st)(hβ: ∀o,g'.β o=g.β o){l:Loc}{x0 z:T}{v0:Value}
    (hat:st.at l=some x0)(hv:vAt a.tmps g.β w l=some v0)(hX: ∀m x,(st.fl m).hold=true→st.at m=some x→m≠l→ ¬ X m)(hpp:(∀i n j,st.sl i= .one (.pp l [] n j)→st.fl (.s i 0 0)= .D)∨Rows x0 z)(hnew:LF g' w' (st.fl l) l v0 z):bM g0 w0 (st.upd l z) a g' w':=by
  have hlp:=at_isPlace hat; have hln:=(Loc.place_ne hlp).1; have hobj: ∀o b,g.own b= .obj o→g'.own b= .obj o∧w'.heap[b]? =w.heap[b]? :=fun o b hb=>by
    have hlt:b<w.heap.size:=h.ok.own b (by rw[hb]; simp)
    obtain⟨e1,e2⟩:=hC.evo.keep b hlt (fun hx=>(hC.X _ hx).2 o hb)
    exact⟨e1.trans hb,e2⟩
  have hvn:mL v0:=by
    obtain⟨v,e1,e2,_⟩:=h.get hat; rw[hv]at e1; cases e1; exact e2
  have hlf: ∀m x v,st.at m=some x→m≠l→LF g w (st.fl m) m v x→LF g' w' (st.fl m) m v x:=fun m x v hm hne hf=>hC.lf h.ok (Loc.place_ne (at_isPlace hm)).1 (fun hk=>hX m x hk hm hne) hf
  have hcp: ∀i k xs b off,(st.sl i).comp k=some (.cp xs)→CpR g w (st.fl (.s i k 0)) b off xs→CpR g' w' (st.fl (.s i k 0)) b off xs:=fun i k xs b off hc hr=>by
    rcases hC.V with hV | hV
    · exact hr.evo hC.evo hC.none (.inr (.inr hV))
    · have:=hV (.s i k 0)
      cases hk:st.fl (.s i k 0)with
      | D=>trivial
      | F=>rw[hk]at hr; exact hr.evo hC.evo hC.none (.inr (.inl rfl))
      | V=>exact absurd hk this
      | _=>rw[hk]at hr; exact hr.elim
  have hother: ∀i,aH (st.sl i)≠l→(∀k j,(st.upd l z).fl (.s i k j)=st.fl (.s i k j)):=fun i hr k j=>by
    simp only[St.upd]; rw[z13 (fun e=>hr e.2.2.1)]
  have hrv: ∀i,(∀k j,Loc.s i k j≠l)→RV g' w' (fun k j=>(st.upd l z).fl (.s i k j)) (fun k j=> .s i k j) (a.tmps.getD i undef) (st.sl i):=fun i hi=>by
    by_cases hr:aH (st.sl i)=l
    · have:=h.slots i
      exact(RN (by rw[hr]; exact hln)).mp (by
        have:RV g' w' (fun k j=>st.fl (.s i k j)) (fun k j=> .s i k j) (a.tmps.getD i undef) (st.sl i):=by
          cases hs:st.sl i with
          | tup ws=>rw[hs]at hr; exact absurd hr.symm hln
          | one y=>rw[hs]at hr; cases y<;>first | trivial | exact absurd hr.symm hln
        exact this)
    · have e:(fun k j=>(st.upd l z).fl (.s i k j))=fun k j=>st.fl (.s i k j):=by funext k j; exact hother i hr k j
      rw[e]; have hs:=h.slots i; have key:=hs.map (g':=g) (w':=w) (κ':=fun k j=>st.fl (.s i k j)) (l':=fun k j=> .s i k j) (fun _=>rfl) (fun _ _ _ _ _ _ _ hf=>hf) (fun _ _ _ _ _ hc=>hc)
      exact RV.map hβ (fun k j t u hj hu hn hf=>hlf (.s i k j) t u hj (hi k j) hf) (fun k xs hx b off hc=>hcp i k xs b off hx hc) hs
  refine⟨h.framed.trans hC.framed,hC.ok,h.size,h.defers,fun i=> ?_,fun o cells hc=> ?_,fun i hi hf=> ?_,fun o ho=>(hβ o).trans (h.bp o ho),h.nle⟩
  · show RV g' w' (fun k j=>(st.upd l z).fl (.s i k j)) (fun k j=> .s i k j) (a.tmps.getD i undef) (jS st.sl l z i)
    cases l with
    | s i' k' j'=>
      by_cases e:i=i'
      · subst e
        have hs:=h.slots i; have hleaf:(st.sl i).leaf k' j'=some x0:=hat; have hroot:=(V.setLeaf_root (z:=z) hleaf).2; have efl:(fun k j=>(st.upd (.s i k' j') z).fl (.s i k j))=fun k j=>st.fl (.s i k j):=by funext k j; exact hother i (by rw[hroot]; simp) k j
        rw[efl]; simp only[jS,if_true]; have hcell: ∀(k j:Nat) t u,(st.sl i).leaf k j=some t→mL u→LF g w (st.fl (.s i k j)) (.s i k j) u t→(k,j)≠(k',j')→LF g' w' (st.fl (.s i k j)) (.s i k j) u t:=fun k j t u h1 h2 h3 h4=>hlf (.s i k j) t u h1 (by simpa using h4) h3
        have hW: ∀(k:Nat) (y:W) (u:Value),(st.sl i).comp k=some y→RW g w (fun j=>st.fl (.s i k j)) (fun j=> .s i k j) u y→(k=k'→FT u j'=some v0∧y.leaf j'=some x0)→(∀j,(st.sl i).leaf k j=y.leaf j)→
            RW g' w' (fun j=>st.fl (.s i k j)) (fun j=> .s i k j) u (if k=k' then y.setLeaf j' z else y):=by
          intro k y u hy hr hkk hlv; by_cases ek:k=k'
          · subst ek
            rw[z19 rfl]; obtain⟨q1,q2⟩:=hkk rfl; cases y with
            | c t0=>
              cases j' with
              | succ j'=>simp [W.leaf]at q2
              | zero=>
                have hu:u=v0:=by
                  have:=(gB hr.1).1; rw[this]at q1; exact z46 q1
                subst hu; exact⟨hvn,hnew⟩
            | ag xs=>
              obtain⟨cs,rfl,c1,c2⟩:=hr; refine⟨cs,rfl,by simpa using c1,fun j t ht=> ?_⟩
              have hlt:j'<xs.length:=bW q2; rw[jV j hlt]at ht; by_cases ej:j=j'
              · subst ej
                rw[z19 rfl]at ht; cases ht; exact⟨v0,q1,hvn,hnew⟩
              · rw[z13 ej]at ht
                obtain⟨c,d1,d2,d3⟩:=c2 j t ht; exact⟨c,d1,d2,hcell k j t c (by rw[hlv]; exact ht) d2 d3 (by simp [ej])⟩
            | _=>simp [W.leaf]at q2
          · rw[z13 ek]
            cases y with
            | c t0=>exact⟨hr.1,hcell k 0 t0 u (by rw[hlv]; rfl) hr.1 hr.2 (by simp [ek])⟩
            | ag xs=>
              obtain⟨cs,rfl,c1,c2⟩:=hr; refine⟨cs,rfl,c1,fun j t ht=> ?_⟩
              obtain⟨c,d1,d2,d3⟩:=c2 j t ht; exact⟨c,d1,d2,hcell k j t c (by rw[hlv]; exact ht) d2 d3 (by simp [ek])⟩
            | ptr o off=>simp only[RW]at hr ⊢; rw[hβ]; exact hr
            | cp xs=>
              obtain⟨b,off,c1,c2⟩:=hr; exact⟨b,off,c1,hcp i k xs b off hy c2⟩
            | nilp=>exact hr
            | ifc b=>exact hr
            | fn f caps=>simp only[RW]at hr ⊢; simp only[hβ]; exact hr
            | _=>trivial
        cases hsl:st.sl i with
        | one y=>
          rw[hsl]at hs hleaf; cases k' with
          | succ k'=>simp [V.leaf]at hleaf
          | zero=>
            have:=hW 0 y (a.tmps.getD i undef) (by rw[hsl]; rfl) hs (fun _=>by
              obtain⟨u,hu,hu2,_,_⟩:=RW.leaf (show RW g w (fun j=>st.fl (.s i 0 j)) (fun j=> .s i 0 j) (a.tmps.getD i undef) y from hs) hleaf
              have hv':pR (a.tmps.getD i undef) 0 j'=some v0:=hv; rw[hu2]at hv'; cases hv'; exact⟨hu,hleaf⟩) (fun j=>by rw[hsl]; rfl)
            rw[z19 rfl]at this; exact this
        | tup ws=>
          rw[hsl]at hs hleaf; obtain⟨vs,e1,e2,e3⟩:=hs; simp only[V.leaf,z18]at hleaf; obtain⟨y0,hy0,hleaf⟩:=hleaf; simp only[V.setLeaf,hy0]; refine⟨vs,e1,by simpa using e2,fun k y hy=> ?_⟩
          rw[jV k (bW hy0)]at hy; by_cases ek:k=k'
          · subst ek
            rw[z19 rfl]at hy; cases hy; obtain⟨u,hu,hr⟩:=e3 k y0 hy0; refine⟨u,hu, ?_⟩
            have:=hW k y0 u (by rw[hsl]; exact hy0) hr (fun _=>by
              obtain⟨u2,hu2,_,_,_⟩:=RW.leaf hr hleaf; have hv':pR (a.tmps.getD i undef) k j'=some v0:=hv; rw[e1]at hv'; simp only[pR,hu,z8,hu2]at hv'; cases hv'; exact⟨hu2,hleaf⟩) (fun j=>by rw[hsl]; simp [V.leaf,hy0])
            simpa using this
          · rw[z13 ek]at hy
            obtain⟨u,hu,hr⟩:=e3 k y hy; refine⟨u,hu, ?_⟩
            have:=hW k y u (by rw[hsl]; exact hy) hr (fun e=>absurd e ek) (fun j=>by rw[hsl]; simp [V.leaf,hy])
            simpa [ek]using this
      · simp only[jS,z13 e]
        exact hrv i (fun k j=>by simp [e])
    | oc o' j'=>exact hrv i (fun k j=>by simp)
    | _=>simp [St.at,atL]at hat
  · have hc':rJ st.ob l z o=some cells:=hc
    have plain:st.ob o=some cells→(∀j,Loc.oc o j≠l)→ ∃arr ty,w'.heap[g'.β o]? =some (.cells arr ty (0,0))∧arr.size=cells.length∧g'.own (g'.β o)= .obj o∧ ∀(j:Nat) x,cells[j]? =some x→ ∃c,arr[j]? =some c∧mL c∧LF g' w' ((st.upd l z).fl (.oc o j)) (.oc o j) c x:=fun hc hne=>by
      obtain⟨arr,ty,r1,r2,r3,r4⟩:=h.obs o cells hc; obtain⟨e1,e2⟩:=hobj o _ r3; rw[hβ]; refine⟨arr,ty,e2.trans r1,r2,e1,fun j x hx=> ?_⟩
      obtain⟨c,d1,d2,d3⟩:=r4 j x hx; exact⟨c,d1,d2,hlf (.oc o j) x c (by rw[St.at_oc,hc]; exact hx) (hne j) d3⟩
    cases l with
    | oc o' j'=>
      simp only[rJ]at hc'; by_cases e:o=o'
      · subst e
        rw[z19 rfl,z22]at hc'; obtain⟨cells0,hc0,rfl⟩:=hc'; obtain⟨arr,ty,r1,r2,r3,r4⟩:=h.obs o cells0 hc0; obtain⟨e1,e2⟩:=hobj o _ r3; have hat':cells0[j']? =some x0:=by rw[St.at_oc,hc0]at hat; exact hat
        rw[hβ]; refine⟨arr,ty,e2.trans r1,by simpa using r2,e1,fun j x hx=> ?_⟩
        rw[jV j (bW hat')]at hx; by_cases ej:j=j'
        · subst ej
          rw[z19 rfl]at hx; cases hx; refine⟨v0, ?_,hvn,hnew⟩
          have hv':w.cell? ⟨g.β o,j,none⟩=some v0:=hv; rw[bX w _ j _ _ _ r1]at hv'; exact hv'
        · rw[z13 ej]at hx
          obtain⟨c,d1,d2,d3⟩:=r4 j x hx; exact⟨c,d1,d2,hlf (.oc o j) x c (by rw[St.at_oc,hc0]; exact hx) (by simp [ej]) d3⟩
      · rw[z13 e]at hc'
        exact plain hc' (fun j=>by simp [e])
    | s i' k' j'=>exact plain hc' (fun j=>by simp)
    | _=>simp [St.at,atL]at hat
  · have hsl:aH ((st.upd l z).sl i)=aH (st.sl i)∧(aH (st.sl i)≠ .none→(st.upd l z).sl i=st.sl i):=by
      show aH (jS st.sl l z i)=_∧(_→jS st.sl l z i=_); cases l with
      | s i' k' j'=>
        simp only[jS]; by_cases e:i=i'
        · subst e
          rw[z19 rfl]; obtain⟨q1,q2⟩:=V.setLeaf_root (z:=z) (show(st.sl i).leaf k' j'=some x0 from hat); exact⟨q1.trans q2.symm,fun hne=>absurd q2 hne⟩
        · rw[z13 e]; exact⟨rfl,fun _=>rfl⟩
      | _=>exact⟨rfl,fun _=>rfl⟩
    rw[hsl.1]at hi; rw[hsl.2 hi]; by_cases etop:aH (st.sl i)=l
    · have ht:HG (st.sl i)=true:=by
        cases ht:HG (st.sl i)with
        | true=>rfl
        | false=>exfalso; apply hf; simp [St.upd,etop,ht]
      have hf1:st.fl (.s i 0 0)≠ .D:=fun e2=>hf (by
        simp only[St.upd]; rw[z13 (by rw[ht]; simp)]; exact e2)
      obtain⟨p1,p2⟩:=h.pls i hi hf1; rw[etop]at p1 ⊢; refine⟨by rw[PJ hln hat]; exact p1, ?_⟩
      have hv':vAt a.tmps g'.β w' l=some v0:=by
        cases l with
        | oc o j=>
          have hat2:=hat; simp only[St.at,atL,z18]at hat2; obtain⟨cells,hc,hj⟩:=hat2; obtain⟨arr,ty,r1,r2,r3,r4⟩:=h.obs o cells hc; obtain⟨e1,e2⟩:=hobj o _ r3; have hv2:w.cell? ⟨g.β o,j,none⟩=some v0:=hv; show w'.cell? ⟨g'.β o,j,none⟩=some v0; rw[hβ,bV e2]; exact hv2
        | _=>exact hv
      cases hs:st.sl i with
      | tup ws=>rw[hs]at ht; cases ht
      | one y=>
        rw[hs]at ht p2 etop; cases y with
        | al l' p=>
          cases p with
          | cons a p=>cases ht
          | nil=>
            have:l'=l:=etop; subst this; obtain⟨v1,x1,x',e1,e2,e3⟩:=p2; rw[hv]at e1; have e4:=z46 e1; subst e4; cases e3; exact⟨_,z,z,hv',by rw[upd_at hat,z19 rfl], .nil _ _⟩
        | pp l' p n j=>
          cases p with
          | cons a p=>cases ht
          | nil=>
            have:l'=l:=etop; subst this; rcases hpp with hpp | hpp
            · exact absurd (hpp i n j hs) hf1
            · obtain⟨v1,x1,b,off,len,cap,es,e,e1,e2,e3,e4,e5⟩:=p2
              have e2':some x0=some x1:=hat.symm.trans e2; have e6:=z46 e2'; rw[hv]at e1; have e7:=z46 e1; subst e6; subst e7; cases e3; obtain⟨es',r1,r2⟩:=hpp es rfl; obtain⟨e',r3,r4⟩:=r2 n e e4; subst r1; exact⟨_, .sl es',b,off,len,cap,es',e',hv',by rw[upd_at hat,z19 rfl], .nil _ _,r3,by rw[r4]; exact e5⟩
        | _=>cases ht
    have hf1:aH (st.sl i)≠l∧st.fl (.s i 0 0)≠ .D:=⟨etop,by rw[hother i etop]at hf; exact hf⟩
    obtain⟨p1,p2⟩:=h.pls i hi hf1.2; obtain⟨t,ht⟩:=p2.root hi; have hXr:=hX _ t p1 ht hf1.1; refine⟨by rw[PJ hln ht]; exact p1, ?_⟩
    have hβ':g'.β=g.β:=funext hβ; refine p2.congr ?_ (by rw[upd_at hat,z13 hf1.1]) (fun v1 x1 p v' x' e1 e2 hp=>h.pl_evo hC.evo hC.none p1 hXr e1 e2 hp)
    rw[hβ']; generalize hr:aH (st.sl i)=m at*; cases m with
    | oc o j=>
      simp only[vAt]; simp only[St.at,atL,z18]at ht; obtain⟨cells',hc',_⟩:=ht; obtain⟨arr',ty',k1,k2,k3,k4⟩:=h.obs o cells' hc'; exact bV (hobj o _ k3).2
    | _=>rfl
end Go.Own

namespace Go.Own
open Go.RowKit

theorem Od{st:St}{l:Loc}{x:T}(hx:st.at l=some x):st.killV.fl l=if st.fl l= .V then .D else st.fl l:=uN (f:=fun m=>if st.fl m= .V then .D else st.fl m) rfl hx

section
variable {P:Program} {τ:TypeId→Option TI} {g0:G} {w0:World} {o:Oper} {st:St} {d:Nat}

theorem KL{x0:T}{p:List (Nat×Nat)}{es:List (List T)}{row xs:List T}{n j:Nat}(hnav:nav x0 p=some (.sl es))(hrow:es[n]? =some row)(hle:j+xs.length≤row.length):Rows x0 (cJ x0 p (.sl (es.set n (row.take j++xs++row.drop (j+xs.length))))):=by
 have hset: ∀(es:List (List T)) (n:Nat) (r:List T),(∀row,es[n]? =some row→r.length=row.length)→ ∀(i:Nat) e,es[i]? =some e→ ∃e',(es.set n r)[i]? =some e'∧e'.length=e.length:=fun es n r hr i e he=>by
  have hi:=bW he; by_cases h:i=n
  ·subst h
   exact⟨r,by rw[z91 hi],hr e he⟩
  ·exact⟨e,by rw[z128 (fun e=>h e.symm)]; exact he,rfl⟩
 intro es0 h0; subst h0; cases p with
 | nil=>
  simp only[nav,z10,T.sl.injEq]at hnav; subst hnav; refine⟨_,rfl,hset _ _ _ (fun r h=> ?_)⟩
  rw[hrow]at h; cases h; simp only[z30,z38,z65]; omega
 | cons ij p=>
  obtain⟨i,k⟩:=ij; refine⟨_,rfl,hset _ _ _ (fun r h=> ?_)⟩
  rw[RS,uR h]

def K.turn(f:Bool)(p:List (Nat×Nat)):K→Bool
 | .A _=> !f&&p.isEmpty
 | .U _=>f
 | _=>false

theorem KP(hT:aY P τ){t:TypeId}{tx:Nat}{y:Operand}{i:TI}{l:Loc}{p:List (Nat×Nat)}{n j:Nat}{x0:T}{es:List (List T)}{row xs:List T}(f:Bool)(hd:o.dst=none)(ho:o.op= .store t (.tmp tx) y)(hi:τ t=some i)
  (hx:st.sl tx= .one (.pp l p n j))(hln:l≠ .none)(hk:st.fl (.s tx 0 0)≠ .D∧st.fl (.s tx 0 0)≠ .V)(hat:st.at l=some x0)(hnav:nav x0 p=some (.sl es))(hrow:es[n]? =some row)(hy:aT (ev st.sl y)=some xs)(hsz:xs.length=i.size)(hle:j+xs.length≤row.length)
  (hkl:(st.fl l).turn f p=true)(hyk: ∀c,c<xs.length→(Cy st y c).part f=true)(hyl:dD [y] l=false):
  nL P g0 w0 o st ((st.killV.lowT [y]).upd l (cJ x0 p (.sl (es.set n (row.take j++xs++row.drop (j+xs.length)))))):=by
 intro a w ⟨g,hs⟩; obtain⟨hhold,v0,b,off,len,cap,hv0,hpl,hptr,_⟩:=hs.ppCell hx hln hk.1 hat hnav hrow; have hlp:=at_isPlace hat; have hnV:st.fl l≠ .V:=by intro e; rw[e]at hkl; simp [K.turn]at hkl
 obtain⟨v0',e1,hvn,hlf⟩:=hs.get hat; rw[hv0]at e1; cases e1; have hroot: ∃t0,Ow (frz g w) f w t0 (fun k=>g.own k=l) v0 x0∧((∃s,st.fl l= .A s∧t0=some s∧f=false∧p=[])∨ ∃s,st.fl l= .U s∧t0=gC s∧f=true):=by
  cases hκ:st.fl l with
  | A s=>
   rw[hκ]at hkl hlf; simp only[K.turn,z7,z37]at hkl; have hp:p=[]:=by simpa using hkl.2
   refine⟨some s, ?_, .inl ⟨s,rfl,rfl,hkl.1,hp⟩⟩
   rw[hkl.1]; exact hlf
  | U s=>
   rw[hκ]at hkl hlf; have hf:f=true:=hkl; refine⟨gC s, ?_, .inr ⟨s,rfl,rfl,hf⟩⟩
   rw[hf]; exact hlf
  | _=>rw[hκ]at hkl; simp [K.turn]at hkl
 obtain⟨t0,hOw,hcase⟩:=hroot
 have hpart: ∃(Fp:Nat→Prop) (t':Option Nat),(∀k,Fp k→g.own k=l)∧Ow (frz g w) f w t' Fp (.slice (some ⟨b,off,none⟩) len cap) (.sl es)∧ ¬ (f=false∧t'=none)∧
   ∀(Z':Nat→Prop) (w':World) (N Gd:Nat→Prop) (y:T),(∀k,g.own k=l→ ¬ Fp k→Gd k∧w'.heap[k]? =w.heap[k]?)→(∀k,N k→Gd k)→(∀k,N k→g.own k=l→Fp k)→Ow Z' f w' t' N (.slice (some ⟨b,off,none⟩) len cap) y→Ow Z' f w' t0 Gd v0 (cJ x0 p y):=by
  rcases hcase with⟨s,_,ht0,hf,hp⟩ | ⟨s,_,ht0,hf⟩
  ·subst hp
   cases hpl; subst ht0; refine⟨fun k=>g.own k=l,some s,fun _ h=>h,hOw,by simp,fun Z' w' N Gd y _ h2 _ h4=> ?_⟩
   have:cJ (.sl es) [] y=y:=rfl; rw[this]; exact h4.mono (fun e=>e) (fun _ k hk=>⟨hk,rfl⟩) (fun k hk=>⟨h2 k hk,rfl⟩)
  ·subst hf
   obtain⟨Fp,q1,q2,q3⟩:=Ow.part hOw hpl; exact⟨Fp,_,q1,q2,by simp,q3⟩
 obtain⟨Fp,t',q1,q2,q3,q4⟩:=hpart; have hblk: ∃arr ty s',w.heap[b]? =some (.cells arr ty (0,0))∧arr.size=cap*s'∧off=0∧len≤cap∧es.length=len∧row.length=s'∧Fp b:=by
  cases q2 with
  | nil t F a=>simp at hrow
  | frz F v x hd h=>exact absurd ⟨hd,rfl⟩ q3
  | sl t F b len cap s arr ty es own cs ht hb hh hl hcl hcap hs ha hm hr=>exact⟨arr,ty,s,hh,ha,rfl,hcl,hl,hs n row hrow,hb⟩
 obtain⟨arr,ty,s',hh,hasz,hoff,hlc,hel,hrl,hFb⟩:=hblk; have hbl:g.own b=l:=q1 b hFb; obtain⟨k1,k2,k3,k4,_⟩:=fW (hs.ev_rv y (fun _ _=> .none)) hy
 obtain⟨info,_,_,r1,_,r3,_⟩:=hT.get hi; have hnlt:n<es.length:=bW hrow; have hroom:off+n*row.length+j+xs.length≤arr.size:=by
  rw[hasz,hoff,hrl]; have h1:(n+1)*s'≤cap*s':=z45 s' (by omega)
  rw[z85]at h1; omega
 have hone: ∀v∈(a.eval y).cells.toList,v.oneCell'=true:=fun v hv=>by
  obtain⟨c,hc⟩:=z72 hv
  have hcl:c<xs.length:=by have:=bW hc; simp only[z47]at this; omega
  obtain⟨u,u1,u2,_⟩:=k2 c xs[c] (z14 hcl)
  rw[z26]at hc
  rw[hc]at u1; cases u1; exact nG u2
 have hcl:(a.eval y).cells.toList.length=xs.length:=by simpa using k1
 obtain⟨w',s1,s2,s3,s4,s5,s6,s7⟩:=mJ (P:=P) (p:=off+n*row.length+j) hh (a.eval y).cells.toList (by rw[hcl]; exact hroom) hone
 have hv:(execOp a.eval o).run P w= .ok .skip w':=by
  obtain⟨dst,op,ty',pos,after,guard⟩:=o; simp only at ho; subst ho; have hne: ¬ (a.eval y).cells.size≠info.size:=by rw[k1,r3,hsz]; simp
  have e1:a.eval (.tmp tx)= .pointer (some ⟨b,off+n*row.length+j,none⟩):=hptr; simp only[execOp,Instr.storeAt,e1,Instr.sureAddr,Sem.run_bind,Sem.run_pure,Result.andThen_ok,storeVar,sizeOf,typeInfo,run_program,r1,z13 hne,s1]
 refine⟨_,_,hv, .inr ⟨rfl, ?_⟩⟩
 rw[hd]; let g':G:= { β:=g.β,own:=fun k=>if dD [y] (g.own k)=true then l else g.own k }
 have hplace:=Loc.place_ne hlp; have hgn: ∀k,dD [y] (g.own k)=false→g'.own k=g.own k:=fun k hk=>by show(if _ then _ else _)=_; rw[z13 (by rw[hk]; simp)]
 have hgl: ∀k,dD [y] (g.own k)=true→g'.own k=l:=fun k hk=>by show(if _ then _ else _)=_; rw[z19 hk]
 have hforT: ∀m,dD [y] m=true→ ¬ nT m∧ ∀o,m≠ .obj o:=fun m hm=>by
  have:=Loc.place_ne (AS hm); exact⟨fun h=>h.elim this.1 this.2.1,this.2.2⟩
 have hZ: ∀k,frz g w k→frz g' w' k∧w'.heap[k]? =w.heap[k]? :=fun k hk=>by
  refine⟨⟨by rw[s4]; exact hk.1, ?_⟩,s3 k (fun e=>by rw[e]at hk; exact hln (hbl.symm.trans hk.2))⟩
  rw[hgn k (by rw[hk.2]; rfl)]; exact hk.2
 have hs1:=hs.killV.lowT [y]; have hC:wT g w g' w' (fun m=>m=l∨dD [y] m=true) (st.killV.lowT [y]):=by
  refine⟨⟨by rw[s4]; exact z53 _,fun k _ hX=>⟨hgn k (by simpa using fun h=>hX (.inr h)),s3 k (fun e=>hX (.inl (by rw[e]; exact hbl)))⟩⟩,fun m hm=> ?_, .inr (fun m=> ?_),s5,s6,s7,⟨fun k hk=> ?_⟩⟩
  ·rcases hm with rfl | hm
   ·exact⟨fun h=>h.elim hplace.1 hplace.2.1,hplace.2.2⟩
   ·exact hforT m hm
  ·refine pF (fun m=> ?_) m
   split
   ·simp
   ·exact qL st m
  ·rw[s4]
   by_cases e:dD [y] (g.own k)=true
   ·exact hs.ok.own k (fun e2=>by rw[e2]at e; simp [dD]at e)
   ·rw[hgn k (by simpa using e)]at hk; exact hs.ok.own k hk
 have hat1:(st.killV.lowT [y]).at l=some x0:=hat; have hfl1:(st.killV.lowT [y]).fl l=st.fl l:=by
  rw[IE (st:=st.killV) hat,Od hat,z13 hnV,z13 (by rw[hyl]; simp)]
 have hres:bM g0 w0 ((st.killV.lowT [y]).upd l (cJ x0 p (.sl (es.set n (row.take j++xs++row.drop (j+xs.length)))))) a g' w':=by
  refine hs1.upd hC (fun _=>rfl) hat1 hv0 (fun m x hm hmx hne hX=> ?_) (.inr (KL hnav hrow hle)) ?_
  ·rcases hX with e | e
   ·exact hne e
   ·rw[IE (st:=st.killV) (x:=x) hmx,e]at hm
    split at hm
    ·simp [K.hold]at hm
    ·rename_i h; simp [hm]at h
  ·rw[hfl1]
   have hcells:=Ow.cells (Z':=frz g' w') (w':=w') (N:=fun k=>dD [y] (g.own k)=true) (ownN:=fun k=>match g.own k with | .s _ _ c=>c | _=>0) (vs:=(a.eval y).cells.toList) (ys:=xs) (j:=j) q2 q3 hrow hle hcl hh s2 (by
     simp only[z88,z30,z38,z65,z47]; rw[hcl]at*; omega) (fun k=>by
     have:=pL arr.toList (a.eval y).cells.toList (off+n*row.length+j) (by rw[hcl]; simpa using hroom) k
     rw[hcl]at this; rw[hcl]; simpa using this) (fun _=>hZ) (fun k _ hne=>s3 k hne) (fun k hN hF=>by
     have:=q1 k hF; rw[this,hyl]at hN; cases hN) (fun c z hz=>by
     obtain⟨u,u1,u2,u3⟩:=k2 c z hz; have hclt:c<xs.length:=bW hz; refine⟨u,by rw[z26]; exact u1, ?_⟩
     have hq:LF g w (Cy st y c) (match y with | .tmp ty=> .s ty 0 c | _=> .none) u z:=by
      cases y with
      | tmp ty=>
       obtain⟨m1,m2,_⟩:=fW (hs.slots ty) hy; obtain⟨u',v1,_,v3⟩:=m2 c z hz; have:a.eval (.tmp ty)=a.tmps.getD ty undef:=rfl; rw[this,v1]at u1; cases u1; exact v3
      | const v=>
       obtain⟨m1,m2,_⟩:=fW (sQ g w (fun _ _=> .none) v) hy
       obtain⟨u',v1,_,v3⟩:=m2 c z hz; have:a.eval (.const v)=v:=rfl; rw[this,v1]at u1; cases u1; exact v3
      | func f=>simp [ev,aT]at hy
      | global n=>simp [ev,aT]at hy
     refine LF.part (g':=g') (w':=w') hq (hyk c hclt) hZ (fun hh k hk=> ?_)
     cases y with
     | tmp ty=>
      simp only at hk; have hin:dD [Operand.tmp ty] (g.own k)=true:=by rw[hk]; simp [dD,vY]
      refine⟨⟨hin,by rw[hk]⟩,s3 k (fun e=> ?_)⟩
      rw[e,hbl]at hin; rw[hyl]at hin; cases hin
     | const v=>
      exfalso
      have hh':(gH (bG v) 0 c).hold=true:=hh; unfold gH at hh'; split at hh'
      ·split at hh'<;>cases hh'
      ·cases hh'
     | func f=>simp [ev,aT]at hy
     | global n=>simp [ev,aT]at hy)
   have hfull:=q4 (frz g' w') w' (fun k=>Fp k∨dD [y] (g.own k)=true) (fun k=>g'.own k=l) _ (fun k hk hn=>⟨by rw[hgn k (by rw[hk]; exact hyl)]; exact hk,s3 k (fun e=>hn (by rw[e]; exact hFb))⟩)
    (fun k hk=>by
     rcases hk with h | h
     ·rw[hgn k (by rw[q1 k h]; exact hyl)]; exact q1 k h
     ·exact hgl k h) (fun k hk hl2=>by
     rcases hk with h | h
     ·exact h
     ·rw[hl2,hyl]at h; cases h) hcells
   rcases hcase with⟨s,hκ,ht0,hf,_⟩ | ⟨s,hκ,ht0,hf⟩
   ·rw[hκ]; subst hf; subst ht0; exact hfull
   ·rw[hκ]; subst hf; subst ht0; exact hfull
 exact⟨g',hres⟩
end
end Go.Own

namespace Go.Own
open Go.RowKit

def D.upd(x:D)(l:Loc)(z:T):D:= { sl:=jS x.sl l z,ob:=rJ x.ob l z }

theorem By: ∀ {xs ys:List T} {j:Nat} {t z:T},eH xs ys=true→xs[j]? =some t→(∀u,qX t u=qX z u)→eH (xs.set j z) ys=true
 | [],ys,j,t,z,_,h,_=>by simp at h
 | x::xs,[],j,t,z,h,_,_=>by simp [eH]at h
 | x::xs,y::ys,0,t,z,h,h2,h3=>by
  simp only[z20,z10]at h2
  subst h2; simp only[eH,z7,z137]at h ⊢; exact⟨by rw[←h3]; exact h.1,h.2⟩
 | x::xs,y::ys,j+1,t,z,h,h2,h3=>by
  simp only[z23]at h2
  simp only[eH,z7,z138]at h ⊢; exact⟨h.1,By h.2 h2 h3⟩

theorem Gw{w s:W}{j:Nat}{t z:T}(h:bP w s=true)(hl:w.leaf j=some t)(hc: ∀u,qX t u=qX z u):bP (w.setLeaf j z) s=true:=by
 cases w with
 | c y=>
  cases j with
  | succ j=>simp [W.leaf]at hl
  | zero=>
   simp only[W.leaf,z10]at hl; subst hl; cases s<;>simp [bP]at h
   simp only[W.setLeaf,bP]; rw[←hc]; exact h
 | ag xs=>
  cases s<;>simp [bP]at h
  simp only[W.setLeaf,bP]; exact By h hl hc
 | _=>simp [W.leaf]at hl

theorem EN: ∀ {ws ss:List W} {k j:Nat} {w:W} {t z:T},lG ws ss=true→ws[k]? =some w→w.leaf j=some t→(∀u,qX t u=qX z u)→lG (ws.set k (w.setLeaf j z)) ss=true
 | [],_,k,j,w,t,z,_,h,_,_=>by simp at h
 | x::xs,[],k,j,w,t,z,h,_,_,_=>by simp [lG]at h
 | x::xs,y::ys,0,j,w,t,z,h,h2,h3,h4=>by
  simp only[z20,z10]at h2
  subst h2; simp only[lG,z7,z137]at h ⊢; exact⟨Gw h.1 h3 h4,h.2⟩
 | x::xs,y::ys,k+1,j,w,t,z,h,h2,h3,h4=>by
  simp only[z23]at h2
  simp only[lG,z7,z138]at h ⊢; exact⟨h.1,EN h.2 h2 h3 h4⟩

theorem Ot{v s:V}{k j:Nat}{t z:T}(h:fits v s=true)(hl:v.leaf k j=some t)(hc: ∀u,qX t u=qX z u):fits (v.setLeaf k j z) s=true:=by
 cases v with
 | one w=>
  cases k with
  | succ k=>simp [V.leaf]at hl
  | zero=>
   cases s with
   | tup ss=>simp [fits]at h
   | one y=>exact Gw h hl hc
 | tup ws=>
  cases s with
  | one y=>simp [fits]at h
  | tup ss=>
   simp only[V.leaf,z18]at hl; obtain⟨w,hw,hl⟩:=hl; simp only[V.setLeaf,hw,fits]; exact EN h hw hl hc

theorem EC{x:T}{p:List (Nat×Nat)}{es es':List (List T)}(h:nav x p=some (.sl es))(u:T):qX x u=qX (cJ x p (.sl es')) u:=by
 cases p with
 | nil=>
  have h':x= .sl es:=by cases x<;>simp [nav]at h; rw[h]
  subst h'; cases u<;>rfl
 | cons ij p=>
  obtain⟨i,j⟩:=ij; cases x with
  | sl es0=>cases u<;>rfl
  | _=>simp [nav]at h

section
variable {P:Program} {τ:TypeId→Option TI} {F:FA} {o:Oper} {b b':B} {x x':D} {d:Nat}

theorem Ag.upd(hA:Ag F b x){l:Loc}{t z:T}(hL:b.hasL l=true)(hat:x.at l=some t)(hc: ∀u,qX t u=qX z u):Ag F b (x.upd l z):=by
 refine⟨fun i hi=> ?_,fun o ho=> ?_⟩
 ·show jS x.sl l z i=_∨Own.fits (jS x.sl l z i) _=true
  cases l with
  | s i' k j=>
   simp only[jS]; by_cases e:i=i'
   ·subst e
    rw[z19 rfl]; have hl:(x.sl i).leaf k j=some t:=hat; rcases hA.sl i hi with e2 | e2
    ·rw[e2]at hl; cases k<;>simp [V.leaf,W.leaf]at hl
    ·exact .inr (Ot e2 hl hc)
   ·rw[z13 e]; exact hA.sl i hi
  | _=>exact hA.sl i hi
 ·show ∃cs,rJ x.ob l z o=some cs∧_
  cases l with
  | oc o' j=>
   simp only[rJ]; by_cases e:o=o'
   ·subst e
    rw[z19 rfl]; obtain⟨cs,h1,h2⟩:=hA.ob o ho; have hl:cs[j]? =some t:=by simp only[D.at,atL,h1,z8]at hat; exact hat
    exact⟨cs.set j z,by rw[h1]; rfl,By h2 hl hc⟩
   ·rw[z13 e]; exact hA.ob o ho
  | _=>exact hA.ob o ho

theorem Oq{v s:V}(h:fits v s=true):HG v=HG s:=by
 cases v with
 | tup ws=>cases s<;>first | rfl | simp [fits]at h
 | one x=>
  cases s with
  | tup ws=>simp [fits]at h
  | one y=>
   cases x with
   | al l p=>
    cases y<;>simp [fits,bP]at h
    rename_i l' p'; cases p<;>cases p'<;>first | rfl | simp at h
   | pp l p i j=>
    cases y<;>simp [fits,bP]at h
    rename_i l' p' i' j'; cases p<;>cases p'<;>first | rfl | simp at h
   | _=>cases y<;>first | rfl | simp [fits,bP]at h
def eO(F:FA)(l:Loc)(i:Nat):Bool:= !(decide (aH (F.shOf i)=l))||HG (F.shOf i)

theorem EV{n:Nat}{s:St}(hA:Ag F b x)(h:Low n b x s){l:Loc}{t z:T}(hL:b.hasL l=true)(hat:x.at l=some t)(hln:l≠ .none):Low n (b.filt (eO F l)) (x.upd l z) (s.upd l z):=by
 have hhas: ∀i,(b.filt (eO F l)).has i=true→b.has i=true∧eO F l i=true:=fun i hi=>by rw[dT]at hi; simpa [and_comm]using hi
 have hroot: ∀i,(b.filt (eO F l)).has i=true→aH (s.sl i)≠l∨HG (s.sl i)=true:=fun i hi=>by
  obtain⟨h1,h2⟩:=hhas i hi; rw[h.sl i h1]; rcases hA.sl i h1 with e | e
  ·rw[e]; exact .inl (Ne.symm hln)
  ·rw[dK e,Oq e]; simpa [eO]using h2
 have hfl: ∀i k j,(b.filt (eO F l)).has i=true→(s.upd l z).fl (.s i k j)=s.fl (.s i k j):=fun i k j hi=>by
  simp only[St.upd]; rw[z13 (fun e=>(hroot i hi).elim (fun h=>h e.2.2.1) (fun h=>by rw[e.2.2.2]at h; cases h))]
 have hkd: ∀i k j,(b.filt (eO F l)).has i=true→(b.filt (eO F l)).kd (.s i k j)=b.kd (.s i k j):=fun i k j hi=>fF (hhas i hi).2
 have hsl: ∀i,b.has i=true→jS s.sl l z i=jS x.sl l z i:=fun i hi=>by
  cases l with
  | s i' k j=>simp only[jS,h.sl i hi]
  | _=>exact h.sl i hi
 have hleaf: ∀i k j t',(x.upd l z).at (.s i k j)=some t'→ ∃t'',x.at (.s i k j)=some t'':=fun i k j t' ht=>by
  have ht:(jS x.sl l z i).leaf k j=some t':=ht; cases l with
  | s i' k' j'=>
   simp only[jS]at ht; by_cases e:i=i'
   ·subst e
    rw[z19 rfl,V.setLeaf_leaf (show(x.sl i).leaf k' j'=some t from hat)]at ht; by_cases e2:k=k'∧j=j'
    ·obtain⟨rfl,rfl⟩:=e2; exact⟨t,hat⟩
    ·rw[z13 e2]at ht; exact⟨t',ht⟩
   ·rw[z13 e]at ht; exact⟨t',ht⟩
  | _=>exact⟨t',ht⟩
 refine⟨h.n,fun i hi=>hsl i (hhas i hi).1,fun o ho=> ?_,fun m t' hm ht=> ?_,fun i k xs hi hx=> ?_,fun i hi hr hf=> ?_⟩
 ·show rJ s.ob l z o=rJ x.ob l z o
  cases l with
  | oc o' j=>simp only[rJ,h.ob o ho]
  | _=>exact h.ob o ho
 ·cases m with
  | s i k j=>
   obtain⟨t'',h2⟩:=hleaf i k j t' ht; rw[hfl i k j hm,hkd i k j hm]; exact h.fl (.s i k j) t'' (hhas i hm).1 h2
  | oc o j=>
   have: ∃t'',x.at (.oc o j)=some t'':=by
    have ht:(rJ x.ob l z o).bind (·[j]?)=some t':=ht
    cases l with
    | oc o' j'=>
     simp only[rJ]at ht; by_cases e:o=o'
     ·subst e
      rw[z19 rfl]at ht; simp only[z18,z22]at ht; obtain⟨_,⟨cs,h1,rfl⟩,h2⟩:=ht; have hlt:=bW h2; rw[RS]at hlt; exact⟨cs[j],by simp only[D.at,atL,h1,z8]; exact z14 hlt⟩
     ·rw[z13 e]at ht; exact⟨t',ht⟩
    | _=>exact⟨t',ht⟩
   obtain⟨t'',h2⟩:=this; exact h.fl (.oc o j) t'' hm h2
  | _=>cases hm
 ·rw[hfl i k 0 hi,hkd i k 0 hi]
  refine h.cp i k xs (hhas i hi).1 ?_
  have hx:(jS x.sl l z i).comp k=some (.cp xs):=hx; cases l with
  | s i' k' j'=>
   simp only[jS]at hx; by_cases e:i=i'
   ·subst e
    rw[z19 rfl]at hx; have hl:(x.sl i).leaf k' j'=some t:=hat; cases hv:x.sl i with
    | one w=>
     rw[hv]at hx hl; cases k' with
     | succ k'=>simp [V.leaf]at hl
     | zero=>
      cases k with
      | succ k=>simp [V.setLeaf,V.comp]at hx
      | zero=>
       cases w with
       | c y=>cases j'<;>simp [V.setLeaf,W.setLeaf,V.comp]at hx
       | ag ys=>simp [V.setLeaf,W.setLeaf,V.comp]at hx
       | _=>simp [V.leaf,W.leaf]at hl
    | tup ws=>
     rw[hv]at hx hl; simp only[V.leaf,z18]at hl; obtain⟨w,hw,hl⟩:=hl; simp only[V.setLeaf,hw,V.comp]at hx ⊢; rw[jV k (bW hw)]at hx; by_cases e:k=k'
     ·rw[z19 e]at hx
      cases w with
      | c y=>cases j'<;>simp [W.setLeaf]at hx
      | ag ys=>simp [W.setLeaf]at hx
      | _=>simp [W.leaf]at hl
     ·rw[z13 e]at hx; exact hx
   ·rw[z13 e]at hx; exact hx
  | _=>exact hx
 ·rw[hfl i 0 0 hi]
  rw[hkd i 0 0 hi]at hf; refine h.al i (hhas i hi).1 ?_ hf
  have hr:aH (jS x.sl l z i)≠ .none:=hr; cases l with
  | s i' k' j'=>
   simp only[jS]at hr; by_cases e:i=i'
   ·subst e
    rw[z19 rfl,(V.setLeaf_root (show(x.sl i).leaf k' j'=some t from hat)).1]at hr; exact absurd rfl hr
   ·rw[z13 e]at hr; exact hr
  | _=>exact hr

def pP(F:FA)(x:D)(i:TI)(l:Loc)(p:List (Nat×Nat))(n j:Nat)(xs:List T):Option D:=match x.at l with
 | some x0=>(match nav x0 p with
  | some (.sl es)=>(match es[n]? with
   | some row=>bif Nat.beq xs.length i.size&&Nat.ble (j+xs.length) row.length then some (x.upd l (cJ x0 p (.sl (es.set n (row.take j++xs++row.drop (j+xs.length))))))else none
   | none=>none)
  | _=>none)
 | none=>none
def isU:K→Bool
 | .U _=>true
 | _=>false
def yF(F:FA)(b:B)(i:TI)(l:Loc)(p:List (Nat×Nat))(tx:Nat)(y:Operand):Option B:=
 bif b.has tx&&cR b y&&Ac F b F.n (.tmp tx)&& !(decide (b.kd (.s tx 0 0)= .V))&&(b.kd l).turn (isU (b.kd l)) p&&(range' 0 i.size).all (fun c=>(IQ b y c).part (isU (b.kd l)))&& !(dD [y] l)&&JG F b tx then
  some ((((b.killV F).lowT F [y]).filt (eO F l)).nrm F)else none

theorem OB{κ:K}{f:Bool}{p p':List (Nat×Nat)}(h:κ.turn f p'=true)(hl:p.length=p'.length):κ.turn f p=true:=by
 cases κ with
 | A s=>
  simp only[K.turn,z7]at h ⊢; refine⟨h.1, ?_⟩
  cases p with
  | nil=>rfl
  | cons a p=>cases p' with
   | nil=>simp at hl
   | cons a' p'=>simp at h
 | _=>exact h

theorem OE(hT:aY P τ)(hA:Ag F b x){t:TypeId}{tx:Nat}{y:Operand}{i:TI}{l:Loc}{p p':List (Nat×Nat)}{n n' j:Nat}{xs:List T}(hd:o.dst=none)(ho:o.op= .store t (.tmp tx) y)(hi:τ t=some i)(hv:x.sl tx= .one (.pp l p n j))(hs:F.shOf tx= .one (.pp l p' n' j))(hpl:p.length=p'.length)
  (hy:aT (ev x.sl y)=some xs)(h1:pP F x i l p n j xs=some x')(h2:yF F b i l p' tx y=some b'):OpS P F F.n o b x b' x':=by
 unfold yF at h2; obtain⟨hc,h2⟩:=aI h2; simp only[z7]at hc; obtain⟨⟨⟨⟨⟨⟨⟨c1,c2⟩,c3⟩,c4⟩,c5⟩,c6⟩,c7⟩,c8⟩:=hc; cases h2; unfold pP at h1; split at h1<;>try cases h1
 rename_i x0 hat; split at h1<;>try cases h1
 rename_i es hnav; split at h1<;>try cases h1
 rename_i row hrow; obtain⟨hq,h1⟩:=aI h1; simp only[z7]at hq; cases h1; obtain⟨a1,a2,a3,a4⟩:=qO (d:=F.n) hA c1 c3 (.inr ⟨p,n,j,hv⟩); have c4':b.kd (.s tx 0 0)≠ .V:=by simpa using c4
 have hsz:=z16 hq.1; have hA1:Ag F (b.killV F) x:=hA.setf _ _; have hA2:Ag F ((b.killV F).lowT F [y]) x:=hA1.setf _ _; have hL:((b.killV F).lowT F [y]).hasL l=true:=by
  have hr: ∀i k j,l= .s i k j→aH (F.shOf i)= .none:=fun i k j e=>by
   subst e; exact hA.leaf_root a4 hat
  cases l with
  | s i k j=>
   show((b.killV F).lowT F [y]).has i=true; have hi:b.has i=true:=a4; unfold B.lowT B.killV; rw[pG,pG,hr i k j rfl,hi]; rfl
  | oc o j=>
   show((b.killV F).lowT F [y]).hasO o=true; unfold B.lowT B.killV; rw[fG,fG]; exact a4
  | _=>cases a4
 have hlow:Low F.n ((b.killV F).lowT F [y]) x ((b.S F.n x).killV.lowT [y]):=by
  have h0:=Bu (n:=F.n) hA; have hkd: ∀m,(b.killV F).hasL m=true→(b.killV F).kd m= .D∨(b.killV F).kd m=(b.S F.n x).killV.fl m:=fun m hm=>by
   have e:(b.S F.n x).killV.fl m=if b.kd m= .V then .D else b.kd m:=by
    cases m with
    | s i k j=>simp only[St.killV,St.setf]; rw[z13 (by simp)]; rfl
    | _=>rfl
   rw[e]; have hg:(b.killV F).get m=(b.get m).map fun q=>if q= .V then .D else q:=sV hm
   unfold B.kd; rw[hg]; cases b.get m with
   | none=>exact .inl rfl
   | some q=>exact .inr rfl
  have hm1: ∀i,(b.killV F).has i=true→(b.killV F).hasL (.s i 0 0)=true:=fun i h=>h
  refine iR hA1 h0 rfl (fun m hm hl=> ?_) (fun i hi hk hf=> ?_)
  ·rcases hkd m hm with e | e
   ·rw[e]; simp only[K.hold,z52,and_false,if_false]; exact GQ _
   ·rw[e]; exact cV _
  ·rcases hkd (.s i 0 0) hi with e | e
   ·rw[e]at hf; simp [K.hold]at hf
   ·rw[e]at hf; exact hf
 refine OpS.fin ((hA2.upd hL hat (EC hnav)).filt _) (fun g0 w0=> ?_) (EV hA2 hlow hL hat a1)
 exact KP hT (isU (b.kd l)) hd ho hi (by rw[oK c1]; exact hv) a1 ⟨a3,c4'⟩ (by rw[Hr a4]; exact hat) hnav hrow (by rw[mW c2]; exact hy) hsz (z33 hq.2)
  (OB c5 hpl) (fun c hc=>by
   have h:=z15.1 c6 c (oJ.2 ⟨LD _,by omega⟩)
   have e:Cy (b.S F.n x) y c=IQ b y c:=by cases y<;>rfl
   rw[e]; exact h) (by simpa using c7)
end
end Go.Own

namespace Go.Own
open Go.RowKit

theorem Ow.cut{Z:Nat→Prop}{deep:Bool}{w:World}{t:Option Nat}{F:Nat→Prop}{a:Option Addr}{len cap:Nat}{es:List (List T)}(h:Ow Z deep w t F (.slice a len cap) (.sl es))(hne: ¬ (deep=false∧t=none)){k sz:Nat}(hk:k≤es.length):Ow Z deep w t F (.slice (if cap=0 then a else a.map (·.add (0*sz))) k cap) (.sl (es.take k)):=by
 cases h with
 | nil t F a=>
  obtain rfl:k=0:=by simpa using hk
  exact .nil _ _ _
 | frz F v x hd h=>exact absurd ⟨hd,rfl⟩ hne
 | sl t F b len cap s arr ty es own cs ht hb hh hl hc hcap hs ha hm hr=>
  have e:(if cap=0 then some (⟨b,0,none⟩:Addr)else(some (⟨b,0,none⟩:Addr)).map (·.add (0*sz)))=some ⟨b,0,none⟩:=by
   split
   ·rfl
   ·simp only[z35,Nat.zero_mul,iS,z69]
  rw[e]; have get: ∀ {i:Nat} {e:List T},(es.take k)[i]? =some e→es[i]? =some e:=fun {i e} h=>by
   rw[z73]at h
   split at h
   ·exact h
   ·cases h
  refine .sl t F b k cap s arr ty _ own cs ht hb hh (by rw[z38]; omega) (by omega) hcap (fun i e h=>hs i e (get h)) ha (fun i e j x h1 h2=>hm i e j x (get h1) h2) (fun i e j x h1 h2=>hr i e j x (get h1) h2)

section
variable {P:Program} {τ:TypeId→Option TI} {g0:G} {w0:World} {o:Oper} {st:St} {d:Nat}
theorem UJ(hT:aY P τ){ty:TypeId}{t:Nat}{hi:Option Operand}{r:T}(hd:o.dst=some d)(hn:d<st.n)(ho:o.op= .slice ty (.tmp t) none hi none)(hne:t≠d)(hρ: ∀x∈o.op.operands,Rdy st false x){es:List (List T)}(hsl:st.sl t= .one (.c (.sl es)))(hk:(st.fl (.s t 0 0)).hold=true)
  (h:gL τ (evR st) o.op=some r):nL P g0 w0 o st ((st.put d (.one (.c r)) (fun _ _=> .V)).mvs [(.s t 0 0, .s d 0 0)]):=by
 intro a w ⟨g,hs⟩; have hd':d<a.tmps.size:=by rw[hs.size]; exact hn
 have hev:evR st (.tmp t)= .one (.c (.sl es)):=by
  show uU st.sl st.ob (st.sl t)=_; rw[hsl]; rfl
 have hops:o.op.operands= #[.tmp t]++hi.toArray:=by rw[ho]; cases hi<;>rfl
 have hρ1:Rdy st false (.tmp t):=hρ _ (by rw[hops]; simp)
 rw[ho]at h; simp only[gL,hev]at h; split at h
 ·simp_all
 ·rename_i e es' hs1 heq
  cases heq; obtain⟨ei,he,h⟩:=z18.1 h; split at h
  ·rename_i hall
   obtain⟨⟨l,u⟩,hb,rfl⟩:=z22.1 h; obtain⟨td,htd,rfl⟩:=jI hT hs1; obtain⟨info,hinfo,hsz,_⟩:=kV hT he; have hrd:Rd (pm g w false) w (a.eval (.tmp t)) (.sl es):=by
    have:=hs.rp hρ1; rw[hev]at this; exact this
   obtain⟨ad,cap,e1,hcap⟩:=IP hrd; rw[e1]at hrd; obtain⟨b1,b2,m,b3,b4,b5,hrun⟩:=zN (P:=P) (isSlice:=true) (w:=w) (Q:=pm g w false) (β:=g.β) (ρ:=a.eval) (fun y hy=>hs.rp (hρ y (by rw[hops]; rcases hy with h | h | h<;>simp_all))) hb hcap
   have hm:m=cap:=b5 rfl; subst hm; have hl0:l=0:=by
    unfold mI at hb; simp only[z18]at hb; obtain⟨_,_,lv,h2,hb⟩:=hb; cases h2; split at hb<;>cases hb
    rfl
   subst hl0; obtain⟨_,_,hr⟩:=JT hrd (l:=0) (k:=u) (m:=m) b1 b2 b3 b4 (size:=ei.size) (fun y hy=>by simpa using z15.1 hall y hy)
   have hv:(execOp a.eval o).run P w= .ok (.value (.slice (if m=0 then ad else ad.map (·.add (0*ei.size))) (u - 0) (m - 0))) w:=by
    obtain⟨dst,op,ty',pos,after,guard⟩:=o; simp only at ho; subst ho; simp only[execOp,Instr.sliceAt,Instr.slice,e1,Sem.run_bind,Sem.run_pure,Result.andThen_ok,run_underlying htd,hrun,sizeOf,typeInfo,run_program,hinfo,hsz]
   have hr':Rd (all g w) w (.slice (if m=0 then ad else ad.map (·.add (0*ei.size))) (u - 0) (m - 0)) (.sl ((es.drop 0).take (u - 0))):=hr
   have h1:=hs.set (d:=d) (r:= .one (.c (.sl ((es.drop 0).take (u - 0))))) (κ:=fun _ _=> .V) hn ⟨hr'.not_agg,hr'⟩ (fun h=>absurd rfl h)
   have hat:(st.put d (.one (.c (.sl ((es.drop 0).take (u - 0))))) (fun _ _=> .V)).at (.s t 0 0)=some (.sl es):=by
    rw[at_put (by simp [aS,hne]),St.at_s,hsl]; rfl
   have hfl:(st.put d (.one (.c (.sl ((es.drop 0).take (u - 0))))) (fun _ _=> .V)).fl (.s t 0 0)=st.fl (.s t 0 0):=by
    simp only[St.put]; rw[z13 hne,z13 (fun h=> ?_)]
    rw[hsl]at h; exact absurd h.2.2 (by simp [aH,aS])
   obtain⟨vt,q1,_,q3⟩:=hs.get (l:= .s t 0 0) (x:= .sl es) (by rw[St.at_s,hsl]; rfl)
   have hvt:vt= .slice ad es.length m:=by
    have:pR (a.tmps.getD t undef) 0 0=some vt:=q1; have e2:a.tmps.getD t undef= .slice ad es.length m:=e1; rw[e2]at this; cases this; rfl
   subst hvt; refine⟨_,w,hv, .inl ⟨_,rfl, ?_⟩⟩
   rw[hd]; refine⟨g.mv (.s t 0 0) (.s d 0 0),h1.mvG rfl rfl (by simp [hne]) ⟨_,hat⟩ ⟨.sl ((es.drop 0).take (u - 0)),by rw[mP]; rfl⟩ (fun x v hx hv'=> ?_)⟩
   rw[mP]at hx; cases hx; have hv2:vAt (a.put (some d) (.slice (if m=0 then ad else ad.map (·.add (0*ei.size))) (u - 0) (m - 0))).tmps g.β w (.s d 0 0)=some (.slice (if m=0 then ad else ad.map (·.add (0*ei.size))) (u - 0) (m - 0)):=by
    simp only[vAt]; rw[Act.put_getD a d _ _ hd',z19 rfl]; rfl
   rw[hv2]at hv'; cases hv'; rw[hfl]; have hZ: ∀b,frz g w b→frz (g.mv (.s t 0 0) (.s d 0 0)) w b:=fun b hb=>⟨hb.1,by simp only[G.mv]; rw[z13 (by rw[hb.2]; simp)]; exact hb.2⟩
   have hF: ∀b,g.own b= .s t 0 0→(g.mv (.s t 0 0) (.s d 0 0)).own b= .s d 0 0:=fun b hb=>by simp [G.mv,hb]
   have hu:u≤es.length:=b2; simp only[List.drop_zero,z165]; cases hκ:st.fl (.s t 0 0)with
   | A s=>
    rw[hκ]at q3; have q3:Ow (frz g w) false w (some s) (fun b=>g.own b= .s t 0 0) (.slice ad es.length m) (.sl es):=q3
    exact(q3.cut (by simp) (sz:=ei.size) hu).mono (fun e=>e) (fun _ b hb=>⟨hZ b hb,rfl⟩) (fun b hb=>⟨hF b hb,rfl⟩)
   | U s=>
    rw[hκ]at q3; have q3:Ow (frz g w) true w (gC s) (fun b=>g.own b= .s t 0 0) (.slice ad es.length m) (.sl es):=q3
    exact(q3.cut (by simp) (sz:=ei.size) hu).mono (fun e=>e) (fun _ b hb=>⟨hZ b hb,rfl⟩) (fun b hb=>⟨hF b hb,rfl⟩)
   | _=>rw[hκ]at hk; cases hk
  ·cases h
 ·cases h
end

def cCut(F:FA)(b:B)(d:Nat)(v:Operand)(lo mx:Option Operand)(op:Op):Option B:=match v,lo,mx with
 | .tmp t,none,none=>bif Nat.blt d F.n&&op.operands.toList.all (kn b F)&&op.operands.toList.all (Hm F b false)&& !(Nat.beq t d)&&(b.kd (.s t 0 0)).hold&&(match F.shOf t with | .one (.c (.sl _))=>true | _=>false)then
   some (((b.put F d (fun _ _=> .V)).mvs F [(.s t 0 0, .s d 0 0)]).nrm F)else none
 | _,_,_=>none

section
variable {P:Program} {τ:TypeId→Option TI} {F:FA} {o:Oper} {b b':B} {x x':D} {d:Nat}
theorem cut_S(hT:aY P τ)(hA:Ag F b x){ty:TypeId}{v:Operand}{lo hi mx:Option Operand}(hd:o.dst=some d)(ho:o.op= .slice ty v lo hi mx)(h1:mU τ F x d o.op=some x')(h2:cCut F b d v lo mx o.op=some b'):OpS P F F.n o b x b' x':=by
 unfold cCut at h2; split at h2<;>try cases h2
 rename_i t; obtain⟨c,h2⟩:=aI h2; simp only[z7]at c; obtain⟨⟨⟨⟨⟨c1,c2⟩,c3⟩,c4⟩,c5⟩,c6⟩:=c; cases h2; unfold mU at h1; split at h1<;>try cases h1
 rename_i r hr; obtain⟨e1,rfl⟩:=bU h1; have hkn: ∀y∈o.op.operands,kn b F y=true:=fun y hy=>z15.1 c2 y (by simpa using hy)
 have hrd: ∀y∈o.op.operands,Hm F b false y=true:=fun y hy=>z15.1 c3 y (by simpa using hy)
 have hkt:kn b F (.tmp t)=true:=hkn _ (by rw[ho]; cases hi<;>simp [Op.operands])
 have hbt:b.has t=true:=wQ hkt; have hne:t≠d:=xC c4; have hsh: ∃es,x.sl t= .one (.c (.sl es)):=by
  rcases hA.sl t hbt with e | e
  ·exfalso
   rw[ho]at hr; simp only[gL]at hr; have:evD x (.tmp t)= .tup []:=by
    show uU x.sl x.ob (x.sl t)=_; rw[e]; rfl
   rw[this]at hr; split at hr<;>simp_all
  ·split at c6<;>try cases c6
   rename_i es0 hsh; rw[hsh]at e; cases hv:x.sl t with
   | tup ws=>rw[hv]at e; simp [Own.fits]at e
   | one w=>
    rw[hv]at e; cases w<;>simp [Own.fits,bP]at e
    rename_i z; cases z with
    | sl es=>exact⟨_,rfl⟩
    | hole=>
     exfalso
     rw[ho]at hr; simp only[gL]at hr; have:evD x (.tmp t)= .one (.c .hole):=by
      show uU x.sl x.ob (x.sl t)=_; rw[hv]; rfl
     rw[this]at hr; split at hr<;>simp_all
    | _=>simp [qX]at e
 obtain⟨es,hsl⟩:=hsh; refine OpS.put hA e1 (fun g0 w0=> ?_) (fun m hm=> ?_)
 ·have hev:gL τ (evR (b.S F.n x)) o.op=some r:=by
   rw[←hr]; exact vU o.op (fun y hy=>Ky hA (hkn y hy))
  exact UJ hT hd (cD c1) ho hne (fun y hy=>Hy hA (wQ (hkn y hy)) (hrd y hy)) (by rw[oK hbt]; exact hsl) c5 hev
 ·simp only[z64]at hm
  subst hm; have hrs: ∃es',r= .sl es':=by
   rw[ho]at hr; simp only[gL]at hr; have:evD x (.tmp t)= .one (.c (.sl es)):=by
    show uU x.sl x.ob (x.sl t)=_; rw[hsl]; rfl
   rw[this]at hr; split at hr
   ·simp_all
   ·obtain⟨ei,_,hr⟩:=z18.1 hr
    split at hr
    ·obtain⟨q,_,rfl⟩:=z22.1 hr
     exact⟨_,rfl⟩
    ·cases hr
   ·cases hr
  obtain⟨es',rfl⟩:=hrs; exact⟨⟨hbt,by simp [aS,hne], .sl es,by rw[D.at,atL,hsl]; rfl⟩,0,0,rfl,_,rfl⟩
end
end Go.Own

namespace Go.Own
open Go.RowKit

theorem IY{x:T}{q:List (Nat×Nat)}(hq:q≠[])(y:T):Rows x (cJ x q y):=by
 intro es h0; subst h0; cases q with
 | nil=>exact absurd rfl hq
 | cons ij p=>
  obtain⟨i,k⟩:=ij; refine⟨_,rfl,fun i' e he=> ?_⟩
  have hi:=bW he; by_cases h:i'=i
  ·subst h
   exact⟨_,z91 hi,by rw[RS,uR he]⟩
  ·exact⟨e,by rw[z128 (fun e=>h e.symm)]; exact he,rfl⟩
theorem IZ{x:T}{q:List (Nat×Nat)}(hq:q≠[])(y u:T):qX x u=qX (cJ x q y) u:=by
 cases q with
 | nil=>exact absurd rfl hq
 | cons ij p=>
  obtain⟨i,k⟩:=ij; cases x<;>first | rfl | (cases u<;>rfl)
theorem Pl.beside{w:World}{i j c:Nat}(hne:c≠j)(z:T): ∀ {p:List (Nat×Nat)} {v0:Value} {x0:T} {u:Value} {y:T},Pl w v0 x0 (p++[(i,j)]) u y→Pl w v0 (cJ x0 (p++[(i,c)]) z) (p++[(i,j)]) u y
 | [],v0,x0,u,y,h=>by
  cases h with
  | cons b off len cap es e c0 y0 i j p v' x' he hy hc h=>
   have hi:=bW he; refine .cons b off len cap _ ((es.getD i []).set c (cJ ((es.getD i []).getD c (.sl [])) [] z)) c0 y0 i j [] _ _ (z91 hi) ?_ ?_ h
   ·rw[uR he,z128 hne]; exact hy
   ·rw[uR he,RS]; exact hc
 | (a,b')::p,v0,x0,u,y,h=>by
  cases h with
  | cons b off len cap es e c0 y0 i' j' p v' x' he hy hc h=>
   have hi:=bW he; have hj:=bW hy; have e1:cJ (.sl es) (((a,b')::p)++[(i,c)]) z= .sl (es.set a (e.set b' (cJ y0 (p++[(i,c)]) z))):=EB he hy; rw[e1]; exact .cons b off len cap _ (e.set b' (cJ y0 (p++[(i,c)]) z)) c0 _ a b' (p++[(i,j)]) _ _ (z91 hi) (z91 hj) (by rw[RS]; exact hc) (Pl.beside hne z h)

theorem bM.take1{g0:G}{w0:World}{st:St}{a:Act}{g:G}{w:World}(h:bM g0 w0 st a g w){l l':Loc}{x0 y:T}{q:List (Nat×Nat)}{v0 u:Value}{s:Nat}(hfl:st.fl l= .U s)(hat:st.at l=some x0)(hv:vAt a.tmps g.β w l=some v0)(hpl:Pl w v0 x0 q u y)(hq:q≠[])(hp':l'.place=true)(hne:l'≠l)(hat':st.at l'=some y)(hv':vAt a.tmps g.β w l'=some u)(hk':(st.fl l').hold=false):
  ∃g',g'.β=g.β∧bM g0 w0 ((st.upd l (cJ x0 q .hole)).setf (fun m=>decide (m=l')) (fun m=>if m=l' then .U 0 else(st.upd l (cJ x0 q .hole)).fl m)) a g' w:=by
 classical
 have hlp:=at_isPlace hat; obtain⟨hl1,hl2,hl3⟩:=Loc.place_ne hlp; obtain⟨hm1,hm2,hm3⟩:=Loc.place_ne hp'; obtain⟨v0',e1,hvn,hlf⟩:=h.get hat; rw[hv]at e1; cases e1; rw[hfl]at hlf; have hOw:Ow (frz g w) true w (gC s) (fun b=>g.own b=l) v0 x0:=hlf
 have hun:mL u:=((hOw.rd (P:=fun _=>True) (fun _ _=>trivial) (fun _ _=>trivial)).plRd hpl).not_agg
 obtain⟨Fp,q1,q2,q3⟩:=Ow.part hOw hpl; rw[z13 hq]at q2; obtain⟨g',hg'⟩: ∃g':G,g'= { β:=g.β,own:=fun b=>if Fp b then l' else g.own b }:=⟨_,rfl⟩
 have hβ:g'.β=g.β:=by rw[hg']
 have hF: ∀b,Fp b→g'.own b=l':=fun b hb=>by rw[hg']; exact z19 hb
 have hnF: ∀b, ¬ Fp b→g'.own b=g.own b:=fun b hb=>by rw[hg']; exact z13 hb
 have hown: ∀b,g.own b≠l→g'.own b=g.own b:=fun b hb=>hnF b (fun hp=>hb (q1 b hp))
 have hAll: ∀b,all g w b→all g' w b:=fun b hb=>⟨hb.1,fun o=>by
  by_cases e:Fp b
  ·rw[hF b e]; exact hm3 o
  ·rw[hnF b e]; exact hb.2 o⟩
 have hok:GOk g' w:=⟨fun b hb=>by
  by_cases e:Fp b
  ·exact h.ok.own b (by rw[q1 b e]; exact hl1)
  ·rw[hnF b e]at hb; exact h.ok.own b hb⟩
 have hC:wT g w g' w (fun m=>m=l) st:=⟨⟨z53 _,fun b _ hX=>⟨hown b hX,rfl⟩⟩,fun m e=>by subst e; exact⟨fun h=>h.elim hl1 hl2,hl3⟩, .inl (fun b hb=>⟨hAll b hb,rfl⟩),rfl,rfl,rfl,hok⟩
 have h1:=h.upd hC (fun o=>by rw[hβ]) (z:=cJ x0 q .hole) hat hv (fun m x _ _ hm=>hm) (.inr (IY hq _)) (by
  rw[hfl]; refine q3 (frz g' w) w (fun _=>False) (fun b=>g'.own b=l) .hole (fun b hb hn=>⟨by rw[hnF b hn]; exact hb,rfl⟩) (fun b hb=>hb.elim) (fun b hb=>hb.elim) ?_
  exact .hole _ _ u hun.1 hun.2)
 refine⟨g',hβ, ?_⟩
 have hat1:(st.upd l (cJ x0 q .hole)).at l'=some y:=by rw[upd_at hat,z13 hne]; exact hat'
 have hpl': ∀i,Loc.s i 0 0=l'→aH ((st.upd l (cJ x0 q .hole)).sl i)= .none:=fun i e=>by
  rw[←e]at hat1; exact sG hat1
 refine h1.setf (by simp [Ne.symm hm1]) (fun _=>rfl) hok (fun _ _=>rfl) (fun _ _ h=>h) (fun _ h=>h) (fun m x v hx hv2 hf=> ?_) (fun i k xs b off hcx hc=> ?_) (fun i hi hR hf=> ?_)
 ·by_cases e:m=l'
  ·subst e
   rw[z19 rfl]; rw[hat1]at hx; cases hx; rw[hβ,hv']at hv2; cases hv2; exact q2.mono (fun e=>e) (fun e=>by cases e) (fun b hb=>⟨hF b hb,rfl⟩)
  ·rw[z13 e]; exact hf
 ·by_cases e:Loc.s i k 0=l'
  ·exfalso
   rw[←e,St.at_s]at hat1; cases hsl:(st.upd l (cJ x0 q .hole)).sl i with
   | one z=>
    rw[hsl]at hcx hat1; cases k with
    | zero=>simp only[V.comp,z10]at hcx; rw[hcx]at hat1; simp [V.leaf,W.leaf]at hat1
    | succ k=>simp [V.comp]at hcx
   | tup ws=>rw[hsl]at hcx hat1; simp only[V.comp]at hcx; simp [V.leaf,hcx,W.leaf]at hat1
  ·rw[z13 e]; exact hc
 ·have hne2:aH ((st.upd l (cJ x0 q .hole)).sl i)≠l':=by simpa using hR
  have e0: ¬ Loc.s i 0 0=l':=fun e=>hi (hpl' i e)
  rw[z13 e0]at hf; exact⟨hf,fun h=>by rw[z13 hne2]; exact h⟩

theorem D.at_isPlace{x:D}{l:Loc}{t:T}(h:x.at l=some t):l.place=true:=Own.at_isPlace (st:=⟨0,x.sl,x.ob,fun _=> .D⟩) h
theorem D.upd_at{x:D}{l m:Loc}{z t:T}(h:x.at l=some t):(x.upd l z).at m=if m=l then some z else x.at m:=Own.upd_at (st:=⟨0,x.sl,x.ob,fun _=> .D⟩) h
def D.takes(l:Loc)(p:List (Nat×Nat))(n j:Nat):List Nat→D→D
 | [],x=>x
 | c::r,x=>D.takes l p n j r (x.upd l (cJ ((x.at l).getD .hole) (p++[(n,j+c)]) .hole))
def B.take1(F:FA)(l:Loc)(d c:Nat)(b:B):B:=((b.filt (eO F l)).setf F (fun m=>decide (m= .s d 0 c)) (fun m q=>if m= .s d 0 c then .U 0 else q)).nrm F
def B.takes(F:FA)(l:Loc)(d:Nat):List Nat→B→B
 | [],b=>b
 | c::r,b=>B.takes F l d r (b.take1 F l d c)

section
variable {F:FA} {b:B} {x:D}
theorem MV{n:Nat}(hA:Ag F b x){l:Loc}{d c s:Nat}{x0 y:T}{q:List (Nat×Nat)}(hq:q≠[])(hL:b.hasL l=true)(hU:b.kd l= .U s)(hat:x.at l=some x0)(hd:b.has d=true)(hne:aS d l=false)(hy:x.at (.s d 0 c)=some y)(hk:(b.kd (.s d 0 c)).hold=false):
  Ag F (b.take1 F l d c) (x.upd l (cJ x0 q .hole))∧(b.take1 F l d c).hasL l=true∧(b.take1 F l d c).kd l= .U s∧(b.take1 F l d c).has d=true∧(∀c',c'≠c→(b.take1 F l d c).kd (.s d 0 c')=b.kd (.s d 0 c'))∧
  ∀ {g0:G} {w0:World} {a:Act} {w:World} {g:G},bM g0 w0 (b.S n x) a g w→ ∀v0 u,vAt a.tmps g.β w l=some v0→Pl w v0 x0 q u y→vAt a.tmps g.β w (.s d 0 c)=some u→ ∃g',g'.β=g.β∧bM g0 w0 ((b.take1 F l d c).S n (x.upd l (cJ x0 q .hole))) a g' w:=by
 have hlp:=D.at_isPlace hat; have hln:=(Loc.place_ne hlp).1; have hA1:Ag F b (x.upd l (cJ x0 q .hole)):=hA.upd hL hat (IZ hq .hole); have hA2:=hA1.filt (eO F l); have hrd:aH (F.shOf d)= .none:=hA.leaf_root hd hy; have hrl: ∀i k j,l= .s i k j→aH (F.shOf i)= .none:=fun i k j e=>by subst e; exact hA.leaf_root hL hat
 have hl':Loc.s d 0 c≠l:=fun e=>by subst e; simp [aS]at hne
 have nr: ∀i,aH (F.shOf i)= .none→eO F l i=true:=fun i e=>by
  unfold eO; rw[e,z9 (Ne.symm hln)]; rfl
 have hs0: ∀i,aH (F.shOf i)= .none→(decide (aH (F.shOf i)= .s d 0 c))=false:=fun i e=>by rw[e]; rfl
 have has1: ∀i,aH (F.shOf i)= .none→b.has i=true→(b.take1 F l d c).has i=true:=fun i e hi=>by
  unfold B.take1; rw[vM,dT,Bk e,pG,hs0 i e,dT,nr i e,hi]; rfl
 have hasd:=has1 d hrd hd; have hasL:(b.take1 F l d c).hasL l=true:=by
  cases l with
  | s i k j=>exact has1 i (hrl i k j rfl) hL
  | oc o j=>
   show(b.take1 F (.oc o j) d c).hasO o=true; unfold B.take1; rw[vM,xF,fG]; exact hL
  | _=>cases hlp
 have kd1: ∀i k j,aH (F.shOf i)= .none→b.has i=true→(b.take1 F l d c).kd (.s i k j)=(match b.get (.s i k j)with | some q=>if Loc.s i k j= .s d 0 c then .U 0 else q | none=> .D):=fun i k j e hi=>by
  unfold B.take1; rw[vM,fF (Bk e)]; have h1:((b.filt (eO F l)).setf F (fun m=>decide (m= .s d 0 c)) (fun m q=>if m= .s d 0 c then .U 0 else q)).hasL (.s i k j)=true:=by
   show((b.filt (eO F l)).setf F _ _).has i=true; rw[pG,hs0 i e,dT,nr i e,hi]; rfl
  have h2:(b.filt (eO F l)).get (.s i k j)=b.get (.s i k j):=by simp only[wS,z19 (nr i e)]
  simp only[B.kd,sV h1,h2]; cases b.get (.s i k j)<;>rfl
 have kdl:(b.take1 F l d c).kd l= .U s:=by
  cases l with
  | s i k j=>
   rw[kd1 i k j (hrl i k j rfl) hL]; have:b.kd (.s i k j)= .U s:=hU; unfold B.kd at this; cases hg:b.get (.s i k j)with
   | none=>rw[hg]at this; cases this
   | some q=>
    rw[hg]at this; simp only at this ⊢; rw[z13 (Ne.symm hl'),this]
  | oc o j=>
   unfold B.take1; rw[vM,EP]; have h1:((b.filt (eO F (.oc o j))).setf F (fun m=>decide (m= .s d 0 c)) (fun m q=>if m= .s d 0 c then .U 0 else q)).hasL (.oc o j)=true:=by
    show((b.filt _).setf F _ _).hasO o=true; rw[fG]; exact hL
   have h2:(b.filt (eO F (.oc o j))).get (.oc o j)=b.get (.oc o j):=by simp only[wS]
   have:b.kd (.oc o j)= .U s:=hU; unfold B.kd at this ⊢; rw[sV h1,h2]; cases hg:b.get (.oc o j)with
   | none=>rw[hg]at this; cases this
   | some q=>
    rw[hg]at this; simp only at this; subst this; simp
  | _=>cases hlp
 refine⟨(hA2.setf _ _).nrm,hasL,kdl,hasd,fun c' hc=> ?_,fun {g0 w0 a w g} hs v0 u hv hpl hv'=> ?_⟩
 ·rw[kd1 d 0 c' hrd hd]
  unfold B.kd; cases b.get (.s d 0 c')with
  | none=>rfl
  | some q=>simp only; rw[z13 (by simp [hc])]
 ·have hst:(b.S n x).at l=some x0:=by rw[Hr hL]; exact hat
  have hst':(b.S n x).at (.s d 0 c)=some y:=by rw[Hr (show b.hasL (.s d 0 c)=true from hd)]; exact hy
  obtain⟨g',hβ,h1⟩:=hs.take1 (l:=l) (l':= .s d 0 c) (s:=s) hU hst hv hpl hq rfl hl' hst' hv' hk; refine⟨g',hβ,h1.relax ?_⟩
  have hlow:=EV (z:=cJ x0 q .hole) hA (Low.self n b x) hL hat hln; refine(iR hA2 hlow (by simp) (fun m hm hlo=> ?_) (fun i hi hk2 hf=> ?_)).le (hA2.setf _ _)
  ·by_cases e:m= .s d 0 c
   ·subst e; rw[z19 rfl,z19 rfl]; exact cV _
   ·rw[z13 e,z13 e]; exact hlo
  ·by_cases e:Loc.s i 0 0= .s d 0 c
   ·rw[z19 e]; simp
   ·rw[z13 e]at hf ⊢; exact hk2 hf
theorem Lh{n:Nat}{l:Loc}{d s:Nat}{p:List (Nat×Nat)}{n' j:Nat}: ∀(M:List Nat) {b:B} {x:D} {x0:T},Ag F b x→M.Nodup→b.hasL l=true→b.kd l= .U s→x.at l=some x0→b.has d=true→aS d l=false→(∀c∈M,(b.kd (.s d 0 c)).hold=false∧ ∃y,x.at (.s d 0 c)=some y)→
  Ag F (b.takes F l d M) (x.takes l p n' j M)∧ ∀ {g0:G} {w0:World} {a:Act} {w:World} {g:G},bM g0 w0 (b.S n x) a g w→ ∀v0,vAt a.tmps g.β w l=some v0→(∀c∈M, ∃u y,Pl w v0 x0 (p++[(n',j+c)]) u y∧vAt a.tmps g.β w (.s d 0 c)=some u∧x.at (.s d 0 c)=some y)→Sim g0 w0 ((b.takes F l d M).S n (x.takes l p n' j M)) a w
 | [],b,x,x0,hA,_,_,_,_,_,_,_=>⟨hA,fun hs _ _ _=>⟨_,hs⟩⟩
 | c::M,b,x,x0,hA,hnd,hL,hU,hat,hd,hne,hM=>by
  obtain⟨hc,hnd⟩:=List.nodup_cons.1 hnd; obtain⟨hk,y,hy⟩:=hM c z29; have hq:p++[(n',j+c)]≠[]:=by simp
  obtain⟨k1,k2,k3,k4,k5,k6⟩:=MV (n:=n) hA hq hL hU hat hd hne hy hk; have hl': ∀c,Loc.s d 0 c≠l:=fun c e=>by subst e; simp [aS]at hne
  have hat1:(x.upd l (cJ x0 (p++[(n',j+c)]) .hole)).at l=some (cJ x0 (p++[(n',j+c)]) .hole):=by rw[D.upd_at hat,z19 rfl]
  have hatd: ∀c',(x.upd l (cJ x0 (p++[(n',j+c)]) .hole)).at (.s d 0 c')=x.at (.s d 0 c'):=fun c'=>by rw[D.upd_at hat,z13 (hl' c')]
  have hcc: ∀c'∈M,c'≠c:=fun c' h e=>hc (e ▸ h)
  have ih:=Lh (n:=n) (p:=p) (n':=n') (j:=j) M k1 hnd k2 k3 hat1 k4 hne (fun c' h=>by
   rw[k5 c' (hcc c' h),hatd]; exact hM c' (z25 _ h))
  have e:x.takes l p n' j (c::M)=(x.upd l (cJ x0 (p++[(n',j+c)]) .hole)).takes l p n' j M:=by
   simp only[D.takes,hat]; rfl
  rw[e]; refine⟨ih.1,fun {g0 w0 a w g} hs v0 hv hpl=> ?_⟩
  obtain⟨u,y',p1,p2,p3⟩:=hpl c z29; rw[hy]at p3; cases p3; obtain⟨g',hβ,h1⟩:=k6 hs v0 u hv p1 p2; refine ih.2 h1 v0 (by rw[hβ]; exact hv) (fun c' h=> ?_)
  obtain⟨u',y',p4,p5,p6⟩:=hpl c' (z25 _ h); exact⟨u',y',p4.beside (by have:=hcc c' h; omega) .hole,by rw[hβ]; exact p5,by rw[hatd]; exact p6⟩
end
end Go.Own

namespace Go.Own
open Go.RowKit

def tkM(F:FA)(d:Nat):List Nat:=((lF (F.shOf d)).map (·.2)).filter fun j=>match(F.shOf d).leaf 0 j with | some z=> !(scal z) | none=>false
def Hp(F:FA)(v:Operand):Bool:=match mM F v with
 | .one (.pp _ _ _ _)=>true
 | _=>false
def gM:V→Bool
 | .one (.pp _ _ _ _)=>true
 | _=>false
def DS(τ:TypeId→Option TI)(F:FA)(x:D)(d:Nat)(t:TypeId)(v:Operand):Option D:=
 match τ t,ev x.sl v with
 | some i, .one (.pp l p n j)=>(match(x.at l).bind (nav · p)with
  | some (.sl es)=>(match es[n]? with
   | some row=>(match nV i (row.drop j)with
    | some r=>bif Own.fits r (F.shOf d)then some ((x.put d r).takes l p n j (tkM F d))else none
    | none=>none)
   | none=>none)
  | _=>none)
 | _,_=>none
def IV(τ:TypeId→Option TI)(F:FA)(b:B)(d:Nat)(t:TypeId)(v:Operand):Option B:=
 match τ t,mM F v with
 | some i, .one (.pp l _ _ _)=>bif Nat.blt d F.n&&cR b v&&Ac F b d v then
   (bif ((b.put F d (fun _ j=>if iO i.zero j then .S else .V)).nrm F).hasL l&&isU (((b.put F d (fun _ j=>if iO i.zero j then .S else .V)).nrm F).kd l)&&((b.put F d (fun _ j=>if iO i.zero j then .S else .V)).nrm F).has d&&decide ((tkM F d).Nodup)&&(tkM F d).all (fun c=> !(((b.put F d (fun _ j=>if iO i.zero j then .S else .V)).nrm F).kd (.s d 0 c)).hold)then
    some (((b.put F d (fun _ j=>if iO i.zero j then .S else .V)).nrm F).takes F l d (tkM F d))else none)
  else none
 | _,_=>none
theorem UD{κ:K}(h:isU κ=true): ∃s,κ= .U s:=by cases κ<;>first | exact⟨_,rfl⟩ | cases h
theorem D.at_put{x:D}{d:Nat}{r:V}{l:Loc}(h:aS d l=false):(x.put d r).at l=x.at l:=by
 cases l with
 | s i k j=>
  have:i≠d:=fun e=>by subst e; simp [aS]at h
  simp only[D.at,atL,D.put,z13 this]
 | _=>rfl

theorem FG{v:V}(h:gM v=true): ∃l p n j,v= .one (.pp l p n j):=by
 unfold gM at h; split at h
 ·exact⟨_,_,_,_,rfl⟩
 ·cases h
section
variable {P:Program} {τ:TypeId→Option TI} {F:FA} {o:Oper} {b b':B} {x x':D} {d:Nat}
theorem MD{t:TypeId}{al:Bool}(hA:Ag F b x){v:Operand}(hk:cR b v=true)(h:pT τ F x d t v al=some x'∨gM (ev x.sl v)=true):gM (ev x.sl v)=Hp F v:=by
 cases hp:gM (ev x.sl v)with
 | true=>
  obtain⟨l,p,n,j,e⟩:=FG hp; obtain⟨tv,p2,i2,rfl,hs2⟩:=NR hA hk e; unfold Hp; rw[hs2]
 | false=>
  rcases h with h | h
  ·unfold pT at h
   split at h
   ·rename_i hi hv
    unfold Hp; rw[IM hA hk hv]
   ·rename_i hi hv
    obtain⟨ys,hs⟩:=Rk hA hk hv; unfold Hp; rw[hs]
   ·rename_i hi hv
    rw[hv]at hp; cases hp
   ·cases h
  ·rw[h]at hp; cases hp
theorem Ql(hT:aY P τ)(hA:Ag F b x){t:TypeId}{v:Operand}(hd:o.dst=some d)(ho:o.op= .load t v)(h1:DS τ F x d t v=some x')(h2:IV τ F b d t v=some b'):OpS P F F.n o b x b' x':=by
 unfold DS at h1; split at h1<;>try cases h1
 rename_i i l p n j hi hv; split at h1<;>try cases h1
 rename_i es hnav; split at h1<;>try cases h1
 rename_i row hrow; split at h1<;>try cases h1
 rename_i r hr; obtain⟨e1,h1⟩:=aI h1; cases h1; unfold IV at h2; rw[hi]at h2; split at h2<;>try cases h2
 rename_i i' l' p' n' j' hi' hs; cases hi'; obtain⟨hc,h3⟩:=aI h2; clear h2; simp only[z7]at hc; obtain⟨⟨c1,c2⟩,ha⟩:=hc; obtain⟨tv,p2,i2,rfl,hs2⟩:=NR hA c2 hv; rw[hs2]at hs; cases hs; obtain⟨a1,a2,a3,a4⟩:=qO hA c2 ha (.inr ⟨p,n,j,hv⟩); simp only[z18]at hnav; obtain⟨x0,hx0,hnav⟩:=hnav; obtain⟨hq,h3⟩:=aI h3; cases h3; simp only[z7]at hq; obtain⟨⟨⟨⟨q1,q2⟩,q3⟩,q4⟩,q5⟩:=hq; have hA1:Ag F (b.put F d (fun _ j=>if iO i.zero j then .S else .V)) (x.put d r):=hA.put (.inr e1)
 have hlow:=EZ hA (Low.self F.n b x) (κ:=fun _ j=>if iO i.zero j then K.S else .V) (f:=fun _ j=>if iO i.zero j then K.S else .V) (.inr e1) (fun _ _ _ _=>cV _) (fun _ _ _=>cV _) (fun _ h=>h)
 obtain⟨s,hU⟩:=UD q2; have hat:(x.put d r).at l=some x0:=by rw[D.at_put a2]; exact hx0
 have hleaf: ∀c∈tkM F d, ∃y,r.leaf 0 c=some y:=fun c hc=>by
  have hc:=(z74.1 hc).1; obtain⟨⟨k,c'⟩,hm,rfl⟩:=z51.1 hc; obtain⟨y,hy⟩:=oT e1 hm; obtain⟨rfl,_⟩:=tX hr hy; exact⟨y,hy⟩
 have hatd: ∀c,(x.put d r).at (.s d 0 c)=r.leaf 0 c:=fun c=>by simp [D.at,atL,D.put]
 obtain⟨k1,k2⟩:=Lh (n:=F.n) (p:=p) (n':=n) (j:=j) (tkM F d) hA1.nrm (of_decide_eq_true q4) q1 hU hat q3 a2 (fun c hc=>by
  have h5:=z15.1 q5 c hc; refine⟨by simpa using h5, ?_⟩
  obtain⟨y,hy⟩:=hleaf c hc; exact⟨y,by rw[hatd]; exact hy⟩)
 refine⟨k1,fun g0 w0=> ?_⟩
 intro a w ⟨g,hs⟩; obtain⟨_,v0,bb,off,len,cap,f1,f2,f3,f4⟩:=hs.ppCell (l:=l) (p:=p) (i:=n) (j:=j) (t:=tv) (by rw[oK c2]; exact hv) a1 a3 (by rw[Hr a4]; exact hx0) hnav hrow
 obtain⟨u,hu,hru,hroot,hparts⟩:=sO hT hi (g:=g) (κ:=fun _=> .V) (l:=fun _=> .none) (l':=fun k j=> .s d k j) (b:=bb) (p:=off+n*row.length+j) (xs:=row.drop j) (fun q y hy=>by
  obtain⟨c,c1,c2,_⟩:=f4 q y hy; exact⟨c,c1,c2.not_agg,c2⟩) hr (fun _ _ _ hf=>hf)
 refine⟨_,w,rD ho f3 hu, .inl ⟨_,rfl, ?_⟩⟩
 rw[hd]; have hset:=hs.set (cD c1) hru (fun h=>absurd hroot h)
 have hrel:=hset.relax (hlow.le hA1); have hdlt:d<a.tmps.size:=by rw[hs.size]; exact cD c1
 refine k2 hrel v0 ?_ (fun c hc=> ?_)
 ·have:vAt (a.put (some d) u).tmps g.β w l=vAt a.tmps g.β w l:=by
   cases l with
   | s i k j=>exact yB (l:= .s i k j) hdlt a2
   | oc o j=>rfl
   | _=>rfl
  rw[this]; exact f1
 ·obtain⟨y,hy⟩:=hleaf c hc
  obtain⟨y1,y2⟩:=hparts c y hy; obtain⟨cv,z1,z2,z3⟩:=f4 c y y1; refine⟨cv,y,z3, ?_,by rw[hatd]; exact hy⟩
  simp only[vAt]; rw[Act.put_getD a d _ _ hdlt,z19 rfl,y2]; exact z1
end
end Go.Own

namespace Go.Own
open Go.RowKit

def pS:V→Bool
 | .one (.c (.sl _))=>true
 | _=>false
def rW(F:FA)(v:Operand):Bool:=pS (mM F v)
def pQ(τ:TypeId→Option TI)(F:FA)(x:D)(d:Nat)(t:TypeId)(v i:Operand):Option D:=
 match v,tk τ t,ev x.sl i,ev x.sl v with
 | .tmp s,some (.sl e), .one (.c (.int _ n)), .one (.c (.sl es))=>(match idx τ e es n with | some _=>qG F x d (.one (.pp (.s s 0 0) [] n.toNat 0)) | none=>none)
 | _,_,_,_=>none
def BZ(F:FA)(b:B)(d:Nat)(v i:Operand):Option B:=match v with
 | .tmp s=>bif Nat.blt d F.n&&b.has s&&cR b i&& !(Nat.beq s d)&&(b.kd (.s s 0 0)).hold then some ((b.put F d (fun _ _=> .F)).nrm F)else none
 | _=>none

section
variable {P:Program} {τ:TypeId→Option TI} {g0:G} {w0:World} {o:Oper} {st:St} {d:Nat}
theorem HU(hT:aY P τ){t e:TypeId}{ei:TI}{s:Nat}{i:Operand}{es:List (List T)}{row:List T}{k:IntKind}{n:Int}(hd:o.dst=some d)(hn:d<st.n)(ho:o.op= .indexAddr t (.tmp s) i)(ht:tk τ t=some (.sl e))(he:τ e=some ei)
  (hx:st.sl s= .one (.c (.sl es)))(hk:(st.fl (.s s 0 0)).hold=true)(hne:s≠d)(hi:ev st.sl i= .one (.c (.int k n)))(h0:0≤n)(hrow:es[n.toNat]? =some row)(hsz:row.length=ei.size):
  nL P g0 w0 o st (st.put d (.one (.pp (.s s 0 0) [] n.toNat 0)) (fun _ _=> .F)):=by
 intro a w ⟨g,hs⟩; have hat:st.at (.s s 0 0)=some (.sl es):=by rw[St.at_s,hx]; rfl
 have h1:=hs.slots s; rw[hx]at h1; have hv:vAt a.tmps g.β w (.s s 0 0)=some (a.tmps.getD s undef):=(gB h1.1).2; have hrd:=hs.pl_rd hk hv hat (.nil _ _); obtain⟨_,_,_,hpos⟩:=kV hT he; obtain⟨b,off,len,cap,q1,hl,_⟩:=EY (β:=g.β) hrd hrow hsz hpos; have hlt:n.toNat<es.length:=bW hrow; refine⟨_,w,nX hT ht he (ρ:=a.eval) (x:= .tmp s) q1 (hs.int hi) h0 (by omega) ho w, .inl ⟨_,rfl,g, ?_⟩⟩
 rw[hd]; exact hs.set hn trivial (fun _ _=>⟨hk,by simp [aH,aS,hne],_, .sl es,b,off,len,cap,es,row,hv,hat,by rw[←q1]; exact .nil _ _,hrow,by rw[hsz]; rfl⟩)
end

section
variable {P:Program} {τ:TypeId→Option TI} {F:FA} {o:Oper} {b b':B} {x x':D} {d:Nat}
theorem Oh(hT:aY P τ)(hA:Ag F b x){t:TypeId}{v i:Operand}(hd:o.dst=some d)(ho:o.op= .indexAddr t v i)(h1:pQ τ F x d t v i=some x')(h2:BZ F b d v i=some b'):OpS P F F.n o b x b' x':=by
 unfold pQ at h1; split at h1<;>try cases h1
 rename_i s e k n es hte hi hv; split at h1<;>try cases h1
 rename_i row hrow; obtain⟨e1,rfl⟩:=bU h1; obtain⟨ei,q1,q2,q3,q4⟩:=Aj hrow; simp only[BZ]at h2; obtain⟨hc,h2⟩:=aI h2; simp only[z7]at hc; obtain⟨⟨⟨⟨c1,c2⟩,c3⟩,c4⟩,c5⟩:=hc; cases h2; exact OpS.put0 hA e1 (fun g0 w0=>HU hT hd (cD c1) ho hte q1 (by rw[oK c2]; exact hv) c5 (xC c4) (by rw[mW c3]; exact hi) q2 q3 q4)
theorem IH{t:TypeId}(hA:Ag F b x){v i:Operand}(hk:cR b v=true)(h:nM τ F x d t v i=some x'∨pS (ev x.sl v)=true):pS (ev x.sl v)=rW F v:=by
 cases hp:pS (ev x.sl v)with
 | true=>
  unfold pS at hp; split at hp<;>try cases hp
  rename_i es hv; rcases AF hA hk hv (by simp)with hf | ⟨_,hs⟩
  ·unfold rW
   cases hs:mM F v with
   | tup ws=>rw[hs]at hf; simp [Own.fits]at hf
   | one y=>
    rw[hs]at hf; cases y<;>simp [Own.fits,bP]at hf
    rename_i z; cases z<;>simp [qX]at hf
    rfl
  ·unfold rW; rw[hs]; rfl
 | false=>
  rcases h with h | h
  ·cases hq:rW F v with
   | false=>rfl
   | true=>
    exfalso
    unfold rW pS at hq; split at hq<;>try cases hq
    rename_i es hs; have hfit:ev x.sl v= .tup []∨Own.fits (ev x.sl v) (mM F v)=true:=by
     cases v with
     | tmp t'=>exact hA.sl t' hk
     | const u=>
      right
      have hs:bG u= .one (.c (.sl es)):=hs; show Own.fits (bG u) (bG u)=true; rw[hs]; rfl
     | func f=>cases hs
     | global g=>cases hs
    rw[hs]at hfit; unfold nM at h; rcases hfit with e | e
    ·rw[e]at h
     split at h
     ·cases h
     ·split at h<;>simp_all
     ·cases h
    ·cases hv:ev x.sl v with
     | tup ws=>rw[hv]at e; simp [Own.fits]at e
     | one w=>
      rw[hv]at e; cases w<;>simp [Own.fits,bP]at e
      rename_i z; cases z<;>simp [qX]at e
      ·rw[hv]at hp; cases hp
      ·rw[hv]at h
       split at h
       ·cases h
       ·split at h<;>simp_all
       ·cases h
  ·rw[h]at hp; cases hp
end
end Go.Own

namespace Go.Own
open Go.RowKit

section
variable {P:Program} {τ:TypeId→Option TI} {F:FA} {o:Oper} {b b':B} {x x':D} {d:Nat}

def dOp(τ:TypeId→Option TI)(F:FA)(x:D)(o:Oper):Option D:=
 match o.dst with
 | some d=>(match o.op with
  | .assign v=>xY F x d v
  | .move v=>bif mem d F.al then zC F x d v else xY F x d v
  | .extract v k=>nN F x d k v
  | .pick c y z=>DC F x d c y z
  | .fieldAddr s v f=>tF τ F x d s v f
  | .nilCheck v=>KF F x d v
  | .makeFunc (.func f) first caps=>bif first.isEmpty then HL F x d f caps else none
  | .indexAddr t v i=>bif gM (F.shOf d)&&pS (ev x.sl v)then pQ τ F x d t v i else nM τ F x d t v i
  | .load t v=>bif mem d F.tk&&(!(mem d F.al)&&gM (ev x.sl v))then DS τ F x d t v else pT τ F x d t v (mem d F.al)
  | .alloc t=>Aa τ F x d t
  | .box _ v=>Nv F x d v
  | .buildSlice t n parts=>LK τ F x d t n parts
  | .makeSlice t v y=>DD τ F x d t v y
  | .build t parts=>vP τ F x d t parts
  | .call c=>(match c.callee,c.args.toList,c.argTypes.toList with
   | .builtin .append,[v,y],[t,u]=>qU τ F x d t u v y
   | _,_,_=>mU τ F x d o.op)
  | op=>mU τ F x d op)
 | none=>(match o.op with
  | .store t v y=>(match τ t,ev x.sl v,aT (ev x.sl y)with
   | some i, .one (.ptr ob p),some xs=>qT F x i ob p xs
   | some i, .one (.pp l p n j),some xs=>pP F x i l p n j xs
   | _,_,_=>none)
  | _=>none)

def cOp(τ:TypeId→Option TI)(F:FA)(b:B)(o:Oper):Option B:=
 match o.dst with
 | some d=>(match o.op with
  | .assign v=>QF F b d true v
  | .move v=>bif mem d F.al then Le F b d v else QF F b d (mem d F.tk) v
  | .extract v k=>FM F b d k v
  | .pick c y z=>TA F b d c y z
  | .fieldAddr _ v _=>Pb F b d v
  | .nilCheck v=>cNil F b d v
  | .makeFunc (.func _) _ caps=>TB F b d caps
  | .indexAddr _ v i=>bif gM (F.shOf d)&&rW F v then BZ F b d v i else IW F b d v i
  | .load t v=>bif mem d F.tk&&(!(mem d F.al)&&Hp F v)then IV τ F b d t v else Nd τ F b d t v (mem d F.al) (mem d F.tk)
  | .alloc t=>Ld τ F b d t
  | .box _ v=>cBox F b d v
  | .buildSlice t _ parts=>cLit τ F b d t parts
  | .makeSlice t v y=>QG τ F b d t v y
  | .build t parts=>Lc τ F b d t parts
  | .slice _ v lo _ mx=>bif mem d F.tk then cCut F b d v lo mx o.op else Is F b d o.op
  | .call c=>(match c.callee,c.args.toList,c.argTypes.toList with
   | .builtin .append,[v,y],[t,_]=>IK τ F b d t v y
   | _,_,_=>Is F b d o.op)
  | op=>Is F b d op)
 | none=>(match o.op with
  | .store t v y=>(match τ t,mM F v with
   | some i, .one (.ptr ob p)=>BY F b i ob p v y
   | some i, .one (.pp l p _ _)=>(match v with | .tmp tx=>yF F b i l p tx y | _=>none)
   | _,_=>none)
  | _=>none)

theorem op_S(hT:aY P τ)(hA:Ag F b x)(h1:dOp τ F x o=some x')(h2:cOp τ F b o=some b'):OpS P F F.n o b x b' x':=by
 unfold dOp at h1; unfold cOp at h2; cases hd:o.dst with
 | none=>
  rw[hd]at h1 h2; simp only at h1 h2; split at h1<;>try cases h1
  rename_i t v y ho; rw[ho]at h2; split at h1<;>try cases h1
  ·rename_i i ob p xs hi hv hy
   simp only[hi]at h2; have hk:cR b v=true:=by
    split at h2<;>try cases h2
    ·unfold BY at h2
     obtain⟨hc,_⟩:=aI h2; simp only[z7]at hc; exact hc.1.1
    ·split at h2<;>try cases h2
     unfold yF at h2; obtain⟨hc,_⟩:=aI h2; simp only[z7]at hc; exact hc.1.1.1.1.1.1.1
   rw[IM hA hk hv]at h2; exact QO hT hA hd ho hi hv hy h1 h2
  ·rename_i i l p n j xs hi hv hy
   simp only[hi]at h2; have hk:cR b v=true:=by
    split at h2<;>try cases h2
    ·unfold BY at h2
     obtain⟨hc,_⟩:=aI h2; simp only[z7]at hc; exact hc.1.1
    ·split at h2<;>try cases h2
     unfold yF at h2; obtain⟨hc,_⟩:=aI h2; simp only[z7]at hc; exact hc.1.1.1.1.1.1.1
   obtain⟨tv,p',n',rfl,hs⟩:=NR hA hk hv; rw[hs]at h2; simp only at h2; have hpl:p.length=p'.length:=by
    have hv':x.sl tv= .one (.pp l p n j):=hv; have hf:=hA.fits (t:=tv) hk (by rw[hv']; simp)
    have hs':F.shOf tv= .one (.pp l p' n' j):=hs; rw[hv',hs']at hf; simp only[Own.fits,bP,z7]at hf; exact z16 hf.1.2
   exact OE hT hA hd ho hi hv hs hpl hy h1 h2
 | some d=>
  rw[hd]at h1 h2; simp only at h1 h2; cases ho:o.op with
  | assign v=>rw[ho]at h1 h2; exact PU hA hd (.inl ho) h1 h2
  | move v=>
   rw[ho]at h1 h2; simp only at h1 h2; cases hm:mem d F.al with
   | true=>rw[hm]at h1 h2; exact RM hA hd ho h1 h2
   | false=>rw[hm]at h1 h2; exact PU hA hd (.inr ho) h1 h2
  | extract v k=>rw[ho]at h1 h2; exact Mw hA hd ho h1 h2
  | pick c y z=>rw[ho]at h1 h2; exact Tr hA hd ho h1 h2
  | fieldAddr s v f=>rw[ho]at h1 h2; exact Qy hT hA hd ho h1 h2
  | nilCheck v=>rw[ho]at h1 h2; exact nil_S hA hd ho h1 h2
  | makeFunc fn first caps=>
   rw[ho]at h1 h2; cases fn with
   | func f=>
    simp only at h1 h2; obtain⟨hf,h1⟩:=aI h1; have:first= #[]:=by simpa using hf
    subst this; exact UG hA hd ho h1 h2
   | _=>simp only[mU,gL]at h1; cases h1
  | indexAddr t v i=>
   rw[ho]at h1 h2; simp only at h1 h2; have hk:cR b v=true:=by
    cases hm:(gM (F.shOf d)&&rW F v)with
    | true=>
     rw[hm]at h2; simp only[z17,BZ]at h2; split at h2<;>try cases h2
     obtain⟨hc,_⟩:=aI h2; simp only[z7]at hc; exact hc.1.1.1.2
    | false=>
     rw[hm]at h2; simp only[z12,IW]at h2; obtain⟨hc,_⟩:=aI h2; simp only[z7]at hc; exact hc.1.2
   have he:pS (ev x.sl v)=rW F v:=by
    cases hm:(gM (F.shOf d)&&pS (ev x.sl v))with
    | true=>
     simp only[z7]at hm; exact IH (τ:=τ) (d:=d) (t:=t) (i:=i) (x':=x) hA hk (.inr hm.2)
    | false=>
     rw[hm]at h1; exact IH hA hk (.inl h1)
   rw[he]at h1; cases hm:(gM (F.shOf d)&&rW F v)with
   | true=>rw[hm]at h1 h2; exact Oh hT hA hd ho h1 h2
   | false=>rw[hm]at h1 h2; exact Qt hT hA hd ho h1 h2
  | load t v=>
   rw[ho]at h1 h2; simp only at h1 h2; have hk:cR b v=true:=by
    cases hm:(mem d F.tk&&(!(mem d F.al)&&Hp F v))with
    | true=>
     rw[hm]at h2; simp only[z17,IV]at h2; split at h2<;>try cases h2
     obtain⟨hc,_⟩:=aI h2; simp only[z7]at hc; exact hc.1.2
    | false=>
     rw[hm]at h2; simp only[z12,Nd]at h2; obtain⟨hc,_⟩:=aI h2; simp only[z7]at hc; exact hc.2
   have he:gM (ev x.sl v)=Hp F v:=by
    cases hm:(mem d F.tk&&(!(mem d F.al)&&gM (ev x.sl v)))with
    | true=>
     simp only[z7]at hm; exact MD (τ:=τ) (d:=d) (t:=t) (al:=false) (x':=x) hA hk (.inr hm.2.2)
    | false=>
     rw[hm]at h1; exact MD hA hk (.inl h1)
   rw[he]at h1; cases hm:(mem d F.tk&&(!(mem d F.al)&&Hp F v))with
   | true=>rw[hm]at h1 h2; exact Ql hT hA hd ho h1 h2
   | false=>rw[hm]at h1 h2; exact Ty hT hA hd ho h1 h2
  | alloc t=>rw[ho]at h1 h2; exact RL hT hA hd ho h1 h2
  | box t v=>rw[ho]at h1 h2; exact box_S hA hd ho h1 h2
  | buildSlice t n parts=>rw[ho]at h1 h2; exact lit_S hT hA hd ho h1 h2
  | makeSlice t v y=>rw[ho]at h1 h2; exact Tx hT hA hd ho h1 h2
  | build t parts=>rw[ho]at h1 h2; exact RI hT hA hd ho h1 h2
  | call c=>
   rw[ho]at h1 h2; simp only at h1 h2; split at h1
   ·rename_i v y t u e1 e2 e3
    simp only[e1,e2,e3]at h2; refine PD hT hA hd ?_ h1 h2
    obtain⟨cal,args,tys⟩:=c; simp only at e1 e2 e3; subst e1; rw[ho]; congr 2
    ·exact LC e2
    ·exact LC e3
   ·rename_i hn
    have h2':Is F b d (.call c)=some b':=by
     split at h2
     ·rename_i v y t u e1 e2 e3; exact absurd e3 (hn v y t u e1 e2)
     ·exact h2
    exact LR hT hA hd (by rw[ho]; exact h1) (by rw[ho]; exact h2')
  | slice ty v lo hi mx=>
   rw[ho]at h1 h2; simp only at h1 h2; cases hm:mem d F.tk with
   | true=>rw[hm]at h2; exact cut_S hT hA hd ho (by rw[ho]; exact h1) (by rw[ho]; exact h2)
   | false=>rw[hm]at h2; exact LR hT hA hd (by rw[ho]; exact h1) (by rw[ho]; exact h2)
  | _=>rw[ho]at h1 h2; exact LR hT hA hd (by rw[ho]; exact h1) (by rw[ho]; exact h2)
def B.freeze(F:FA)(b:B)(l:Loc):B:=b.setf F (fun m=>decide (m=l)) (fun m q=>if m=l then .F else q)
def B.frz(F:FA)(b:B):List Loc→B
 | []=>b
 | l::r=>(bif l.place&&(b.kd l).hold then(b.freeze F l).nrm F else b).frz F r

theorem Om{n:Nat}(hA:Ag F b x){l:Loc}(hp:l.place=true)(hk:(b.kd l).hold=true):Ag F ((b.freeze F l).nrm F) x∧ ∀ {g0:G} {w0:World} {a:Act} {w:World},Sim g0 w0 (b.S n x) a w→Sim g0 w0 (((b.freeze F l).nrm F).S n x) a w:=by
 have hA1:Ag F (b.freeze F l) x:=hA.setf _ _; refine⟨hA1.nrm,fun {g0 w0 a w} hs=> ?_⟩
 obtain⟨g,hs⟩:=hs; have h1:=hs.freeze hp (by show b.kd l≠ .D∧b.kd l≠ .V; constructor<;>(intro e; rw[e]at hk; simp [K.hold]at hk))
 exact⟨_,h1.relax ((iR hA (Low.self n b x) (by simp [Ne.symm (Loc.place_ne hp).1]) (fun m _ _=>cV _) (fun i _ _ hf=>hf)).le hA1)⟩

theorem QC{n:Nat}: ∀(L:List Loc) {b:B},Ag F b x→Ag F (b.frz F L) x∧ ∀ {g0:G} {w0:World} {a:Act} {w:World},Sim g0 w0 (b.S n x) a w→Sim g0 w0 ((b.frz F L).S n x) a w
 | [],b,hA=>⟨hA,fun hs=>hs⟩
 | l::r,b,hA=>by
  show Ag F ((bif l.place&&(b.kd l).hold then(b.freeze F l).nrm F else b).frz F r) x∧ ∀ {g0:G} {w0:World} {a:Act} {w:World},_→Sim g0 w0 (((bif l.place&&(b.kd l).hold then(b.freeze F l).nrm F else b).frz F r).S n x) a w
  cases hc:(l.place&&(b.kd l).hold)with
  | true=>
   simp only[z7]at hc; obtain⟨h1,h2⟩:=Om (n:=n) hA hc.1 hc.2; obtain⟨h3,h4⟩:=QC (n:=n) r h1; exact⟨h3,fun hs=>h4 (h2 hs)⟩
  | false=>exact QC r hA
end
end Go.Own

namespace Go.Own
open Go.RowKit

def DA(vs:List V)(ob:List (List T)):D:= { sl:=fun i=>vs.getD i (.one .junk),ob:=fun o=>if par≤o then ob[o - par]? else none }
def DR(r:V)(io:Option T)(ob:List (List T))(nw:Option (List T)):D:=
  { sl:=fun i=>match i with | 0=>r | 1=>(match io with | some t=> .one (.c t) | none=> .one .junk) | _=> .one .junk
    ob:=fun o=>if par≤o then ob[o - par]? else if o=0 then nw else none }

structure Sg where
  bi:B
  bo:B
  np:Nat
  io:Option Nat:=none
  ext:Bool:=true
  no:Nat:=0

def pY(P:Program)(n:Result Next)(R:Value→World→Prop):Prop:=
  match n with
  | .ok (.value v) w=>R v w
  | .ok (.enter f args) w=>Calls P f args w (fun e w'=> ∃v,e= .returned v∧R v w')
  | _=>False

def TC(P:Program)(f:FuncId)(sg:Sg)(vs:List V)(ob:List (List T))(r:V)(io:Option T)(ob':List (List T))(nw:Option (List T)):Prop:=
  ∀g w (us:Array Value),bM g w (sg.bi.S sg.np (DA vs ob)) ⟨us,[]⟩ g w→pY P ((callFunc f us).run P w) (fun u w'=> ∃g',bM g w (sg.bo.S 2 (DR r io ob' nw)) ⟨#[u,us.getD (sg.io.getD 0) undef],[]⟩ g' w')

def mV(os:List Nat)(o:Nat):Option Nat:=if o∈os then some (par+os.idxOf o)else none
def LI(os:List Nat)(o:Nat):Option Nat:=if par≤o then os[o - par]? else none

def zD(ρ:Nat→Option Nat):List (Nat×Nat)→Option (List (Nat×Nat))
  | []=>some []
  | c::r=>(ρ c.1).bind fun o=>(zD ρ r).map fun r'=>(o,c.2)::r'

def W.to(ρ:Nat→Option Nat):W→W
  | .ptr o off=>((ρ o).map fun o'=>W.ptr o' off).getD .junk
  | .fn f caps=>((zD ρ caps).map fun c=>W.fn f c).getD .junk
  | .al _ _=> .junk
  | .pp _ _ _ _=> .junk
  | w=>w
def V.to(ρ:Nat→Option Nat):V→V
  | .one w=> .one (w.to ρ)
  | .tup ws=> .tup (ws.map (W.to ρ))

theorem MK{g g':G}{ρ:Nat→Option Nat}(hβ: ∀o o',ρ o=some o'→g'.β o'=g.β o): ∀ {l l':List (Nat×Nat)},zD ρ l=some l'→
    l.map (fun c=>Value.pointer (some ⟨g.β c.1,c.2,none⟩))=l'.map (fun c=>Value.pointer (some ⟨g'.β c.1,c.2,none⟩))
  | [],l',h=>by simp only[zD,z10]at h; subst h; rfl
  | c::r,l',h=>by
    simp only[zD,z18,z22]at h; obtain⟨o,ho,r',hr,rfl⟩:=h; simp only[z61,MK hβ hr,hβ _ _ ho]

theorem V.to_root{ρ:Nat→Option Nat}{x:V}:aH (x.to ρ)= .none:=by
  cases x with
  | tup ws=>rfl
  | one w=>cases w with
    | ptr o off=>simp only[V.to,W.to]; cases ρ o<;>rfl
    | fn f caps=>simp only[V.to,W.to]; cases zD ρ caps<;>rfl
    | _=>rfl

theorem RW.to{g g':G}{w w':World}{κ κ':Nat→K}{l l':Nat→Loc}{v:Value}{x:W}{ρ:Nat→Option Nat}(hβ: ∀o o',ρ o=some o'→g'.β o'=g.β o)
    (hleaf: ∀j t u,x.leaf j=some t→FT v j=some u→mL u→LF g w (κ j) (l j) u t→LF g' w' (κ' j) (l' j) u t)(hcp: ∀xs,x= .cp xs→ ∀b off,CpR g w (κ 0) b off xs→CpR g' w' (κ' 0) b off xs)
    (h:RW g w κ l v x):RW g' w' κ' l' v (x.to ρ):=by
  cases x with
  | junk=>trivial
  | c y=>exact⟨h.1,hleaf 0 y v rfl (gB h.1).1 h.1 h.2⟩
  | ag xs=>
    obtain⟨cs,rfl,h2,h3⟩:=h; refine⟨cs,rfl,h2,fun j x hx=> ?_⟩
    obtain⟨c,c1,c2,c3⟩:=h3 j x hx; exact⟨c,c1,c2,hleaf j x c hx c1 c2 c3⟩
  | ptr o off=>
    simp only[W.to]; cases hρ:ρ o with
    | none=>trivial
    | some o'=>
      show v=_; rw[hβ o o' hρ]; exact h
  | cp xs=>
    obtain⟨b,off,h1,h2⟩:=h; exact⟨b,off,h1,hcp xs rfl b off h2⟩
  | pp _ _ _ _=>trivial
  | al _ _=>trivial
  | nilp=>exact h
  | ifc b=>exact h
  | fn f caps=>
    simp only[W.to]; cases hρ:zD ρ caps with
    | none=>trivial
    | some c=>
      show v=_; rw[←MK hβ hρ]; exact h

theorem RV.to{g g':G}{w w':World}{κ κ':Nat→Nat→K}{l l':Nat→Nat→Loc}{v:Value}{x:V}{ρ:Nat→Option Nat}(hβ: ∀o o',ρ o=some o'→g'.β o'=g.β o)
    (hleaf: ∀k j t u,x.leaf k j=some t→pR v k j=some u→mL u→LF g w (κ k j) (l k j) u t→LF g' w' (κ' k j) (l' k j) u t)(hcp: ∀k xs,x.comp k=some (.cp xs)→ ∀b off,CpR g w (κ k 0) b off xs→CpR g' w' (κ' k 0) b off xs)
    (h:RV g w κ l v x):RV g' w' κ' l' v (x.to ρ):=by
  cases x with
  | one y=>
    refine RW.to (κ:=κ 0) (l:=l 0) hβ (fun j t u h1 h2 h3 h4=>hleaf 0 j t u h1 ?_ h3 h4) (fun xs e b off hc=>hcp 0 xs (by rw[e]; rfl) b off hc) h
    obtain⟨u2,q1,q2,_⟩:=RW.leaf (show RW g w (κ 0) (l 0) v y from h) h1; rw[h2]at q1; cases q1; exact q2
  | tup ws=>
    obtain⟨vs,rfl,h2,h3⟩:=h; refine⟨vs,rfl,by simpa using h2,fun k x hx=> ?_⟩
    rw[z36]at hx
    obtain⟨y,hy,rfl⟩:=z22.1 hx; obtain⟨u,hu,hR⟩:=h3 k y hy; exact⟨u,hu,RW.to (κ:=κ k) (l:=l k) hβ (fun j t u' h1 h2 h4 h5=>hleaf k j t u' (by simp [V.leaf,hy,h1]) (by simp [pR,hu,h2]) h4 h5) (fun xs e b off hc=>hcp k xs (by simp only[V.comp]; rw[hy,e]) b off hc) hR⟩

def DG(xs:List Operand)(t:Nat):Option Nat:=if xs.any (vY t)then some (xs.findIdx (vY t))else none

def qJ(ext:Bool):Loc:=if ext then .ext else .none
def gZ(sg:Sg)(xs:List Operand)(os:List Nat):Loc→Loc
  | .s t k j=>match DG xs t with | some i=>if(sg.bi.kd (.s i k j)).hold then .s i k j else qJ sg.ext | none=>qJ sg.ext
  | .obj o=>match mV os o with | some i=> .obj i | none=> .ext
  | .oc o j=>match mV os o with | some i=>if(sg.bi.kd (.oc i j)).hold then .oc i j else qJ sg.ext | none=>qJ sg.ext
  | .none=> .none
  | .ext=>qJ sg.ext

open Classical in
noncomputable def G.into (g:G) (sg:Sg) (xs:List Operand) (os:List Nat) (Fp:Nat→Prop):G:=
  { β:=fun oc=>((LI os oc).map g.β).getD 0,own:=fun b=>if Fp b then .s (sg.io.getD 0) 0 0 else gZ sg xs os (g.own b) }

theorem JX{os:List Nat}(hn:os.Nodup){oc o:Nat}(h:LI os oc=some o):mV os o=some oc∧par≤oc∧os[oc - par]? =some o:=by
  simp only[LI]at h; split at h
  · rename_i hp
    have hm:o∈os:=z24 h; have hlt:oc - par<os.length:=bW h; have:os.idxOf o=oc - par:=by
      rw[z14 hlt]at h
      have h:=z46 h; subst h; exact hn.idxOf_getElem _ hlt
    refine⟨?_,hp,h⟩
    simp only[mV,z19 hm,this]; exact congrArg some (TM hp)
  · cases h

theorem FH{os:List Nat}{oc o:Nat}(h:mV os o=some oc):LI os oc=some o:=by
  simp only[mV]at h; split at h
  · rename_i hm
    have h:=z46 h; have h1:par≤oc:=by rw[←h]; exact Nat.le_add_right _ _
    have h2:oc - par=os.idxOf o:=by rw[←h]; exact z77 _ _
    simp only[LI]; rw[z19 h1,h2]; rw[z14 (List.idxOf_lt_length_of_mem hm)]
    simp
  · cases h

def K.hand(ext:Bool)(c q:K):Bool:=match q with
  | .D=>true
  | .F=>if ext then c.cp.lo .F else !(decide (c= .D))
  | .V=> !(decide (c= .D))
  | .S=>c.lo .S
  | .N=>c.lo .N
  | q=>ext&&c.lo q

theorem Bg(ext:Bool)(o:Nat):qJ ext≠ .obj o:=by unfold qJ; split<;>simp

theorem LF.hand{g gi:G}{w:World}{ext:Bool}{c q:K}{l l':Loc}{v:Value}{x:T}(hok:GOk g w)(hl:l.place=true)(h:LF g w c l v x)(hh:c.hand ext q=true)
    (hZ: ∀b,g.own b= .none→gi.own b= .none)(hN:ext=false→ ∀b,(∀o,g.own b≠ .obj o)→gi.own b= .none)(hA: ∀b,(∀o,g.own b≠ .obj o)→ ∀o,gi.own b≠ .obj o)(hm:q.hold=true→ ∀b,g.own b=l→gi.own b=l'):LF gi w q l' v x:=by
  have hfrz: ∀b,frz g w b→frz gi w b:=fun b hb=>⟨hb.1,hZ b hb.2⟩
  have hall: ∀b,all g w b→all gi w b:=fun b hb=>⟨hb.1,hA b hb.2⟩
  have hrd:c≠ .D→Rd (all g w) w v x:=fun hc=>h.rd hok hl hc
  have hhold:q.hold=true→c.lo q=true→LF gi w q l' v x:=fun hq hlo=>(h.lo hok hl hlo).moved (hm hq) hZ hall
  cases q with
  | D=>exact fun hs=>(LF.scal (g':=gi) (w':=w) (κ':= .D) (l':=l') h hs (by simp)) hs
  | F=>
    simp only[K.hand]at hh; cases ext with
    | true=>
      simp only[if_true]at hh; have:LF g w .F l v x:=(h.cp hok hl (l':=l)).lo hok hl hh; exact Rd.weaken hfrz this
    | false=>
      have hc:c≠ .D:=by simpa using hh
      exact Rd.weaken (fun b hb=>⟨hb.1,hN rfl b hb.2⟩) (hrd hc)
  | V=>
    have hc:c≠ .D:=by simpa [K.hand]using hh
    exact Rd.weaken hall (hrd hc)
  | S=>
    have:=h.lo hok hl (κ':= .S) hh; exact this
  | N=>
    have:=h.lo hok hl (κ':= .N) hh; exact this
  | A n=>
    simp only[K.hand,z7]at hh; exact hhold rfl hh.2
  | U n=>
    simp only[K.hand,z7]at hh; exact hhold rfl hh.2

theorem CpR.hand{g gi:G}{w:World}{ext:Bool}{c q:K}{b off:Nat}{xs:List T}(h:CpR g w c b off xs)(hh:c.hand ext q=true)
    (hZ: ∀b,g.own b= .none→gi.own b= .none)(hN:ext=false→ ∀b,(∀o,g.own b≠ .obj o)→gi.own b= .none)(hA: ∀b,(∀o,g.own b≠ .obj o)→ ∀o,gi.own b≠ .obj o)(hq:q= .D∨q= .F∨q= .V):CpR gi w q b off xs:=by
  have hfrz: ∀b,frz g w b→frz gi w b:=fun b hb=>⟨hb.1,hZ b hb.2⟩
  have hall: ∀b,all g w b→all gi w b:=fun b hb=>⟨hb.1,hA b hb.2⟩
  rcases hq with rfl | rfl | rfl
  · trivial
  · simp only[K.hand]at hh
    cases ext with
    | true=>
      simp only[if_true]at hh; cases c with
      | F=>exact⟨hfrz _ h.1,fun j x hx=>by obtain⟨c,h1,h2⟩:=h.2 j x hx; exact⟨c,h1,h2.weaken hfrz⟩⟩
      | D=>simp [K.cp,K.lo]at hh
      | V=>simp [K.cp,K.lo]at hh
      | _=>exact h.elim
    | false=>
      have hc:c≠ .D:=by simpa using hh
      have h':=h.toV hc; have hw: ∀b,all g w b→frz gi w b:=fun b hb=>⟨hb.1,hN rfl b hb.2⟩
      exact⟨hw _ h'.1,fun j x hx=>by obtain⟨c,h1,h2⟩:=h'.2 j x hx; exact⟨c,h1,h2.weaken hw⟩⟩
  · have hc:c≠ .D:=by simpa [K.hand]using hh
    have h':=h.toV hc; exact⟨hall _ h'.1,fun j x hx=>by obtain⟨c,h1,h2⟩:=h'.2 j x hx; exact⟨c,h1,h2.weaken hall⟩⟩
end Go.Own

namespace Go.Own
open Go.RowKit

def JE(st:St)(sg:Sg)(xs:List Operand)(i:Nat):Operand→Prop
 | .tmp t=>match st.sl t with
  | .one (.al l _)=>l≠ .none∧st.fl (.s t 0 0)≠ .D∧K.V.hand sg.ext (sg.bi.kd (.s i 0 0))=true
  | .one (.pp _ _ _ _)=>True
  | _=>(∀k j,(st.fl (.s t k j)).hand sg.ext (sg.bi.kd (.s i k j))=true∧((sg.bi.kd (.s i k j)).hold=true→DG xs t=some i))∧ ∀k zs,(st.sl t).comp k=some (.cp zs)→sg.bi.kd (.s i k 0)= .D∨sg.bi.kd (.s i k 0)= .F∨sg.bi.kd (.s i k 0)= .V
 | .const c=> ∀k j,(gH (bG c) k j).hand sg.ext (sg.bi.kd (.s i k j))=true
 | _=>True

theorem Mx(c:Value)(k:Nat)(xs:List T):(bG c).comp k≠some (.cp xs):=by
 have key: ∀w,(∀ys,w≠W.cp ys)→(V.one w).comp k≠some (.cp xs):=fun w hw=>by
  cases k with
  | zero=>simp only[V.comp]; intro e; exact hw xs (z46 e)
  | succ k=>simp [V.comp]
 unfold bG
 (repeat' split)<;>exact key _ (by simp)

theorem hJ{g:G}{sg:Sg}{xs:List Operand}{os:List Nat}{Fp:Nat→Prop}{b:Nat}(h: ¬ Fp b):(g.into sg xs os Fp).own b=gZ sg xs os (g.own b):=by
 simp only[G.into]; rw[z13 h]

theorem Ms{sg:Sg}{xs:List Operand}{os:List Nat}(he:sg.ext=false)(hh: ∀l,(sg.bi.kd l).hold=false){l:Loc}(hl: ∀o,l≠ .obj o):gZ sg xs os l= .none:=by
 have hr:qJ sg.ext= .none:=by rw[he]; rfl
 cases l with
 | obj o=>exact absurd rfl (hl o)
 | none=>rfl
 | ext=>exact hr
 | s t k j=>
  simp only[gZ]; split
  ·rw[z13 (by rw[hh]; simp)]; exact hr
  ·exact hr
 | oc o j=>
  simp only[gZ]; split
  ·rw[z13 (by rw[hh]; simp)]; exact hr
  ·exact hr

theorem Mr{sg:Sg}{xs:List Operand}{os:List Nat}{l:Loc}(hl: ∀o,l≠ .obj o)(o:Nat):gZ sg xs os l≠ .obj o:=by
 cases l with
 | obj o=>exact absurd rfl (hl o)
 | none=>simp [gZ]
 | ext=>exact Bg _ _
 | s t k j=>
  simp only[gZ]
  (repeat' split)<;>first | exact Bg _ _ | simp
 | oc o j=>
  simp only[gZ]
  (repeat' split)<;>first | exact Bg _ _ | simp

theorem UE{ext:Bool}{q:K}(h:K.V.hand ext q=true):q.hold=false:=by
 cases q<;>first | rfl | (simp [K.hand,K.lo]at h)

theorem Qu{ext:Bool}{c q:K}(hc:c= .S∨c= .N)(h:c.hand ext q=true):c.lo q=true:=by
 rcases hc with rfl | rfl<;>cases q<;>cases ext<;>simp_all [K.hand,K.lo,K.cp]

theorem bM.enter{g0:G}{w0:World}{st:St}{a:Act}{g:G}{w:World}(h:bM g0 w0 st a g w){sg:Sg}{xs:List Operand}{caps:List (Nat×Nat)}{os:List Nat}{Fp:Nat→Prop}{vs:List V}{ob:List (List T)}(hos:os.Nodup)(hnp:sg.np=vs.length)(hle:sg.np≤par)
  (hFp: ∀b,Fp b→(g.own b).place=true)(hno:sg.ext=false→(∀l,(sg.bi.kd l).hold=false)∧ ∀b, ¬ Fp b)
  (hFm: ∀t i k j,DG xs t=some i→(sg.bi.kd (.s i k j)).hold=true→ ∀b,g.own b= .s t k j→ ¬ Fp b)(hFo: ∀o oc j,mV os o=some oc→(sg.bi.kd (.oc oc j)).hold=true→ ∀b,g.own b= .oc o j→ ¬ Fp b)
  (hvs:vs=xs.map (fun v=>(evR st v).to (mV os))++caps.map (fun c=>(V.one (.ptr c.1 c.2)).to (mV os)))(hob:ob.map some=os.map st.ob)
  (harg: ∀(i:Nat) v,xs[i]? =some v→sg.io≠some i→JE st sg xs i v)(hobk: ∀o oc j,mV os o=some oc→(st.fl (.oc o j)).hand sg.ext (sg.bi.kd (.oc oc j))=true)
  (hio: ∀(i:Nat) v,xs[i]? =some v→sg.io=some i→RV (g.into sg xs os Fp) w (fun k j=>sg.bi.kd (.s i k j)) (fun k j=> .s i k j) (a.eval v) ((evR st v).to (mV os))):
  bM (g.into sg xs os Fp) w (sg.bi.S sg.np (DA vs ob)) ⟨(xs.map a.eval++caps.map fun c=>Value.pointer (some ⟨g.β c.1,c.2,none⟩)).toArray,[]⟩ (g.into sg xs os Fp) w:=by
 have hβ: ∀o o',mV os o=some o'→(g.into sg xs os Fp).β o'=g.β o:=fun o o' ho=>by simp [G.into,FH ho]
 have hZ: ∀b,g.own b= .none→(g.into sg xs os Fp).own b= .none:=fun b hb=>by
  rw[hJ (fun hf=>by have:=hFp b hf; rw[hb]at this; cases this),hb]; rfl
 have hN:sg.ext=false→ ∀b,(∀o,g.own b≠ .obj o)→(g.into sg xs os Fp).own b= .none:=fun he b hb=>by
  obtain⟨h1,h2⟩:=hno he; rw[hJ (h2 b)]; exact Ms he h1 hb
 have hA: ∀b,(∀o,g.own b≠ .obj o)→ ∀o,(g.into sg xs os Fp).own b≠ .obj o:=fun b hb o=>by
  by_cases hf:Fp b
  ·simp only[G.into]; rw[z19 hf]; simp
  ·rw[hJ hf]; exact Mr hb o
 refine⟨oO.refl _ _,⟨fun b hb=>h.ok.own b (fun e=>hb (hZ b e))⟩, ?_,rfl,fun i=> ?_,fun oc cells hc=> ?_,fun i hi hf=> ?_,fun _ _=>rfl,hle⟩
 ·simp [B.S,hnp,hvs]
 ·show RV _ w (fun k j=>sg.bi.kd (.s i k j)) _ ((xs.map a.eval++caps.map fun c=>Value.pointer (some ⟨g.β c.1,c.2,none⟩)).toArray.getD i undef) (if sg.bi.has i=true then vs.getD i (.one .junk)else .one .junk)
  by_cases hhas:sg.bi.has i=true
  ·rw[z19 hhas,hvs]
   simp only[z55,z84,z80,List.getElem?_append,z36,z89]
   split
   ·cases hx:xs[i]? with
    | none=>trivial
    | some v=>
     simp only[z35,z63]; by_cases hi:sg.io=some i
     ·exact hio i v hx hi
     ·have ha:=harg i v hx hi
      cases v with
      | tmp t=>
       have hs:=h.slots t; simp only[JE]at ha; show RV _ w _ _ (a.tmps.getD t undef) ((uU st.sl st.ob (st.sl t)).to (mV os))
       have plain:(∀l p,st.sl t≠ .one (.al l p))→((∀k j,(st.fl (.s t k j)).hand sg.ext (sg.bi.kd (.s i k j))=true∧((sg.bi.kd (.s i k j)).hold=true→DG xs t=some i))∧ ∀k zs,(st.sl t).comp k=some (.cp zs)→sg.bi.kd (.s i k 0)= .D∨sg.bi.kd (.s i k 0)= .F∨sg.bi.kd (.s i k 0)= .V)→
         RV (g.into sg xs os Fp) w (fun k j=>sg.bi.kd (.s i k j)) (fun k j=> .s i k j) (a.tmps.getD t undef) ((uU st.sl st.ob (st.sl t)).to (mV os)):=fun hna ha=>by
        have e:uU st.sl st.ob (st.sl t)=st.sl t:=by
         cases hsl:st.sl t with
         | tup ws=>rfl
         | one y=>cases y<;>first | rfl | exact absurd hsl (hna _ _)
        rw[e]; refine hs.to hβ (fun k j z u hz hu hn hf=> ?_) (fun k zs hz b off hc=>hc.hand (ext:=sg.ext) (ha.1 k 0).1 hZ hN hA (ha.2 k zs hz))
        refine hf.hand h.ok rfl (ha.1 k j).1 hZ hN hA (fun hq b hb=> ?_)
        have har:=(ha.1 k j).2 hq; rw[hJ (hFm t i k j har hq b hb),hb]; simp only[gZ,har]; rw[z19 hq]
       cases hsl:st.sl t with
       | tup ws=>rw[hsl]at ha plain; exact plain (by simp) ha
       | one y=>
        rw[hsl]at ha plain; cases y with
        | al l p=>
         obtain⟨h1,h2,h3⟩:=ha; have hp:=h.pls t (by rw[hsl]; exact h1) h2
         rw[hsl]at hp; obtain⟨hk,v0,x0,x',e1,e2,e3⟩:=hp; have e2':atL st.sl st.ob l=some x0:=e2; have e:uU st.sl st.ob (.one (.al l p))= .one (.c x'):=by simp [uU,e2',e3.nav]
         rw[e]; have hrd:=h.pl_rd hk e1 e2 e3; refine⟨hrd.not_agg, ?_⟩
         have:LF g w .V (.s t 0 0) (a.tmps.getD t undef) x':=hrd; refine this.hand h.ok rfl h3 hZ hN hA (fun hq=> ?_)
         exact absurd hq (by rw[UE h3]; simp)
        | pp l p a b=>trivial
        | _=>exact plain (by simp) ha
      | const c=>
       have hs:=sQ g w (fun k j=>Loc.s i k j) c
       show RV _ w _ _ c ((uU st.sl st.ob (bG c)).to (mV os)); have e:uU st.sl st.ob (bG c)=bG c:=by unfold bG; (repeat' split)<;>rfl
       rw[e]; refine hs.to hβ (fun k j z u hz hu hn hf=> ?_) (fun k zs hz=>absurd hz (Mx c k zs))
       have hq:=ha k j; have hk:gH (bG c) k j= .S∨gH (bG c) k j= .N:=by
        unfold gH; split
        ·split
         ·exact .inl rfl
         ·exact .inr rfl
        ·exact .inl rfl
       have h2:LF (g.into sg xs os Fp) w (gH (bG c) k j) (.s i k j) u z:=by
        rcases hk with e | e
        ·rw[e]at hf ⊢; exact hf
        ·rw[e]at hf ⊢; exact hf
       have hlo:(gH (bG c) k j).lo (sg.bi.kd (.s i k j))=true:=Qu hk hq; exact h2.lo ⟨fun b hb=>h.ok.own b (fun e=>hb (hZ b e))⟩ rfl hlo
      | func f=>rfl
      | global n=>trivial
   ·cases hx:caps[i - xs.length]? with
    | none=>trivial
    | some c=>
     simp only[z35,z63]; exact RV.to (g:=g) (w:=w) (κ:=fun _ _=> .D) (l:=fun _ _=> .none) (x:= .one (.ptr c.1 c.2)) hβ (fun k j t u hx=>by cases k<;>simp [V.leaf,W.leaf]at hx) (fun k xs hx=>by cases k<;>simp [V.comp]at hx) rfl
  ·rw[z13 hhas]; trivial
 ·have hc':(if sg.bi.hasO oc=true then(DA vs ob).ob oc else none)=some cells:=hc
  split at hc'<;>try cases hc'
  simp only[DA]at hc'; split at hc'<;>try cases hc'
  rename_i hhas hp; have h1:(os.map st.ob)[oc - par]? =some (some cells):=by rw[←hob,z36,hc']; rfl
  rw[z36,z22]at h1
  obtain⟨o,ho,h1⟩:=h1; have hout:LI os oc=some o:=by simp [LI,hp,ho]
  obtain⟨hinn,_,_⟩:=JX hos hout; obtain⟨arr,ty,k1,k2,k3,k4⟩:=h.obs o cells h1; have hb:(g.into sg xs os Fp).β oc=g.β o:=by simp [G.into,hout]
  rw[hb]; refine⟨arr,ty,k1,k2, ?_,fun j x hx=> ?_⟩
  ·rw[hJ (fun hf=>by have:=hFp _ hf; rw[k3]at this; cases this),k3]
   simp only[gZ,hinn]
  ·obtain⟨c,c1,c2,c3⟩:=k4 j x hx
   refine⟨c,c1,c2, ?_⟩
   show LF _ w (sg.bi.kd (.oc oc j)) _ c x; refine c3.hand h.ok rfl (hobk o oc j hinn) hZ hN hA (fun hq b hb=> ?_)
   rw[hJ (hFo o oc j hinn hq b hb),hb]; simp only[gZ,hinn]; rw[z19 hq]
 ·exfalso
  apply hi
  show aH (if sg.bi.has i=true then vs.getD i (.one .junk)else .one .junk)= .none
  split
  ·rw[hvs,z80,List.getElem?_append]
   simp only[z36,z89]
   split
   ·cases xs[i]? with
    | none=>rfl
    | some v=>exact V.to_root
   ·cases caps[i - xs.length]? with
    | none=>rfl
    | some c=>exact V.to_root (ρ:=mV os) (x:= .one (.ptr c.1 c.2))
  ·rfl
end Go.Own

namespace Go.Own
open Go.RowKit

def xW(nd:Option Nat)(v:V):V:=match nd with | some d=>v.kill d | none=>v

def rX(os:List Nat)(nd:Option Nat)(oc:Nat):Option Nat:=if par≤oc then os[oc - par]? else if oc=0 then nd else none
def oV(os:List Nat)(nd:Option Nat)(o:Nat):Option Nat:=if o∈os then some (par+os.idxOf o)else if nd=some o then some 0 else none

theorem Eb: ¬ par≤0:=by unfold par; omega

theorem Oe{os:List Nat}{nd:Option Nat}{oc o:Nat}(h:oV os nd o=some oc):rX os nd oc=some o:=by
  simp only[oV]at h; split at h
  · rename_i hm
    have:=FH (os:=os) (o:=o) (oc:=oc) (by simp only[mV]; rw[z19 hm]; exact h)
    simp only[LI]at this; simp only[rX]; split at this
    · rename_i hp; rw[z19 hp]; exact this
    · cases this
  · split at h
    · rename_i h1
      have h:=z46 h; subst h; simp only[rX]; rw[z13 Eb]; simpa using h1
    · cases h

theorem Bv{os:List Nat}{nd:Option Nat}{o:Nat}(h:oV os nd o=none):mV os o=none∧nd≠some o:=by
  simp only[oV]at h; split at h
  · cases h
  · rename_i hm
    split at h
    · cases h
    · rename_i h1
      exact⟨by simp only[mV,z13 hm],h1⟩

def K.back(ext:Bool)(q:K):K:=match q with
  | .V=> .D
  | .F=>if ext then .F else .V
  | .A s=>if ext then .A s else .V
  | q=>q

def rV(d nd:Option Nat)(os:List Nat):Loc→Bool
  | .s i _ _=>decide (d=some i)
  | .oc o _=>(oV os nd o).isSome
  | _=>false

def St.call(st:St)(d nd:Option Nat)(os:List Nat)(ext:Bool)(bo:B)(y:D):St:=
  { n:=st.n
    sl:=fun i=>if d=some i then(y.sl 0).to (rX os nd)else xW nd (st.sl i)
    ob:=fun o=>match oV os nd o with | some oc=>(if bo.hasO oc then y.ob oc else none) | none=>st.ob o
    fl:=fun l=>match l with
      | .s i k j=>if d=some i then(bo.kd (.s 0 k j)).back ext else if k=0∧j=0∧rV d nd os (aH (st.sl i))=true then .D else st.fl (.s i k j)
      | .oc o j=>match oV os nd o with | some oc=>(bo.kd (.oc oc j)).back ext | none=>st.fl (.oc o j)
      | l=>st.fl l }

def Iu(d:Option Nat)(ρ:Nat→Option Nat)(iol:Loc):Loc→Loc
  | .s i k j=>if i=0 then(match d with | some d=> .s d k j | none=> .ext)else if i=1 then iol else .ext
  | .obj oc=>match ρ oc with | some o=> .obj o | none=> .ext
  | .oc oc j=>match ρ oc with | some o=> .oc o j | none=> .ext
  | .none=> .none
  | .ext=> .ext

def fH:Loc→Bool
  | .none=>true
  | .ext=>true
  | _=>false
theorem Gu{l:Loc}:fH l=true↔nT l:=by cases l<;>simp [fH,nT]

def G.back(g gc gc':G)(w:World)(d nd:Option Nat)(os:List Nat)(iol:Loc):G:=
  { β:=fun o=>if nd=some o then gc'.β 0 else g.β o
    own:=fun b=>if fH (gc'.own b)then(if b<w.heap.size∧fH (gc.own b)=true then g.own b else gc'.own b)else Iu d (rX os nd) iol (gc'.own b) }

theorem Ka{nd:Option Nat}{x:V}{k j:Nat}:(xW nd x).leaf k j=x.leaf k j:=by
  cases nd with
  | none=>rfl
  | some d=>exact V.kill_leaf
theorem KZ{nd:Option Nat}{x:V}:aH (xW nd x)=aH x:=by
  cases nd with
  | none=>rfl
  | some d=>exact V.kill_root

theorem nD(a:Act)(d:Option Nat)(u:Value)(i:Nat)(h:d≠some i):(a.put d u).tmps.getD i undef=a.tmps.getD i undef:=by
  cases d with
  | none=>rfl
  | some d=>
    simp only[Act.put,z55]; rw[z97 (fun e=>h (by rw[e]))]

theorem LF.back{g' gb:G}{w':World}{ext:Bool}{q:K}{l l':Loc}{v:Value}{x:T}(hok:GOk g' w')(hl:l.place=true)(hl':l'.place=true)(h:LF g' w' q l v x)(hm: ∀b,g'.own b=l→gb.own b=l')
    (hA: ∀b,frz g' w' b→all gb w' b)(hZ:ext=true→ ∀b,frz g' w' b→gb.own b= .none):LF gb w' (q.back ext) l' v x:=by
  have hD:LF gb w' .D l' v x:=fun hs=>LF.scal (g':=gb) (w':=w') (κ':= .D) (l':=l') h hs (by simp) hs
  have hF: ∀b,g'.own b=l→all gb w' b:=fun b hb=>⟨hok.own b (by rw[hb]; exact(Loc.place_ne hl).1),fun o=>by rw[hm b hb]; exact(Loc.place_ne hl').2.2 o⟩
  cases q with
  | D=>exact hD
  | V=>exact hD
  | F=>
    cases ext with
    | true=>exact Rd.weaken (fun b hb=>⟨hb.1,hZ rfl b hb⟩) h
    | false=>exact Rd.weaken hA h
  | A n=>
    cases ext with
    | true=>exact Ow.mono h id (fun _ b hb=>⟨⟨hb.1,hZ rfl b hb⟩,rfl⟩) (fun b hb=>⟨hm b hb,rfl⟩)
    | false=>exact Ow.rd h hF hA
  | U n=>exact Ow.mono h id (fun e=>by cases e) (fun b hb=>⟨hm b hb,rfl⟩)
  | S=>exact h
  | N=>exact h

theorem CpR.back{g' gb:G}{w':World}{ext:Bool}{q:K}{b off:Nat}{xs:List T}(h:CpR g' w' q b off xs)(hA: ∀b,frz g' w' b→all gb w' b)(hZ:ext=true→ ∀b,frz g' w' b→gb.own b= .none):CpR gb w' (q.back ext) b off xs:=by
  cases q with
  | D=>trivial
  | V=>trivial
  | F=>
    cases ext with
    | true=>exact⟨⟨h.1.1,hZ rfl _ h.1⟩,fun j x hx=>by obtain⟨c,h1,h2⟩:=h.2 j x hx; exact⟨c,h1,h2.weaken fun b hb=>⟨hb.1,hZ rfl b hb⟩⟩⟩
    | false=>exact⟨hA _ h.1,fun j x hx=>by obtain⟨c,h1,h2⟩:=h.2 j x hx; exact⟨c,h1,h2.weaken hA⟩⟩
  | A n=>exact h.elim
  | U n=>exact h.elim
  | S=>exact h.elim
  | N=>exact h.elim

theorem bM.leave{g0:G}{w0:World}{st:St}{a:Act}{g:G}{w:World}(hs:bM g0 w0 st a g w){sg:Sg}{xs:List Operand}{os:List Nat}{Fp:Nat→Prop}{g':G}{w':World}{y:D}{us:Array Value}{v:Value}{d nd:Option Nat}{iol:Loc}
    (hos:os.Nodup)(hd: ∀i,d=some i→i<st.n)(hnd: ∀o,nd=some o→o<par∧o ∉ os)(hFp: ∀b,Fp b→(g.own b).place=true)(hiol:iol≠ .none∧ ∀o,iol≠ .obj o)
    (hc:bM (g.into sg xs os Fp) w (sg.bo.S 2 y) ⟨us,[]⟩ g' w')(hv:us.getD 0 undef=v)(hb0:sg.bo.has 0=true)
    (hhold: ∀m x,(st.fl m).hold=true→st.at m=some x→fH (gZ sg xs os m)=true∧ ∀b,g.own b=m→ ¬ Fp b)(hV:(∀m,st.fl m≠ .V)∨(∀l,(sg.bi.kd l).hold=false)∧ ∀b, ¬ Fp b):
    bM g0 w0 (st.call d nd os sg.ext sg.bo y) (a.put d v) (g.back (g.into sg xs os Fp) g' w d nd os iol) w':=by
  have hfor: ∀b,b<w.heap.size→fH ((g.into sg xs os Fp).own b)=true→g'.own b=(g.into sg xs os Fp).own b∧(g.back (g.into sg xs os Fp) g' w d nd os iol).own b=g.own b∧w'.heap[b]? =w.heap[b]? :=fun b hb hf=>by
    obtain⟨h1,h2⟩:=hc.framed.evo.keep b hb (fun hx=>hx (Gu.1 hf))
    refine⟨h1, ?_,h2⟩
    simp only[G.back]; rw[h1,z19 hf,z19 ⟨hb,hf⟩]
  have hinto: ∀b,nT (g.own b)→fH ((g.into sg xs os Fp).own b)=true∧(g.own b= .none→(g.into sg xs os Fp).own b= .none):=fun b hb=>by
    have hn: ¬ Fp b:=fun hf=>by
      have:=hFp b hf; rcases hb with h | h<;>(rw[h]at this; cases this)
    rw[hJ hn]; rcases hb with h | h
    · rw[h]; exact⟨rfl,fun _=>rfl⟩
    · rw[h]
      refine⟨?_,fun e=>by cases e⟩
      simp only[gZ,qJ]; split<;>rfl
  have hF:oO g w (g.back (g.into sg xs os Fp) g' w d nd os iol) w':=by
    refine⟨hc.framed.os,hc.framed.tape,hc.framed.output,hc.framed.evo.size,fun b hb hX=> ?_⟩
    have hf:nT (g.own b):=z146.1 hX; obtain⟨_,h2,h3⟩:=hfor b hb (hinto b hf).1; exact⟨h2,h3⟩
  have hobjn: ∀o,mV os o=none→ ∀b,g.own b= .obj o→fH ((g.into sg xs os Fp).own b)=true:=fun o ho b hb=>by
    have hn: ¬ Fp b:=fun hf=>by have:=hFp b hf; rw[hb]at this; cases this
    rw[hJ hn,hb]; simp only[gZ,ho]; rfl
  have hback: ∀b,fH (g'.own b)=false→(g.back (g.into sg xs os Fp) g' w d nd os iol).own b=Iu d (rX os nd) iol (g'.own b):=fun b hb=>by
    simp only[G.back]; rw[z13 (by rw[hb]; simp)]
  have hplace: ∀b l,g'.own b=l→l.place=true→(g.back (g.into sg xs os Fp) g' w d nd os iol).own b=Iu d (rX os nd) iol l:=fun b l hb hl=>by
    rw[←hb]; exact hback b (by rw[hb]; cases l<;>simp_all [fH,Loc.place])
  have hfz: ∀b,frz g' w' b→all (g.back (g.into sg xs os Fp) g' w d nd os iol) w' b∧(sg.ext=true→(g.back (g.into sg xs os Fp) g' w d nd os iol).own b= .none):=fun b hb=>by
    have hf:fH (g'.own b)=true:=by rw[hb.2]; rfl
    have e:(g.back (g.into sg xs os Fp) g' w d nd os iol).own b=if b<w.heap.size∧fH ((g.into sg xs os Fp).own b)=true then g.own b else .none:=by
      simp only[G.back]; rw[z19 hf,hb.2]
    by_cases ho:b<w.heap.size∧fH ((g.into sg xs os Fp).own b)=true
    · rw[z19 ho]at e
      obtain⟨h1,_,_⟩:=hfor b ho.1 ho.2; rw[hb.2]at h1; have hn: ¬ Fp b:=fun hf=>by
        simp only[G.into]at h1; rw[z19 hf]at h1; cases h1
      rw[hJ hn]at h1; have hno: ∀o,g.own b≠ .obj o:=fun o eo=>by
        rw[eo]at h1; simp only[gZ]at h1; split at h1<;>cases h1
      refine⟨⟨hb.1,fun o=>by rw[e]; exact hno o⟩,fun he=> ?_⟩
      rw[e]; cases hg:g.own b with
      | none=>rfl
      | ext=>rw[hg]at h1; simp [gZ,qJ,he]at h1
      | obj o=>exact absurd hg (hno o)
      | s t k j=>
        rw[hg]at h1; simp only[gZ,qJ,he]at h1
        (repeat' split at h1)<;>simp_all
      | oc o j=>
        rw[hg]at h1; simp only[gZ,qJ,he]at h1
        (repeat' split at h1)<;>simp_all
    · rw[z13 ho]at e
      exact⟨⟨hb.1,fun o=>by rw[e]; simp⟩,fun _=>e⟩
  have hβ1: ∀o,nd≠some o→(g.back (g.into sg xs os Fp) g' w d nd os iol).β o=g.β o:=fun o h=>by simp only[G.back,z13 h]
  have hβ2: ∀oc o,rX os nd oc=some o→(g.back (g.into sg xs os Fp) g' w d nd os iol).β o=g'.β oc:=by
    intro oc o h; simp only[rX]at h; split at h
    · rename_i hp
      have hm:o∈os:=z24 h; have h2:=hc.bp oc hp; have h3:(g.into sg xs os Fp).β oc=g.β o:=by simp [G.into,LI,hp,h]
      rw[hβ1 o (fun e=>(hnd o e).2 hm),h2,h3]
    · split at h
      · rename_i h0
        subst h0; simp only[G.back,z19 h]
      · cases h
  have hkeep: ∀m,m.place=true→(∀b,g.own b=m→fH ((g.into sg xs os Fp).own b)=true)→ ∀b,g.own b=m→(g.back (g.into sg xs os Fp) g' w d nd os iol).own b=m∧w'.heap[b]? =w.heap[b]? :=fun m hm h b hb=>by
    have hlt:b<w.heap.size:=hs.ok.own b (by rw[hb]; exact(Loc.place_ne hm).1)
    obtain⟨_,h2,h3⟩:=hfor b hlt (h b hb); exact⟨h2.trans hb,h3⟩
  have hZ: ∀b,frz g w b→frz (g.back (g.into sg xs os Fp) g' w d nd os iol) w' b∧w'.heap[b]? =w.heap[b]? :=fun b hb=>by
    obtain⟨_,h2,h3⟩:=hfor b hb.1 (hinto b (.inl hb.2)).1; exact⟨⟨z60 hb.1 hc.framed.evo.size,h2.trans hb.2⟩,h3⟩
  have hVk:(∃m,st.fl m= .V)→ ∀b,all g w b→all (g.back (g.into sg xs os Fp) g' w d nd os iol) w' b∧w'.heap[b]? =w.heap[b]? :=fun⟨m,hm⟩ b hb=>by
    rcases hV with h | ⟨h1,h2⟩
    · exact absurd hm (h m)
    · have hf:fH ((g.into sg xs os Fp).own b)=true:=by
        rw[hJ (h2 b)]; cases hg:g.own b with
        | obj o=>exact absurd hg (hb.2 o)
        | none=>rfl
        | ext=>simp only[gZ,qJ]; split<;>rfl
        | s t k j=>
          simp only[gZ]; have hr:fH (qJ sg.ext)=true:=by unfold qJ; split<;>rfl
          split
          · rw[z13 (by rw[h1]; simp)]; exact hr
          · exact hr
        | oc o j=>
          simp only[gZ]; have hr:fH (qJ sg.ext)=true:=by unfold qJ; split<;>rfl
          split
          · rw[z13 (by rw[h1]; simp)]; exact hr
          · exact hr
      obtain⟨_,q2,q3⟩:=hfor b hb.1 hf; exact⟨⟨z60 hb.1 hc.framed.evo.size,fun o=>by rw[q2]; exact hb.2 o⟩,q3⟩
  have hlf: ∀m x u,st.at m=some x→LF g w (st.fl m) m u x→LF (g.back (g.into sg xs os Fp) g' w d nd os iol) w' (st.fl m) m u x:=fun m x u hm hf=>by
    have hmp:=at_isPlace hm; have hown:(st.fl m).hold=true→ ∀b,g.own b=m→(g.back (g.into sg xs os Fp) g' w d nd os iol).own b=m∧w'.heap[b]? =w.heap[b]? :=fun hk=>by
      obtain⟨q1,q2⟩:=hhold m x hk hm; exact hkeep m hmp (fun b hb=>by rw[hJ (q2 b hb),hb]; exact q1)
    cases hκ:st.fl m with
    | D=>rw[hκ]at hf; exact fun hsc=>(hf hsc).scal hsc
    | V=>rw[hκ]at hf; exact Rd.mono (hVk ⟨m,hκ⟩) hf
    | F=>rw[hκ]at hf; exact Rd.mono hZ hf
    | A n=>rw[hκ]at hf; exact Ow.mono hf id (fun _=>hZ) (hown (by rw[hκ]; rfl))
    | U n=>rw[hκ]at hf; exact Ow.mono hf id (fun _=>hZ) (hown (by rw[hκ]; rfl))
    | S=>rw[hκ]at hf; exact⟨hf.1,hf.2.scal hf.1⟩
    | N=>rw[hκ]at hf; exact hf
  have hcpr: ∀i k zs b off,(st.sl i).comp k=some (.cp zs)→CpR g w (st.fl (.s i k 0)) b off zs→CpR (g.back (g.into sg xs os Fp) g' w d nd os iol) w' (st.fl (.s i k 0)) b off zs:=fun i k zs b off _ hr=>by
    have key: ∀ {Q Q':Nat→Prop},(∀b,Q b→Q' b∧w'.heap[b]? =w.heap[b]?)→(Q b∧ ∀(j:Nat) x,zs[j]? =some x→ ∃c,w.cell? ⟨b,off+j,none⟩=some c∧Rd Q w c x)→(Q' b∧ ∀(j:Nat) x,zs[j]? =some x→ ∃c,w'.cell? ⟨b,off+j,none⟩=some c∧Rd Q' w' c x):=by
      rintro Q Q' hq ⟨h1,h2⟩
      refine⟨(hq b h1).1,fun j x hx=> ?_⟩
      obtain⟨c,hc,hr⟩:=h2 j x hx; exact⟨c,(bV (hq b h1).2).trans hc,hr.mono hq⟩
    cases hκ:st.fl (.s i k 0)with
    | D=>trivial
    | V=>rw[hκ]at hr; exact key (hVk ⟨_,hκ⟩) hr
    | F=>rw[hκ]at hr; exact key hZ hr
    | _=>rw[hκ]at hr; exact hr.elim
  have hput: ∀i,d=some i→(a.put d v).tmps.getD i undef=v:=by
    intro i e; subst e; have hlt:i<a.tmps.size:=by rw[hs.size]; exact hd i rfl
    rw[Act.put_getD a i v i hlt,z19 rfl]
  have hβk: ∀o,nd≠some o→(g.back (g.into sg xs os Fp) g' w d nd os iol).β o=g.β o:=hβ1; have hobj: ∀o,oV os nd o=none→ ∀cells,st.ob o=some cells→(g.back (g.into sg xs os Fp) g' w d nd os iol).own (g.β o)= .obj o∧w'.heap[g.β o]? =w.heap[g.β o]? :=fun o hi cells hcl=>by
    obtain⟨hi1,_⟩:=Bv hi; obtain⟨arr,ty,_,_,k3,_⟩:=hs.obs o cells hcl; have hlt:g.β o<w.heap.size:=hs.ok.own _ (by rw[k3]; simp)
    obtain⟨_,q2,q3⟩:=hfor _ hlt (hobjn o hi1 _ k3); exact⟨q2.trans k3,q3⟩
  refine⟨hs.framed.trans hF,⟨fun b hb=> ?_⟩, ?_, ?_,fun i=> ?_,fun o cells hcl=> ?_,fun i hi hf=> ?_,fun o ho=>(hβ1 o (fun e=>by have:=(hnd o e).1; omega)).trans (hs.bp o ho),hs.nle⟩
  · by_cases hlt:b<w.heap.size
    · exact z60 hlt hc.framed.evo.size
    · refine hc.ok.own b (fun e=>hb ?_)
      simp only[G.back]; rw[e,z19 (show fH Loc.none=true from rfl),z13 (fun h=>hlt h.1)]
  · cases d with
    | none=>exact hs.size
    | some d=>simp only[Act.put,z117]; exact hs.size
  · cases d<;>exact hs.defers
  · -- a slot
    show RV _ w' (fun k j=>if d=some i then(sg.bo.kd (.s 0 k j)).back sg.ext else if k=0∧j=0∧rV d nd os (aH (st.sl i))=true then .D else st.fl (.s i k j)) _ ((a.put d v).tmps.getD i undef) (if d=some i then(y.sl 0).to (rX os nd)else xW nd (st.sl i))
    by_cases e:d=some i
    · simp only[z19 e]
      rw[hput i e]; have hr:=hc.slots 0; have hr:RV g' w' (fun k j=>sg.bo.kd (.s 0 k j)) (fun k j=> .s 0 k j) (us.getD 0 undef) (y.sl 0):=by
        have h2:(sg.bo.S 2 y).sl 0=y.sl 0:=oK hb0; rw[h2]at hr; exact hr
      rw[hv]at hr; refine hr.to hβ2 (fun k j t u _ _ _ hf=> ?_) (fun k zs _ b off hq=>hq.back (fun b hb=>(hfz b hb).1) (fun he b hb=>(hfz b hb).2 he))
      refine hf.back hc.ok rfl rfl (fun b hb=> ?_) (fun b hb=>(hfz b hb).1) (fun he b hb=>(hfz b hb).2 he)
      rw[hplace b _ hb rfl]; simp only[Iu,if_true,e]
    · simp only[z13 e]
      rw[nD a d v i e]; have hs1:=hs.slots i; have hfl: ∀k j t,(st.sl i).leaf k j=some t→(if k=0∧j=0∧rV d nd os (aH (st.sl i))=true then K.D else st.fl (.s i k j))=st.fl (.s i k j):=fun k j t ht=>by
        rw[z13]; rintro ⟨rfl,rfl,h3⟩
        rw[sG (st:=st) (i:=i) (x:=t) ht]at h3; cases h3
      have hflc: ∀k zs,(st.sl i).comp k=some (.cp zs)→(if k=0∧0=0∧rV d nd os (aH (st.sl i))=true then K.D else st.fl (.s i k 0))=st.fl (.s i k 0):=fun k zs hz=>by
        rw[z13]; rintro ⟨rfl,_,h3⟩
        cases hsl:st.sl i with
        | one w=>rw[hsl]at hz h3; simp only[V.comp,z10]at hz; subst hz; cases h3
        | tup ws=>rw[hsl]at h3; cases h3
      have plain:(∀o o',o=o'→nd≠some o→(g.back (g.into sg xs os Fp) g' w d nd os iol).β o'=g.β o):=fun o o' e h=>by subst e; exact hβ1 o h
      rcases Option.eq_none_or_eq_some nd with hn | ⟨z,hn⟩
      · have ek:xW nd (st.sl i)=st.sl i:=by rw[hn]; rfl
        rw[ek]; exact hs1.map (fun o=>hβ1 o (by rw[hn]; simp)) (fun k j t u ht _ _ hf=>by rw[hfl k j t ht]; exact hlf (.s i k j) t u ht hf) (fun k zs hz b off hq=>by rw[hflc k zs hz]; exact hcpr i k zs b off hz hq)
      · have ek:xW nd (st.sl i)=(st.sl i).kill z:=by rw[hn]; rfl
        rw[ek]; exact RV.kill (fun o ho=>hβ1 o (by rw[hn]; simpa using Ne.symm ho)) (fun k j t u ht _ _ hf=>by rw[hfl k j t ht]; exact hlf (.s i k j) t u ht hf) (fun k zs hz b off hq=>by rw[hflc k zs hz]; exact hcpr i k zs b off hz hq) hs1
  · -- an object
    have hcl':(match oV os nd o with | some oc=>(if sg.bo.hasO oc then y.ob oc else none) | none=>st.ob o)=some cells:=hcl
    cases hi:oV os nd o with
    | some oc=>
      rw[hi]at hcl'; have ho:=Oe hi; obtain⟨arr,ty,k1,k2,k3,k4⟩:=hc.obs oc cells hcl'; rw[hβ2 oc o ho]; refine⟨arr,ty,k1,k2, ?_,fun j x hx=> ?_⟩
      · rw[hback _ (by rw[k3]; rfl),k3]; simp only[Iu,ho]
      · obtain⟨c,c1,c2,c3⟩:=k4 j x hx
        refine⟨c,c1,c2, ?_⟩
        have e1:(st.call d nd os sg.ext sg.bo y).fl (.oc o j)=(sg.bo.kd (.oc oc j)).back sg.ext:=by simp only[St.call,hi]
        rw[e1]; refine LF.back (l:= .oc oc j) hc.ok rfl rfl c3 (fun b hb=> ?_) (fun b hb=>(hfz b hb).1) (fun he b hb=>(hfz b hb).2 he)
        rw[hplace b _ hb rfl]; simp only[Iu,ho]
    | none=>
      rw[hi]at hcl'; have hcl':st.ob o=some cells:=hcl'; obtain⟨hi1,hi2⟩:=Bv hi; obtain⟨arr,ty,k1,k2,k3,k4⟩:=hs.obs o cells hcl'; obtain⟨m1,m2⟩:=hobj o hi cells hcl'; rw[hβ1 o hi2]; refine⟨arr,ty,m2.trans k1,k2,m1,fun j x hx=> ?_⟩
      obtain⟨c,c1,c2,c3⟩:=k4 j x hx; refine⟨c,c1,c2, ?_⟩
      have e1:(st.call d nd os sg.ext sg.bo y).fl (.oc o j)=st.fl (.oc o j):=by simp only[St.call,hi]
      rw[e1]; exact hlf (.oc o j) x c (by rw[St.at_oc,hcl']; exact hx) c3
  · -- a place's part
    have hsl:(st.call d nd os sg.ext sg.bo y).sl i=if d=some i then(y.sl 0).to (rX os nd)else xW nd (st.sl i):=rfl
    rw[hsl]at hi ⊢; by_cases e:d=some i
    · rw[z19 e]at hi; exact absurd V.to_root hi
    · rw[z13 e]at hi ⊢
      rw[KZ]at hi ⊢; have hfe:(st.call d nd os sg.ext sg.bo y).fl (.s i 0 0)=if rV d nd os (aH (st.sl i))=true then .D else st.fl (.s i 0 0):=by simp only[St.call,z13 e,NH]
      rw[hfe]at hf; have hri:rV d nd os (aH (st.sl i))=false:=by
        cases h:rV d nd os (aH (st.sl i))with
        | false=>rfl
        | true=>rw[h]at hf; exact absurd rfl hf
      rw[hri]at hf; simp only[z52,if_false]at hf; obtain⟨p1,p2⟩:=hs.pls i hi hf; obtain⟨t,ht⟩:=p2.root hi; rw[nD a d v i e]; have hkill:Dy (st.call d nd os sg.ext sg.bo y) (a.put d v).tmps (g.back (g.into sg xs os Fp) g' w d nd os iol).β w' (a.tmps.getD i undef) (st.sl i)∧((st.call d nd os sg.ext sg.bo y).fl (aH (st.sl i))).hold=true:=by
        have hheap:=hlf; have hpl: ∀v0 x0 p v' x',vAt a.tmps g.β w (aH (st.sl i))=some v0→st.at (aH (st.sl i))=some x0→Pl w v0 x0 p v' x'→Pl w' v0 x0 p v' x':=fun v0 x0 p v' x' e1 e2 hp=>by
          obtain⟨u,q1,_,q2⟩:=hs.get ht; rw[e1]at q1; cases q1; rw[ht]at e2; cases e2; obtain⟨r1,r2⟩:=hhold _ t p1 ht; have hown:=hkeep _ (at_isPlace ht) (fun b hb=>by rw[hJ (r2 b hb),hb]; exact r1)
          generalize st.fl (aH (st.sl i))=κ at p1 q2; cases κ with
          | A n=>exact Ow.pl q2 (fun b hb=>(hZ b hb).2) (fun b hb=>(hown b hb).2) hp
          | U n=>exact Ow.pl q2 (fun b hb=>(hZ b hb).2) (fun b hb=>(hown b hb).2) hp
          | _=>simp [K.hold]at p1
        generalize hr:aH (st.sl i)=m at*; cases m with
        | s i' k j=>
          have hne:d≠some i':=by simpa [rV]using hri
          have hflr:(st.call d nd os sg.ext sg.bo y).fl (.s i' k j)=st.fl (.s i' k j):=by
            simp only[St.call,z13 hne]; rw[z13]; rintro ⟨rfl,rfl,h3⟩
            rw[sG ht]at h3; cases h3
          refine⟨p2.congr ?_ ?_ (by rw[hr]; exact hpl),by rw[hflr]; exact p1⟩
          · rw[hr]; simp only[vAt]; rw[nD a d v i' hne]
          · rw[hr]
            show((st.call d nd os sg.ext sg.bo y).sl i').leaf k j=(st.sl i').leaf k j; simp only[St.call,z13 hne,Ka]
        | oc o j=>
          have hin:oV os nd o=none:=by simpa [rV]using hri
          obtain⟨_,hn2⟩:=Bv hin; have hflr:(st.call d nd os sg.ext sg.bo y).fl (.oc o j)=st.fl (.oc o j):=by simp only[St.call,hin]
          obtain⟨cells,hcl,_⟩: ∃cells,st.ob o=some cells∧True:=by
            rw[St.at_oc,z18]at ht; obtain⟨cells,hcl,_⟩:=ht; exact⟨cells,hcl,trivial⟩
          refine⟨p2.congr ?_ ?_ (by rw[hr]; exact hpl),by rw[hflr]; exact p1⟩
          · rw[hr]; simp only[vAt]; rw[hβ1 o hn2]; exact bV (hobj o hin cells hcl).2
          · rw[hr,St.at_oc,St.at_oc]; simp only[St.call,hin]
        | _=>simp [St.at,atL]at ht
      refine⟨hkill.2, ?_⟩
      cases nd with
      | none=>exact hkill.1
      | some z=>exact hkill.1.kill
end Go.Own

namespace Go.Own
open Go.RowKit

def OpW(P:Program)(g0:G)(w0:World)(o:Oper)(st st':St):Prop:= ∀(Q:Exit→Act→World→Prop) (K:Act→World→Prop) a w,Sim g0 w0 st a w→(∀v w',Sim g0 w0 st' (a.put o.dst v) w'→K (a.put o.dst v) w')→o.wp P a w K Q

theorem nL.w{P:Program}{g0:G}{w0:World}{o:Oper}{st st':St}(h:nL P g0 w0 o st st'):OpW P g0 w0 o st st':=by
 intro Q K a w hs hK; obtain⟨r,w',hr,h⟩:=h a w hs; unfold Oper.wp; rw[hr]; rcases h with⟨v,rfl,h⟩ | ⟨rfl,h⟩
 ·exact hK _ _ h
 ·exact hK _ _ h

theorem OpW.relax{P:Program}{g0:G}{w0:World}{o:Oper}{st s t:St}(h:OpW P g0 w0 o st s)(hle: ∀a w,Sim g0 w0 s a w→Sim g0 w0 t a w):OpW P g0 w0 o st t:=fun Q K a w hs hK=>h Q K a w hs (fun v w' hs'=>hK v w' (hle _ _ hs'))

def St.drop(st:St)(q:Loc→Bool):St:=st.setf q (fun m=>if q m then .D else st.fl m)

theorem bM.drop{g0:G}{w0:World}{st:St}{a:Act}{g:G}{w:World}(h:bM g0 w0 st a g w)(q:Loc→Bool)(hq:q .none=false):bM g0 w0 (st.drop q) a g w:=by
 refine h.setf hq (fun _=>rfl) h.ok (fun _ _=>rfl) (fun _ _ h=>h) (fun _ h=>h) (fun m x v hx hv hf=> ?_) (fun i k xs b off hcx hc=> ?_) (fun i hi hR hf=> ?_)
 ·by_cases e:q m=true
  ·rw[z19 e]; exact hf.lo (κ':= .D) h.ok (at_isPlace hx) (GQ _)
  ·rw[z13 e]; exact hf
 ·by_cases e:q (.s i k 0)=true
  ·rw[z19 e]; trivial
  ·rw[z13 e]; exact hc
 ·refine⟨fun e=>hf (by split; rfl; exact e),fun hh=> ?_⟩
  rw[z13 (by rw[hR]; simp)]; exact hh

theorem BX{st:St}{q:Loc→Bool}(hq:q .none=false){m:Loc}{x:T}(hx:st.at m=some x):(st.drop q).fl m=if q m=true then .D else st.fl m:=uN (f:=fun m=>if q m=true then K.D else st.fl m) hq hx

def AG(sg:Sg):Bool:=sg.bi.sl.all (fun p=>p.2.all fun r=>r.all fun q=> !q.hold)&&sg.bi.ob.all (fun p=>p.2.all fun q=> !q.hold)

theorem fX{α:Type}{i:Nat}{x:α}: ∀ {l:List (Nat×α)},cQ i l=some x→(i,x)∈l
 | [],h=>by cases h
 | (j,a)::r,h=>by
  simp only[cQ]at h; cases e:Nat.beq i j with
  | true=>rw[e]at h; simp only[z17,z10]at h; have:=z16 e; subst this; subst h; exact z29
  | false=>rw[e]at h; exact z25 _ (fX h)

theorem Ez{sg:Sg}(h:AG sg=true)(l:Loc):(sg.bi.kd l).hold=false:=by
 simp only[AG,z7]at h; cases l with
 | s i k j=>
  simp only[B.kd,B.get]; cases hl:cQ i sg.bi.sl with
  | none=>rfl
  | some κ=>
   simp only[AU]; cases hr:κ[k]? with
   | none=>rfl
   | some r=>
    cases hq:r[j]? with
    | none=>simp [hq,K.hold]
    | some q=>
     have:=z15.1 (z15.1 (z15.1 h.1 _ (fX hl)) r (bI hr)) q (bI hq); simp only[hq]; simpa using this
 | oc o j=>
  simp only[B.kd,B.get]; cases hl:cQ o sg.bi.ob with
  | none=>rfl
  | some r=>
   cases hq:r[j]? with
   | none=>simp [hq,K.hold]
   | some q=>
    have:=z15.1 (z15.1 h.2 _ (fX hl)) q (bI hq); simp only[hq]; simpa using this
 | _=>rfl

def St.pre(st:St)(sg:Sg)(xs:List Operand)(os:List Nat):St:=(if AG sg=true then st else st.killV).drop (fun m=> !(fH (gZ sg xs os m))&& !(fH m))

theorem RF{P:Program}{g0:G}{w0:World}{st:St}{o:Oper}{c:Call}{x:Operand}{f:FuncId}{caps:List (Nat×Nat)}{sg:Sg}{vs:List V}{ob ob':List (List T)}{r:V}{nw:Option (List T)}{os:List Nat}{nd:Option Nat}
  (ho:o.op= .call c)(hcal:c.callee= .value x)(hx:ev st.sl x= .one (.fn f caps))(hC:TC P f sg vs ob r none ob' nw)(hsg:sg.io=none)(hd: ∀i,o.dst=some i→i<st.n)(hnd: ∀o,nd=some o→o<par∧o ∉ os)
  (hos:os.Nodup)(hnp:sg.np=vs.length)(hle:sg.np≤par)(hb0:sg.bo.has 0=true)(hno:sg.ext=false→AG sg=true)
  (hvs:vs=c.args.toList.map (fun v=>(evR st v).to (mV os))++caps.map (fun c=>(V.one (.ptr c.1 c.2)).to (mV os)))(hob:ob.map some=os.map st.ob)
  (harg: ∀(i:Nat) v,c.args.toList[i]? =some v→JE st sg c.args.toList i v)(hobk: ∀o oc j,mV os o=some oc→(st.fl (.oc o j)).hand sg.ext (sg.bi.kd (.oc oc j))=true):
  OpW P g0 w0 o st ((st.pre sg c.args.toList os).call o.dst nd os sg.ext sg.bo (DR r none ob' nw)):=by
 intro Q K a w ⟨g,hs⟩ hK
 have he:=hs.enter (sg:=sg) (xs:=c.args.toList) (caps:=caps) (os:=os) (Fp:=fun _=>False) hos hnp hle (fun _ h=>h.elim) (fun he=>⟨Ez (hno he),fun _ h=>h⟩) (fun _ _ _ _ _ _ _ _ h=>h) (fun _ _ _ _ _ _ _ h=>h) hvs hob
  (fun i v hv _=>harg i v hv) hobk (fun i v _ h=>by rw[hsg]at h; cases h)
 have hC:=hC _ _ _ he; have hfv:a.eval x= .func (.func f) #[] (caps.map fun c=>Value.pointer (some ⟨g.β c.1,c.2,none⟩)).toArray:=by
  have:=hs.ev_rv x (fun _ _=> .none)
  rw[hx]at this; exact this
 have hrun:(execOp a.eval o).run P w=(callFunc f (c.args.toList.map a.eval++caps.map fun c=>Value.pointer (some ⟨g.β c.1,c.2,none⟩)).toArray).run P w:=by
  obtain⟨dst,op,ty,pos,after,guard⟩:=o; simp only at ho; subst ho; simp only[execOp,resolve,hcal,hfv,Deferred.ofValue,Sem.run_bind,Sem.run_pure,Result.andThen_ok,invoke]; congr 2
  apply LC
  simp
 have hq0:(fun m=> !(fH (gZ sg c.args.toList os m))&& !(fH m)) Loc.none=false:=by simp [fH]
 have hs2:bM g0 w0 (st.pre sg c.args.toList os) a g w:=by
  unfold St.pre; by_cases hp:AG sg=true
  ·rw[z19 hp]; exact hs.drop _ hq0
  ·rw[z13 hp]; exact hs.killV.drop _ hq0
 have key: ∀v w',(∃g',bM (g.into sg c.args.toList os (fun _=>False)) w (sg.bo.S 2 (DR r none ob' nw)) ⟨#[v,(c.args.toList.map a.eval++caps.map fun c=>Value.pointer (some ⟨g.β c.1,c.2,none⟩)).toArray.getD (sg.io.getD 0) undef],[]⟩ g' w')→
   Sim g0 w0 ((st.pre sg c.args.toList os).call o.dst nd os sg.ext sg.bo (DR r none ob' nw)) (a.put o.dst v) w':=by
  rintro v w' ⟨g',h1⟩
  refine⟨_,hs2.leave (iol:= .ext) hos (by unfold St.pre; split<;>exact hd) hnd (fun _ h=>h.elim) ⟨by simp,by simp⟩ h1 rfl hb0 (fun m z hh hm=>⟨?_,fun _ _ h=>h⟩) ?_⟩
  ·cases hq:fH (gZ sg c.args.toList os m)with
   | true=>rfl
   | false=>
    exfalso
    have hmp:fH m=false:=by
     have:=at_isPlace hm; cases m<;>first | rfl | cases this
    have hm1:(if AG sg=true then st else st.killV).at m=some z:=by unfold St.pre at hm; exact hm
    unfold St.pre at hh; rw[BX hq0 hm1,hq,hmp]at hh; simp [Own.K.hold]at hh
  ·by_cases hp:AG sg=true
   ·exact .inr ⟨Ez hp,fun _ h=>h⟩
   ·left
    intro m; unfold St.pre; rw[z13 hp]; refine pF (fun m=> ?_) m
    split
    ·simp
    ·exact qL st m
 unfold Oper.wp; rw[hrun]; revert hC
 generalize (callFunc f _).run P w=r; intro hC; unfold pY at hC; split at hC
 ·exact hK _ _ (key _ _ hC)
 ·rw[Oper.upon_enter]
  refine Calls.mono hC ?_
  rintro e w' ⟨v,rfl,h⟩
  exact hK _ _ (key _ _ h)
 ·exact hC.elim
end Go.Own

namespace Go.Own
open Go.RowKit

def D.call(x:D)(d nd:Option Nat)(os:List Nat)(y:D):D:=
  { sl:=fun i=>if d=some i then(y.sl 0).to (rX os nd)else x.sl i
    ob:=fun o=>match oV os nd o with | some oc=>y.ob oc | none=>x.ob o }

def uK(os:List Nat)(nd:Option Nat):List Nat:=os++(match nd with | some o=> [o] | none=> [])
def Ie{α:Type}(f:Nat→Option α):List Nat→List (Nat×α)
  | []=> []
  | o::r=>match f o with | some a=>(o,a)::Ie f r | none=>Ie f r

theorem Gm{α:Type}(f:Nat→Option α)(o:Nat): ∀l:List Nat,cQ o (Ie f l)=if o∈l then f o else none
  | []=>by simp [Ie,cQ]
  | z::r=>by
    have ih:=Gm f o r; simp only[Ie,z98]; cases hf:f z with
    | none=>
      simp only; rw[ih]; by_cases e:o=z
      · subst e; simp [hf]
      · simp [e]
    | some a=>
      simp only[cQ]; by_cases e:o=z
      · subst e; simp [hf,z42]
      · rw[cU e]; simp only[z12,ih,e,false_or]

theorem vW{α:Type}(o:Nat): ∀(l r:List (Nat×α)),cQ o (l++r)=match cQ o l with | some a=>some a | none=>cQ o r
  | [],r=>rfl
  | (j,a)::l,r=>by
    simp only[z86,cQ]; cases Nat.beq o j with
    | true=>rfl
    | false=>exact vW o l r

theorem qP{os:List Nat}{nd:Option Nat}{o:Nat}:(oV os nd o).isSome=true↔o∈uK os nd:=by
  simp only[oV,uK,z78]; by_cases h:o∈os
  · simp [h]
  · rw[z13 h]
    cases nd with
    | none=>simp [h]
    | some z=>
      by_cases e:z=o
      · subst e; simp
      · simp [h,e,Ne.symm e]

def BQ(sg:Sg)(os:List Nat)(nd:Option Nat)(o:Nat):Option (List K):=match oV os nd o with
  | some oc=>(cQ oc sg.bo.ob).map fun r=>r.map (K.back sg.ext)
  | none=>none

def Kw(F:FA)(d nd:Option Nat)(os:List Nat)(i:Nat):Bool:= !(decide (d=some i))&& !(rV d nd os (aH (F.shOf i)))&& !(match nd with | some z=>Pj z (F.shOf i) | none=>false)

def B.call(F:FA)(b:B)(d nd:Option Nat)(os:List Nat)(sg:Sg):B:=
  { sl:=(match d with | some d=> [(d,nS (F.shOf d) (fun k j=>(sg.bo.kd (.s 0 k j)).back sg.ext))] | none=> [])++b.sl.filter (fun q=>Kw F d nd os q.1)
    ob:=Ie (BQ sg os nd) (uK os nd)++b.ob.filter (fun q=>(oV os nd q.1).isNone) }

theorem Bz{F:FA}{b:B}{d nd:Option Nat}{os:List Nat}{sg:Sg}(i:Nat):cQ i (b.call F d nd os sg).sl=if d=some i then some (nS (F.shOf i) (fun k j=>(sg.bo.kd (.s 0 k j)).back sg.ext))else if Kw F d nd os i=true then cQ i b.sl else none:=by
  simp only[B.call]; rw[vW,dQ (Kw F d nd os) i b.sl]; cases d with
  | none=>simp [cQ]
  | some z=>
    simp only[cQ]; by_cases e:i=z
    · subst e; simp [z42]
    · rw[cU e]; simp [Ne.symm e]

theorem zM{F:FA}{b:B}{d nd:Option Nat}{os:List Nat}{sg:Sg}(o:Nat):cQ o (b.call F d nd os sg).ob=match oV os nd o with | some _=>BQ sg os nd o | none=>cQ o b.ob:=by
  simp only[B.call]; rw[vW,Gm,dQ (fun o=>(oV os nd o).isNone) o b.ob]
  cases h:oV os nd o with
  | none=>
    have:o ∉ uK os nd:=fun hm=>by have:=qP.2 hm; rw[h]at this; cases this
    simp [this]
  | some oc=>
    have:o∈uK os nd:=qP.1 (by rw[h]; rfl)
    rw[z19 this]; cases BQ sg os nd o<;>simp

theorem rE{F:FA}{b:B}{d nd:Option Nat}{os:List Nat}{sg:Sg}{i:Nat}(hi:d≠some i)(h:(b.call F d nd os sg).has i=true):b.has i=true∧Kw F d nd os i=true:=by
  simp only[B.has,Bz,z13 hi]at h; split at h
  · rename_i e; exact⟨h,e⟩
  · cases h

theorem CA{F:FA}{b:B}{d nd:Option Nat}{os:List Nat}{sg:Sg}{o:Nat}:(b.call F d nd os sg).hasO o=match oV os nd o with | some oc=>sg.bo.hasO oc | none=>b.hasO o:=by
  simp only[B.hasO,zM]; cases h:oV os nd o with
  | none=>rfl
  | some oc=>
    simp only[BQ,h]; cases cQ oc sg.bo.ob<;>rfl

def bJ(F:FA)(x:D)(d nd:Option Nat)(os:List Nat):Bool:=(match d with | some d=>fits (x.sl d) (F.shOf d) | none=>true)&&(uK os nd).all fun o=>match x.ob o with | some cs=>eH cs (F.obOf o) | none=>false

section
variable {P:Program} {τ:TypeId→Option TI} {F:FA} {o:Oper} {b b':B} {x x':D}

theorem Ag.call(hA:Ag F b x){d nd:Option Nat}{os:List Nat}{sg:Sg}{y:D}(h:bJ F (x.call d nd os y) d nd os=true):Ag F (b.call F d nd os sg) (x.call d nd os y):=by
  simp only[bJ,z7]at h; refine⟨fun i hi=> ?_,fun o ho=> ?_⟩
  · by_cases e:d=some i
    · subst e
      exact .inr h.1
    · have:=hA.sl i (rE e hi).1
      simpa [D.call,e]using this
  · rw[CA]at ho
    cases hi:oV os nd o with
    | some oc=>
      have hm:o∈uK os nd:=qP.1 (by rw[hi]; rfl)
      have:=z15.1 h.2 o hm; split at this
      · rename_i cs hcs; exact⟨cs,hcs,this⟩
      · cases this
    | none=>
      rw[hi]at ho; obtain⟨cs,h1,h2⟩:=hA.ob o ho; exact⟨cs,by simp only[D.call,hi]; exact h1,h2⟩

theorem Jw{n:Nat}{s:St}(hA:Ag F b x)(h:Low n b x s){d nd:Option Nat}{os:List Nat}{sg:Sg}{y:D}(hf: ∀i,d=some i→fits ((y.sl 0).to (rX os nd)) (F.shOf i)=true):
    Low n (b.call F d nd os sg) (x.call d nd os y) (s.call d nd os sg.ext sg.bo y):=by
  have hroot: ∀i,d≠some i→(b.call F d nd os sg).has i=true→rV d nd os (aH (s.sl i))=false∧xW nd (s.sl i)=s.sl i:=fun i e hi=>by
    obtain⟨h1,h2⟩:=rE e hi; simp only[Kw,z7,z37]at h2; rw[h.sl i h1]; rcases hA.sl i h1 with e2 | e2
    · rw[e2]
      refine⟨rfl, ?_⟩
      cases nd<;>rfl
    · rw[dK e2]
      refine⟨h2.1.2, ?_⟩
      cases nd with
      | none=>rfl
      | some z=>exact Gi (Gv e2 h2.2)
  have hkd: ∀i k j,d≠some i→(b.call F d nd os sg).has i=true→(b.call F d nd os sg).kd (.s i k j)=b.kd (.s i k j):=fun i k j e hi=>by
    simp only[B.kd,B.get,Bz,z13 e,(rE e hi).2,if_true]
  have hkd0: ∀i k j,d=some i→(b.call F d nd os sg).get (.s i k j)=AU (nS (F.shOf i) (fun k j=>(sg.bo.kd (.s 0 k j)).back sg.ext)) k j:=fun i k j e=>by
    simp only[B.get,Bz,z19 e]
  have hfl: ∀i k j,d≠some i→(b.call F d nd os sg).has i=true→(s.call d nd os sg.ext sg.bo y).fl (.s i k j)=s.fl (.s i k j):=fun i k j e hi=>by
    simp only[St.call,z13 e]; rw[z13]; rintro ⟨_,_,h3⟩
    rw[(hroot i e hi).1]at h3; cases h3
  have hfl0: ∀i k j,d=some i→(s.call d nd os sg.ext sg.bo y).fl (.s i k j)=(sg.bo.kd (.s 0 k j)).back sg.ext:=fun i k j e=>by simp only[St.call,z19 e]
  refine⟨h.n,fun i hi=> ?_,fun o ho=> ?_,fun l t hL ht=> ?_,fun i k zs hi hx=> ?_,fun i hi hr hk=> ?_⟩
  · by_cases e:d=some i
    · simp only[St.call,D.call,z19 e]
    · simp only[St.call,D.call,z13 e]
      rw[(hroot i e hi).2]; exact h.sl i (rE e hi).1
  · rw[CA]at ho
    cases hi:oV os nd o with
    | some oc=>
      rw[hi]at ho; have ho:sg.bo.hasO oc=true:=ho; simp only[St.call,D.call,hi]; rw[z19 ho]
    | none=>
      rw[hi]at ho; simp only[St.call,D.call,hi]; exact h.ob o ho
  · cases l with
    | s i k j=>
      by_cases e:d=some i
      · have ht':((y.sl 0).to (rX os nd)).leaf k j=some t:=by simpa [D.at,atL,D.call,e]using ht
        rw[hfl0 i k j e]; simp only[B.kd,hkd0 i k j e]; rw[AQ (hf i e) _ ht']; exact cV _
      · rw[hfl i k j e hL,hkd i k j e hL]
        exact h.fl (.s i k j) t (rE e hL).1 (by simpa [D.at,atL,D.call,e]using ht)
    | oc o j=>
      have hL':(b.call F d nd os sg).hasO o=true:=hL; rw[CA]at hL'; cases hi:oV os nd o with
      | some oc=>
        have e1:(s.call d nd os sg.ext sg.bo y).fl (.oc o j)=(sg.bo.kd (.oc oc j)).back sg.ext:=by simp only[St.call,hi]
        rw[e1]; have e2:(b.call F d nd os sg).get (.oc o j)=(sg.bo.get (.oc oc j)).map (K.back sg.ext):=by
          simp only[B.get,zM,hi,BQ]; cases cQ oc sg.bo.ob with
          | none=>rfl
          | some r=>simp only[z35,z36]
        simp only[B.kd,e2]; cases sg.bo.get (.oc oc j)with
        | none=>exact GQ _
        | some q=>exact cV _
      | none=>
        rw[hi]at hL'; have e1:(s.call d nd os sg.ext sg.bo y).fl (.oc o j)=s.fl (.oc o j):=by simp only[St.call,hi]
        have e2:(b.call F d nd os sg).kd (.oc o j)=b.kd (.oc o j):=by simp only[B.kd,B.get,zM,hi]
        rw[e1,e2]; exact h.fl (.oc o j) t hL' (by simpa [D.at,atL,D.call,hi]using ht)
    | _=>cases hL
  · by_cases e:d=some i
    · have hx':((y.sl 0).to (rX os nd)).comp k=some (.cp zs):=by simpa [D.call,e]using hx
      rw[hfl0 i k 0 e]; simp only[B.kd,hkd0 i k 0 e]; rw[EK (hf i e) _ hx']; exact cV _
    · rw[hfl i k 0 e hi,hkd i k 0 e hi]
      exact h.cp i k zs (rE e hi).1 (by simpa [D.call,e]using hx)
  · by_cases e:d=some i
    · exfalso
      apply hr
      simp only[D.call,z19 e]; exact V.to_root
    · rw[hfl i 0 0 e hi]
      rw[hkd i 0 0 e hi]at hk; exact h.al i (rE e hi).1 (by simpa [D.call,e]using hr) hk

def KA(sg:Sg)(xs:List Operand)(os:List Nat)(m:Loc):Bool:= !(fH (gZ sg xs os m))&& !(fH m)
def B.pre(F:FA)(b:B)(sg:Sg)(xs:List Operand)(os:List Nat):B:=(if AG sg=true then b else b.killV F).setf F (KA sg xs os) (fun m q=>if KA sg xs os m=true then .D else q)

theorem Jl{n:Nat}{m:Loc}(hm:(b.killV F).hasL m=true):(b.killV F).kd m= .D∨(b.killV F).kd m=(b.S n x).killV.fl m:=by
  have e:(b.S n x).killV.fl m=if b.kd m= .V then .D else b.kd m:=by
    cases m with
    | s i k j=>simp only[St.killV,St.setf]; rw[z13 (by simp)]; rfl
    | _=>rfl
  rw[e]; have hg:(b.killV F).get m=(b.get m).map fun q=>if q= .V then .D else q:=sV hm
  unfold B.kd; rw[hg]; cases b.get m with
  | none=>exact .inl rfl
  | some q=>exact .inr rfl

theorem Ag.pre(hA:Ag F b x)(sg:Sg)(xs:List Operand)(os:List Nat):Ag F (b.pre F sg xs os) x:=by
  unfold B.pre; split
  · exact hA.setf _ _
  · exact Ag.setf (hA.setf _ _) _ _

theorem Lo{n:Nat}(hA:Ag F b x)(sg:Sg)(xs:List Operand)(os:List Nat):Low n (b.pre F sg xs os) x ((b.S n x).pre sg xs os):=by
  have h0:KA sg xs os .none=false:=by simp [KA,fH]
  have hA1:Ag F (b.killV F) x:=hA.setf _ _; unfold B.pre St.pre St.drop; by_cases hp:AG sg=true
  · rw[z19 hp,z19 hp]
    exact iR (R:=KA sg xs os) (f:=fun m=>if KA sg xs os m=true then .D else(b.S n x).fl m) hA (Low.self n b x) h0 (fun m _ _=>cV _) (fun i _ _ hf=>hf)
  · rw[z13 hp,z13 hp]
    refine iR (b:=b.killV F) (s:=(b.S n x).killV) (R:=KA sg xs os) (f:=fun m=>if KA sg xs os m=true then .D else(b.S n x).killV.fl m) hA1 (Bu hA) h0 (fun m hm _=> ?_) (fun i hi _ hf=> ?_)
    · rcases Jl (x:=x) (n:=n) hm with e | e
      · rw[e]
        have:(if KA sg xs os m=true then K.D else K.D)= .D:=by split<;>rfl
        rw[this]; exact GQ _
      · rw[e]; exact cV _
    · rcases Jl (x:=x) (n:=n) (m:= .s i 0 0) hi with e | e
      · rw[e]at hf
        have:(if KA sg xs os (.s i 0 0)=true then K.D else K.D)= .D:=by split<;>rfl
        exact absurd this hf
      · rw[e]at hf; exact hf
end
end Go.Own

namespace Go.Own
open Go.RowKit

def pO(ext:Bool)(f:Nat→K):Nat→List K→Bool
 | _,[]=>true
 | j,q::r=>(f j).hand ext q&&pO ext f (j+1) r
def wR(ext:Bool)(f:Nat→Nat→K):Nat→List (List K)→Bool
 | _,[]=>true
 | k,q::r=>pO ext (f k) 0 q&&wR ext f (k+1) r

theorem tZ{ext:Bool}{f:Nat→K}: ∀ {l:List K} {j0:Nat},pO ext f j0 l=true→ ∀ {j:Nat} {q:K},l[j]? =some q→(f (j0+j)).hand ext q=true
 | [],_,_,j,q,h=>by simp at h
 | p::r,j0,h,0,q,h2=>by
  simp only[pO,z7]at h; simp only[z20,z10]at h2
  subst h2; exact h.1
 | p::r,j0,h,j+1,q,h2=>by
  simp only[pO,z7]at h; simp only[z23]at h2
  have:=tZ h.2 h2; rwa[show j0+1+j=j0+(j+1)by omega]at this
theorem CM{ext:Bool}{f:Nat→Nat→K}: ∀ {l:List (List K)} {k0:Nat},wR ext f k0 l=true→ ∀ {k:Nat} {r:List K},l[k]? =some r→pO ext (f (k0+k)) 0 r=true
 | [],_,_,k,q,h=>by simp at h
 | p::r,k0,h,0,q,h2=>by
  simp only[wR,z7]at h; simp only[z20,z10]at h2
  subst h2; exact h.1
 | p::r,k0,h,k+1,q,h2=>by
  simp only[wR,z7]at h; simp only[z23]at h2
  have:=CM h.2 h2; rwa[show k0+1+k=k0+(k+1)by omega]at this

def Io(sg:Sg)(f:Nat→Nat→K)(i:Nat):Bool:=match cQ i sg.bi.sl with | some κ=>wR sg.ext f 0 κ | none=>true
theorem FJ{sg:Sg}{f:Nat→Nat→K}{i:Nat}(h:Io sg f i=true)(k j:Nat):(f k j).hand sg.ext (sg.bi.kd (.s i k j))=true:=by
 unfold Io at h; simp only[B.kd,B.get]; cases hl:cQ i sg.bi.sl with
 | none=>rfl
 | some κ=>
  rw[hl]at h; simp only[AU]; cases hr:κ[k]? with
  | none=>rfl
  | some r=>
   cases hq:r[j]? with
   | none=>simp only[hq]; rfl
   | some q=>
    have h1:=CM h hr; have h2:=tZ h1 hq; simp only[z32]at h2; simp only[hq]; exact h2

def Nb(sg:Sg)(f:Nat→K)(oc:Nat):Bool:=match cQ oc sg.bi.ob with | some r=>pO sg.ext f 0 r | none=>true
theorem Oi{sg:Sg}{f:Nat→K}{oc:Nat}(h:Nb sg f oc=true)(j:Nat):(f j).hand sg.ext (sg.bi.kd (.oc oc j))=true:=by
 unfold Nb at h; simp only[B.kd,B.get]; cases hl:cQ oc sg.bi.ob with
 | none=>rfl
 | some r=>
  rw[hl]at h; cases hq:r[j]? with
  | none=>simp only[hq]; rfl
  | some q=>
   have h2:=tZ h hq; simp only[z32]at h2; simp only[hq]; exact h2

def GI(sg:Sg)(i:Nat):Bool:=match cQ i sg.bi.sl with | some κ=>κ.all (fun r=>r.all fun q=> !q.hold) | none=>true
theorem Gh{sg:Sg}{i:Nat}(h:GI sg i=true)(k j:Nat):(sg.bi.kd (.s i k j)).hold=false:=by
 unfold GI at h; simp only[B.kd,B.get]; cases hl:cQ i sg.bi.sl with
 | none=>rfl
 | some κ=>
  rw[hl]at h; simp only[AU]; cases hr:κ[k]? with
  | none=>rfl
  | some r=>
   cases hq:r[j]? with
   | none=>simp only[hq]; rfl
   | some q=>
    have:=z15.1 (z15.1 h r (bI hr)) q (bI hq); simp only[hq]; simpa using this

def dfv:K→Bool
 | .D=>true
 | .F=>true
 | .V=>true
 | _=>false

def Tc(F:FA)(b:B)(sg:Sg)(xs:List Operand)(i:Nat):Operand→Bool
 | .tmp t=>b.has t&&(match F.shOf t with
  | .one (.al l _)=>(match l with | .none=>false | _=>true)&&b.hasL l&& !(decide (b.kd (.s t 0 0)= .D))&&K.V.hand sg.ext (sg.bi.kd (.s i 0 0))
  | .one (.pp _ _ _ _)=>true
  | .one (.cp _)=>Io sg (fun k j=>b.kd (.s t k j)) i&&dfv (sg.bi.kd (.s i 0 0))&&GI sg i
  | .one _=>Io sg (fun k j=>b.kd (.s t k j)) i&&(GI sg i||decide (DG xs t=some i))
  | .tup _=>false)
 | .const c=>Io sg (fun k j=>gH (bG c) k j) i
 | _=>true
def Iv(F:FA)(b:B)(sg:Sg)(xs:List Operand):Nat→List Operand→Bool
 | _,[]=>true
 | i,v::r=>Tc F b sg xs i v&&Iv F b sg xs (i+1) r

theorem FO{F:FA}{b:B}{sg:Sg}{xs:List Operand}: ∀ {l:List Operand} {i0:Nat},Iv F b sg xs i0 l=true→ ∀ {i:Nat} {v:Operand},l[i]? =some v→Tc F b sg xs (i0+i) v=true
 | [],_,_,i,v,h=>by simp at h
 | p::r,i0,h,0,v,h2=>by
  simp only[Iv,z7]at h; simp only[z20,z10]at h2
  subst h2; exact h.1
 | p::r,i0,h,i+1,v,h2=>by
  simp only[Iv,z7]at h; simp only[z23]at h2
  have:=FO h.2 h2; rwa[show i0+1+i=i0+(i+1)by omega]at this

section
variable {P:Program} {τ:TypeId→Option TI} {F:FA} {o:Oper} {b b':B} {x x':D}

theorem MO(hA:Ag F b x){n:Nat}{sg:Sg}{xs:List Operand}{i:Nat}{v:Operand}(h:Tc F b sg xs i v=true)(hj:fY (ev x.sl v)=true):JE (b.S n x) sg xs i v:=by
 cases v with
 | tmp t=>
  simp only[Tc,z7]at h; obtain⟨h1,h2⟩:=h; have hsl:(b.S n x).sl t=x.sl t:=oK h1; have hf:=hA.fits h1 (GY hj); simp only[JE]; rw[hsl]
  have plain:Io sg (fun k j=>b.kd (.s t k j)) i=true→(GI sg i||decide (DG xs t=some i))=true→(∀k zs,(x.sl t).comp k≠some (.cp zs))→
    (∀k j,((b.S n x).fl (.s t k j)).hand sg.ext (sg.bi.kd (.s i k j))=true∧((sg.bi.kd (.s i k j)).hold=true→DG xs t=some i))∧ ∀k zs,(x.sl t).comp k=some (.cp zs)→sg.bi.kd (.s i k 0)= .D∨sg.bi.kd (.s i k 0)= .F∨sg.bi.kd (.s i k 0)= .V:=fun q1 q2 q3=>by
   refine⟨fun k j=>⟨FJ q1 k j,fun hh=> ?_⟩,fun k zs hz=>absurd hz (q3 k zs)⟩
   simp only[z50,z28]at q2; rcases q2 with q2 | q2
   ·rw[Gh q2]at hh; cases hh
   ·exact q2
  have hcomp: ∀w,(∀ys,w≠W.cp ys)→ ∀k zs,(V.one w).comp k≠some (.cp zs):=fun w hw k zs=>by
   cases k with
   | zero=>simp only[V.comp]; intro e; exact hw zs (z46 e)
   | succ k=>simp [V.comp]
  cases hs:F.shOf t with
  | tup ws=>rw[hs]at h2; cases h2
  | one y=>
   rw[hs]at h2 hf; cases hx:x.sl t with
   | tup ws=>rw[hx]at hf; simp [Own.fits]at hf
   | one w=>
    rw[hx]at hf plain; cases w<;>cases y<;>simp only[Own.fits,bP,z52]at hf<;>simp only at h2 ⊢
    case cp.cp zs ys=>
     simp only[z7]at h2; refine⟨fun k j=>⟨FJ h2.1.1 k j,fun hh=>by rw[Gh h2.2]at hh; cases hh⟩,fun k zs hz=> ?_⟩
     cases k with
     | succ k=>simp [V.comp]at hz
     | zero=>
      have:=h2.1.2; cases hq:sg.bi.kd (.s i 0 0)<;>rw[hq]at this<;>simp_all [dfv]
    case nilp.cp ys=>
     simp only[z7]at h2; exact plain h2.1.1 (by rw[h2.2]; rfl) (hcomp _ (by simp))
    case al.al l p l' p'=>
     simp only[z7,z28]at hf h2; obtain⟨rfl,_⟩:=hf; obtain⟨⟨⟨q1,q2⟩,q3⟩,q4⟩:=h2; have q3': ¬ b.kd (.s t 0 0)= .D:=by simpa using q3
     exact⟨fun e=>(by subst e; cases q1),q3',q4⟩
    all_goals
     simp only[z7]at h2; exact plain h2.1 h2.2 (hcomp _ (by simp))
 | const c=>exact fun k j=>FJ h k j
 | _=>trivial

def Ra(b:B)(sg:Sg):Nat→List Nat→Bool
 | _,[]=>true
 | i,o::r=>b.hasO o&&Nb sg (fun j=>b.kd (.oc o j)) (par+i)&&Ra b sg (i+1) r
theorem Hz{sg:Sg}: ∀ {l:List Nat} {i0:Nat},Ra b sg i0 l=true→ ∀ {i o:Nat},l[i]? =some o→b.hasO o=true∧Nb sg (fun j=>b.kd (.oc o j)) (par+(i0+i))=true
 | [],_,_,i,o,h=>by simp at h
 | p::r,i0,h,0,o,h2=>by
  simp only[Ra,z7]at h; simp only[z20,z10]at h2
  subst h2; exact h.1
 | p::r,i0,h,i+1,o,h2=>by
  simp only[Ra,z7]at h; simp only[z23]at h2
  have:=Hz h.2 h2; rwa[show i0+1+i=i0+(i+1)by omega]at this

def IS:List Nat→Bool
 | []=>true
 | i::r=> !(mem i r)&&IS r
theorem LT{i:Nat}: ∀ {l:List Nat},i∈l→mem i l=true
 | [],h=>by simp at h
 | j::r,h=>by
  simp only[mem,z50]; rcases z98.1 h with h | h
  ·left; rw[h]; exact z42 _
  ·exact .inr (LT h)
theorem Bl: ∀ {l:List Nat},IS l=true→l.Nodup
 | [],_=>TG
 | i::r,h=>by
  simp only[IS,z7]at h; rw[List.nodup_cons]; exact⟨fun hm=>by rw[LT hm]at h; simp at h,Bl h.2⟩

def Nf(F:FA)(b:B)(sg:Sg)(c:Call)(v:Operand)(d nd:Option Nat)(os:List Nat):Option B:=
 bif cR b v&&c.args.toList.all (kn b F)&&Iv F b sg c.args.toList 0 c.args.toList&&Ra b sg 0 os&&IS os&&(match d with | some d=>Nat.blt d F.n | none=>true)&&
   (match nd with | some z=>Nat.blt z par&& !(mem z os) | none=>true)&&sg.bo.has 0&&(match sg.io with | none=>true | _=>false)&&(sg.ext||AG sg)&&Nat.ble sg.np par then
  some (((b.pre F sg c.args.toList os).call F d nd os sg).nrm F)else none

def inV(x:D)(c:Call)(caps:List (Nat×Nat))(os:List Nat):List V:=c.args.toList.map (fun v=>(evD x v).to (mV os))++caps.map (fun c=>(V.one (.ptr c.1 c.2)).to (mV os))

theorem VS(hA:Ag F b x){c:Call}{v:Operand}{f:FuncId}{caps:List (Nat×Nat)}{sg:Sg}{vs:List V}{ob ob':List (List T)}{r:V}{nw:Option (List T)}{os:List Nat}{nd:Option Nat}(ho:o.op= .call c)(hcal:c.callee= .value v)(hx:ev x.sl v= .one (.fn f caps))
  (hC:TC P f sg vs ob r none ob' nw)(hvs:vs=inV x c caps os)(hob:ob.map some=os.map x.ob)(hnp:sg.np=vs.length)(hth:c.args.toList.all (fun v=>fY (ev x.sl v))=true)
  (h1:bJ F (x.call o.dst nd os (DR r none ob' nw)) o.dst nd os=true)(h2:Nf F b sg c v o.dst nd os=some b'):
  Ag F b' (x.call o.dst nd os (DR r none ob' nw))∧ ∀g0 w0,OpW P g0 w0 o (b.S F.n x) (b'.S F.n (x.call o.dst nd os (DR r none ob' nw))):=by
 unfold Nf at h2; obtain⟨hc,h2⟩:=aI h2; simp only[z7]at hc; obtain⟨⟨⟨⟨⟨⟨⟨⟨⟨⟨c1,c2⟩,c3⟩,c4⟩,c5⟩,c6⟩,c7⟩,c8⟩,c9⟩,c10⟩,c11⟩:=hc; cases h2; have hAp:=hA.pre sg c.args.toList os; have hAc:=hAp.call (d:=o.dst) (nd:=nd) (os:=os) (sg:=sg) (y:=DR r none ob' nw) h1; have hfit: ∀i,o.dst=some i→Own.fits (((DR r none ob' nw).sl 0).to (rX os nd)) (F.shOf i)=true:=fun i e=>by
  simp only[bJ,z7]at h1; have h:=h1.1; rw[e]at h; simp only[D.call,if_true]at h; exact h
 refine⟨hAc.nrm,fun g0 w0=> ?_⟩
 have hmap:c.args.toList.map (fun v=>(evR (b.S F.n x) v).to (mV os))=c.args.toList.map (fun v=>(evD x v).to (mV os)):=z49 fun v hv=>by rw[Ky hA (z15.1 c2 v hv)]
 have hob2:os.map (b.S F.n x).ob=os.map x.ob:=z49 fun o ho=>by
  obtain⟨i,hi⟩:=z72 ho
  exact JJ (Hz c4 hi).1
 have h3:=RF (g0:=g0) (w0:=w0) (st:=b.S F.n x) (nd:=nd) ho hcal (by rw[mW c1]; exact hx) hC (by
   revert c9; cases sg.io<;>simp) (fun i e=>by rw[e]at c6; exact cD c6) (fun z e=>by
   rw[e]at c7; simp only[z7]at c7; exact⟨cD c7.1,fun hm=>by rw[LT hm]at c7; simp at c7⟩) (Bl c5) hnp (z33 c11) c8 (fun e=>by rw[e]at c10; simpa using c10) (by rw[hmap]; exact hvs) (by rw[hob2]; exact hob)
   (fun i v hv=>by
    have:=FO c3 hv; rw[z32]at this; exact MO hA this (z15.1 hth v (bI hv))) (fun o oc j hio=>by
    have hout:=FH hio; obtain⟨_,hp,hoi⟩:=JX (Bl c5) hout; have:=(Hz c4 hoi).2; rw[z32,TM hp]at this; exact Oi this j)
 refine h3.relax (fun a w hs=>hs.relax ?_)
 exact(Jw hAp (Lo (n:=F.n) hA sg c.args.toList os) hfit).le hAc
end
end Go.Own
