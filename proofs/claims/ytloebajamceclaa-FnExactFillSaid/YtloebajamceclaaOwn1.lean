/- A calculus for runs on plain data (part 2): whoever runs code on data, with its owners checked, runs the program. No conditions. -/
import Derived.Test.YtloebajamceclaaOwn0
set_option linter.unusedVariables false
set_option linter.unusedSimpArgs false
set_option linter.unnecessarySimpa false
namespace Go.Own
open Go.RowKit

def B.put(F:FA)(b:B)(d:Nat)(f:Nat→Nat→K):B:=
 { sl:=(d,qP (F.shOf d) f)::b.sl.filter (fun q=> !(Nat.beq q.1 d)&& !(aS d (aI (F.shOf q.1)))),ob:=b.ob }

theorem Gw{F:FA}{b:B}{d:Nat}{f:Nat→Nat→K}{i:Nat}:(b.put F d f).has i=(Nat.beq i d||(!(aS d (aI (F.shOf i)))&&b.has i)):=by
 simp only[B.has,B.put,dL]; cases h:Nat.beq i d with
 | true=>rfl
 | false=>
  simp only[z12,z56]; rw[eQ (fun i=> !(Nat.beq i d)&& !(aS d (aI (F.shOf i)))) i b.sl]
  simp only[h,z97,z41]; cases aS d (aI (F.shOf i))<;>simp

theorem dO{i d:Nat}(h:i≠d):Nat.beq i d=false:=by
 cases e:Nat.beq i d with
 | false=>rfl
 | true=>exact absurd (z14 e) h

theorem Mp{F:FA}{b:B}{d:Nat}{f:Nat→Nat→K}{i k j:Nat}(h:i≠d)(a:aS d (aI (F.shOf i))=false):(b.put F d f).get (.s i k j)=b.get (.s i k j):=by
 simp only[B.get,B.put,dL,dO h,z12]; rw[eQ (fun i=> !(Nat.beq i d)&& !(aS d (aI (F.shOf i)))) i b.sl]
 simp only[dO h,a,z97,z95,if_true]

theorem BN{F:FA}{b:B}{d:Nat}{f:Nat→Nat→K}{k j:Nat}:(b.put F d f).get (.s d k j)=CI (qP (F.shOf d) f) k j:=by
 simp only[B.get,B.put,dL,z42,z15]

theorem Ag.put{F:FA}{b:B}{x:D}(h:Ag F b x){d:Nat}{r:V}{f:Nat→Nat→K}(c:r= .tup []∨fits r (F.shOf d)=true):Ag F (b.put F d f) (x.put d r):=by
 refine⟨fun i a=> ?_,h.ob⟩
 by_cases e:i=d
 ·subst e; simpa [D.put]using c
 ·simp only[D.put,z11 e]
  rw[Gw,dO e]at a; simp only[z56,z7]at a; exact h.sl i a.2

theorem De{s:St}{d:Nat}{r:V}{κ:Nat→Nat→K}{k j:Nat}:(s.put d r κ).fl (.s d k j)=κ k j:=by simp [St.put]

theorem Gv{F:FA}{n:Nat}{b:B}{x:D}{s:St}(J:Ag F b x)(h:Low n b x s){d:Nat}{r:V}{κ f:Nat→Nat→K}(O:r= .tup []∨fits r (F.shOf d)=true)
  (N: ∀k j t,r.leaf k j=some t→(κ k j).lo (f k j)=true)(M: ∀k xs,r.comp k=some (.cp xs)→(κ k 0).lo (f k 0)=true)(L:aI r≠ .none→f 0 0≠ .D→κ 0 0≠ .D):
  Low n (b.put F d f) (x.put d r) (s.put d r κ):=by
 have a: ∀i,i≠d→(b.put F d f).has i=true→b.has i=true∧aS d (aI (F.shOf i))=false:=fun i e c=>by
  rw[Gw,dO e]at c; simpa [and_comm]using c
 have u: ∀i,i≠d→(b.put F d f).has i=true→aS d (aI (s.sl i))=false:=fun i e c=>by
  obtain⟨h1,I⟩:=a i e c; rw[h.sl i h1]; rcases J.sl i h1 with C | C
  ·rw[C]; rfl
  ·rw[eF C]; exact I
 have m: ∀i k j,i≠d→(b.put F d f).has i=true→(b.put F d f).kd (.s i k j)=b.kd (.s i k j):=fun i k j e c=>by
  simp only[B.kd,Mp e (a i e c).2]
 have g: ∀i k j,i≠d→(b.put F d f).has i=true→(s.put d r κ).fl (.s i k j)=s.fl (.s i k j):=fun i k j e c=>by
  simp only[St.put,z11 e]; rw[z11]; rintro ⟨_,_,G⟩
  rw[u i e c]at G; cases G
 have p:fits r (F.shOf d)=true∨((∀k j t,r.leaf k j≠some t)∧(∀k xs,r.comp k≠some (.cp xs))∧aI r= .none):=by
  rcases O with e | e
  ·right
   subst e; refine⟨fun k j t=> ?_,fun k xs=> ?_,rfl⟩
   ·cases k<;>simp [V.leaf,W.leaf]
   ·cases k<;>simp [V.comp]
  ·exact .inl e
 refine⟨h.n,fun i c=> ?_,fun o ho=>h.ob o ho,fun l t y E=> ?_,fun i k xs c H=> ?_,fun i c A z=> ?_⟩
 ·by_cases e:i=d
  ·subst e; simp [St.put,D.put]
  ·simp only[St.put,D.put,z11 e]; exact h.sl i (a i e c).1
 ·cases l with
  | s i k j=>
   by_cases e:i=d
   ·subst e
    have v:r.leaf k j=some t:=by simpa [D.at,atL,D.put]using E
    rcases p with h1 | h1
    ·rw[De]
     simp only[B.kd,BN]; rw[CC h1 f v]; exact N k j t v
    ·exact absurd v (h1.1 k j t)
   ·rw[g i k j e y,m i k j e y]
    refine h.fl (.s i k j) t (a i e y).1 ?_
    simpa [D.at,atL,D.put,e]using E
  | oc o j=>exact h.fl (.oc o j) t y E
  | _=>cases y
 ·by_cases e:i=d
  ·subst e
   have w:r.comp k=some (.cp xs):=by simpa [D.put]using H
   rcases p with h1 | h1
   ·rw[De]
    simp only[B.kd,BN]; rw[GW h1 f w]; exact M k xs w
   ·exact absurd w (h1.2.1 k xs)
  ·rw[g i k 0 e c,m i k 0 e c]
   exact h.cp i k xs (a i e c).1 (by simpa [D.put,e]using H)
 ·by_cases e:i=d
  ·subst e
   have q:aI r≠ .none:=by simpa [D.put]using A
   rcases p with h1 | h1
   ·rw[De]
    simp only[B.kd,BN]at z; rw[Jq h1 f q]at z; exact L q z
   ·exact absurd h1.2.2 q
  ·rw[g i 0 0 e c]
   rw[m i 0 0 e c]at z; exact h.al i (a i e c).1 (by simpa [D.put,e]using A) z

def B.setf(F:FA)(b:B)(R:Loc→Bool)(f:Loc→K→K):B:=(b.mapK f).filt fun i=> !(R (aI (F.shOf i)))

theorem rX{F:FA}{b:B}{R:Loc→Bool}{f:Loc→K→K}{i:Nat}:(b.setf F R f).has i=(!(R (aI (F.shOf i)))&&b.has i):=by
 rw[B.setf,eU,Lz]
theorem gO{F:FA}{b:B}{R:Loc→Bool}{f:Loc→K→K}{o:Nat}:(b.setf F R f).hasO o=b.hasO o:=by
 rw[B.setf,AI,JB]

theorem vA{F:FA}{b:B}{R:Loc→Bool}{f:Loc→K→K}{l:Loc}(h:(b.setf F R f).hasL l=true):(b.setf F R f).get l=(b.get l).map (f l):=by
 rw[B.setf,zV]; cases l with
 | s i k j=>
  have h:(b.setf F R f).has i=true:=h; rw[rX,z7]at h; simp only; rw[z17 h.1,HX]
 | _=>exact HX _ _ _

theorem Ag.setf{F:FA}{b:B}{x:D}(h:Ag F b x)(R:Loc→Bool)(f:Loc→K→K):Ag F (b.setf F R f) x:=by
 refine⟨fun i a=>h.sl i ?_,fun o ho=>h.ob o ?_⟩
 ·rw[rX,z7]at a; exact a.2
 ·rw[gO]at ho; exact ho

theorem kU{F:FA}{n:Nat}{b:B}{x:D}{s:St}(A:Ag F b x)(h:Low n b x s){R:Loc→Bool}{f:Loc→K}{f':Loc→K→K}(C:R .none=false)
  (H: ∀l,b.hasL l=true→(s.fl l).lo (b.kd l)=true→(f l).lo (f' l (b.kd l))=true)(E: ∀i,b.has i=true→(b.kd (.s i 0 0)≠ .D→s.fl (.s i 0 0)≠ .D)→f' (.s i 0 0) (b.kd (.s i 0 0))≠ .D→f (.s i 0 0)≠ .D):
  Low n (b.setf F R f') x (s.setf R f):=by
 have a: ∀i,(b.setf F R f').has i=true→b.has i=true∧R (aI (F.shOf i))=false:=fun i c=>by
  rw[rX]at c; simpa [and_comm]using c
 have m: ∀i,(b.setf F R f').has i=true→R (aI (s.sl i))=false:=fun i c=>by
  obtain⟨h1,z⟩:=a i c; rw[h.sl i h1]; rcases A.sl i h1 with v | v
  ·rw[v]; exact C
  ·rw[eF v]; exact z
 have g: ∀i k j,(b.setf F R f').has i=true→(s.setf R f).fl (.s i k j)=f (.s i k j):=fun i k j c=>by
  simp only[St.setf]; rw[z11]; rintro ⟨_,_,y⟩
  rw[m i c]at y; cases y
 have u: ∀l,(b.setf F R f').hasL l=true→(b.hasL l=true):=fun l d=>by
  cases l with
  | s i k j=>exact(a i d).1
  | oc o j=>have d:(b.setf F R f').hasO o=true:=d; rw[gO]at d; exact d
  | _=>cases d
 have p: ∀l,(b.setf F R f').hasL l=true→(b.setf F R f').kd l= .D∨(b.setf F R f').kd l=f' l (b.kd l):=fun l d=>by
  simp only[B.kd,vA d]; cases b.get l with
  | none=>exact .inl rfl
  | some q=>exact .inr rfl
 have r: ∀l,(b.setf F R f').hasL l=true→(s.fl l).lo (b.kd l)=true→(f l).lo ((b.setf F R f').kd l)=true:=fun l d h1=>by
  rcases p l d with e | e
  ·rw[e]; exact Ic _
  ·rw[e]; exact H l (u l d) h1
 refine⟨h.n,fun i c=>h.sl i (a i c).1,fun o ho=>h.ob o (by rw[gO]at ho; exact ho),fun l t d J=> ?_,fun i k xs c L=> ?_,fun i c I w=> ?_⟩
 ·have h1:=r l d (h.fl l t (u l d) J)
  cases l with
  | s i k j=>rw[g i k j d]; exact h1
  | oc o j=>exact h1
  | _=>cases d
 ·rw[g i k 0 c]
  exact r (.s i k 0) c (h.cp i k xs (a i c).1 L)
 ·rw[g i 0 0 c]
  rcases p (.s i 0 0) c with e | e
  ·exact absurd e w
  ·rw[e]at w
   exact E i (a i c).1 (fun G=>h.al i (a i c).1 I G) w

def jT(M:List (Loc×Loc))(l:Loc):Bool:=M.all fun m=> !(decide (l=m.1))&& !(decide (l=m.2))
def B.mvs(F:FA)(b:B)(M:List (Loc×Loc)):B:=match M with
 | []=>b
 | _=>b.setf F (fun l=> !(jT M l)) (fun l _=>mvK M b.kd l)

theorem RY(M:List (Loc×Loc)): ∀ {f g:Loc→K} {l:Loc},(f l).lo (g l)=true→(∀m∈M,(f m.1).lo (g m.1)=true∧(f m.2).lo (g m.2)=true)→(mvK M f l).lo (mvK M g l)=true:=by
 induction M with
 | nil=>intro f g l h _; exact h
 | cons m r ih=>
  intro f g l h j; obtain⟨a,b⟩:=m; have k:=(j (a,b) z27).1; have c: ∀m,(f m).lo (g m)=true→(if m=b then f a else if m=a then(f a).cp else f m).lo (if m=b then g a else if m=a then(g a).cp else g m)=true:=fun m p=>by
   by_cases d:m=b
   ·rw[z17 d,z17 d]; exact k
   ·rw[z11 d,z11 d]
    by_cases e:m=a
    ·rw[z17 e,z17 e]; exact lo_cp k
    ·rw[z11 e,z11 e]; exact p
  exact ih (c l h) (fun q i=>by
   obtain⟨h1,o⟩:=j q (z23 _ i); exact⟨c _ h1,c _ o⟩)

theorem Ag.mvs{F:FA}{b:B}{x:D}(h:Ag F b x)(M:List (Loc×Loc)):Ag F (b.mvs F M) x:=by
 cases M with
 | nil=>exact h
 | cons m r=>exact h.setf (fun l=> !(jT (m::r) l)) (fun l _=>mvK (m::r) b.kd l)

theorem KN{F:FA}{n:Nat}{b:B}{x:D}{s:St}(Q:Ag F b x)(h:Low n b x s){M:List (Loc×Loc)}(R: ∀m∈M,(b.hasL m.1=true∧ ∃t,x.at m.1=some t)∧(b.hasL m.2=true∧ ∃t,x.at m.2=some t)):
  Low n (b.mvs F M) x (s.mvs M):=by
 cases hM0:M with
 | nil=>exact h
 | cons m0 r0=>
 have X:b.mvs F (m0::r0)=b.setf F (fun l=> !(jT M l)) (fun l _=>mvK M b.kd l):=by rw[←hM0,hM0]; rfl
 rw[X, ←hM0]; have G: ∀l,b.hasL l=true→s.at l=x.at l:=fun l f=>by
  cases l with
  | s i k j=>rw[St.at_s,h.sl i f]; rfl
  | oc o j=>rw[St.at_oc,h.ob o f]; rfl
  | _=>cases f
 have K: ∀m∈M,(∃y,s.at m.1=some y)∧(∃y,s.at m.2=some y):=fun m g=>by
  obtain⟨⟨h1,N,p⟩,u,O,r⟩:=R m g; exact⟨⟨N,(G _ h1).trans p⟩,⟨O,(G _ u).trans r⟩⟩
 have E: ∀m∈M,m.1≠ .none∧m.2≠ .none:=fun m g=>by
  obtain⟨⟨y1,h1⟩,⟨y2,u⟩⟩:=K m g; exact⟨(He h1).1,(He u).1⟩
 have J: ∀m∈M,(s.fl m.1).lo (b.kd m.1)=true∧(s.fl m.2).lo (b.kd m.2)=true:=fun m g=>by
  obtain⟨⟨h1,N,p⟩,u,O,r⟩:=R m g; exact⟨h.fl _ N h1 p,h.fl _ O u r⟩
 have d: ∀i,(b.setf F (fun l=> !(jT M l)) (fun l _=>mvK M b.kd l)).has i=true→b.has i=true∧jT M (aI (F.shOf i))=true:=fun i c=>by
  rw[rX]at c; simpa [and_comm]using c
 have H: ∀l,(b.setf F (fun l=> !(jT M l)) (fun l _=>mvK M b.kd l)).hasL l=true→(b.setf F (fun l=> !(jT M l)) (fun l _=>mvK M b.kd l)).kd l= .D∨
   (b.setf F (fun l=> !(jT M l)) (fun l _=>mvK M b.kd l)).kd l=mvK M b.kd l:=fun l f=>by
  simp only[B.kd,vA f]; cases b.get l with
  | none=>exact .inl rfl
  | some q=>exact .inr rfl
 have v: ∀l,jT M l=true→ ∀m∈M,l≠m.1∧l≠m.2:=fun l Y m g=>by
  have:=z18.1 Y m g; simpa using this
 have T: ∀i k,b.has i=true→(∀t,(x.sl i).leaf k 0≠some t)→ ∀m∈M,Loc.s i k 0≠m.1∧Loc.s i k 0≠m.2:=fun i k c a m g=>by
  obtain⟨⟨h1,N,p⟩,u,O,r⟩:=R m g; refine⟨fun e=> ?_,fun e=> ?_⟩
  ·rw[←e]at p; exact a N p
  ·rw[←e]at r; exact a O r
 have A: ∀i k,b.has i=true→jT M (aI (F.shOf i))=true→(∀t,(x.sl i).leaf k 0≠some t)→(s.mvs M).fl (.s i k 0)=s.fl (.s i k 0)∧mvK M b.kd (.s i k 0)=b.kd (.s i k 0):=fun i k c U a=>by
  have L:=T i k c a; refine⟨?_,Tp M L⟩
  have P: ∀m∈M,aI (s.sl i)≠m.1∧aI (s.sl i)≠m.2:=by
   rw[h.sl i c]; rcases Q.sl i c with e | e
   ·rw[e]; exact fun m g=>⟨Ne.symm (E m g).1,Ne.symm (E m g).2⟩
   ·rw[eF e]; exact v _ U
  exact Kw M P L
 refine⟨(We M s).trans h.n,fun i c=>by rw[Wb]; exact h.sl i (d i c).1,fun o ho=>by rw[Wc]; rw[gO]at ho; exact h.ob o ho,fun l t f z=> ?_,fun i k xs c C=> ?_,fun i c P S=> ?_⟩
 ·have I:b.hasL l=true:=by
   cases l with
   | s i k j=>exact(d i f).1
   | oc o j=>have f:(b.setf F _ _).hasO o=true:=f; rw[gO]at f; exact f
   | _=>cases f
  rcases H l f with e | e
  ·rw[e]; exact Ic _
  ·rw[e,Wf M ((G l I).trans z) K E]
   exact RY M (h.fl l t I z) J
 ·obtain⟨h1,u⟩:=d i c
  have a: ∀t,(x.sl i).leaf k 0≠some t:=fun t z=>by
   cases hv:x.sl i with
   | one w=>
    rw[hv]at C z; cases k with
    | zero=>simp only[V.comp,z9]at C; subst C; simp [V.leaf,W.leaf]at z
    | succ k=>simp [V.comp]at C
   | tup Z=>rw[hv]at C z; simp only[V.comp]at C; simp [V.leaf,C,W.leaf]at z
  obtain⟨p,r⟩:=A i k h1 u a; rcases H (.s i k 0) c with e | e
  ·rw[e]; exact Ic _
  ·rw[e,p,r]; exact h.cp i k xs h1 C
 ·obtain⟨h1,u⟩:=d i c
  have a: ∀t,(x.sl i).leaf 0 0≠some t:=fun t z=>P (by
   rcases Q.sl i h1 with e | e
   ·rw[e]; rfl
   ·rw[eF e]; exact Q.leaf_root h1 z)
  obtain⟨p,r⟩:=A i 0 h1 u a; rcases H (.s i 0 0) c with e | e
  ·exact absurd e S
  ·rw[e,r]at S
   rw[p]; exact h.al i h1 P S

def FF(d:Nat):W→Bool
  | .ptr o _=>Nat.beq o d
  | .fn _ cs=>cs.any fun c=>decide (c.1=d)
  | _=>false
def Sq(d:Nat):V→Bool
  | .one w=>FF d w
  | .tup a=>a.any (FF d)

theorem GN{d:Nat}{w:W}(h:FF d w=false):w.kill d=w:=by
  cases w with
  | ptr o p=>
    have:o≠d:=fun e=>by subst e; simp [FF,z42]at h
    simp [W.kill,this]
  | fn f cs=>
    show(if(cs.any fun c=>c.1 == d)then W.junk else W.fn f cs)=W.fn f cs
    rw[z11]; intro e; have h:(cs.any fun c=>decide (c.1=d))=false:=h
    rw[show(fun c:Nat×Nat=>c.1 == d)=fun c=>decide (c.1=d)from rfl,h]at e
    cases e
  | _=>rfl

theorem Iz{d:Nat}{v:V}(h:Sq d v=false):v.kill d=v:=by
  cases v with
  | one w=>exact congrArg V.one (GN h)
  | tup b=>
    have a:b.any (FF d)=false:=h; rw[Vw]at a; simp only[V.kill]; congr 1
    exact(z52 fun w c=>GN (by simpa using a w c)).trans (List.map_id b)

theorem Ga{d:Nat}{v s:W}(h:bO v s=true)(a:FF d s=false):FF d v=false:=by
  cases v<;>cases s<;>simp only[bO,z7,z51]at h<;>first | rfl | skip
  · obtain⟨h1,_⟩:=h
    rw[z14 h1]; exact a
  · obtain⟨_,b⟩:=h
    have:=of_decide_eq_true b; subst this; exact a

theorem EP{d:Nat}: ∀ {xs ys:List W},nT xs ys=true→ys.any (FF d)=false→xs.any (FF d)=false
  | [],[],_,_=>rfl
  | [],_::_,h,_=>by simp [nT]at h
  | _::_,[],h,_=>by simp [nT]at h
  | x::xs,y::ys,h,a=>by
    simp only[nT,z7]at h; simp only[Ud,z61]at a ⊢; exact⟨Ga h.1 a.1,EP h.2 a.2⟩

theorem JM{d:Nat}{v s:V}(h:fits v s=true)(a:Sq d s=false):Sq d v=false:=by
  cases v with
  | one w=>cases s with
    | one y=>exact Ga h a
    | tup ys=>simp [fits]at h
  | tup b=>cases s with
    | one y=>simp [fits]at h
    | tup ys=>exact EP h a

def vS(F:FA)(d i:Nat):Bool:= !(Nat.beq i d)&& !(aS d (aI (F.shOf i)))&& !(uY d (aI (F.shOf i)))&& !(Sq d (F.shOf i))

def B.alloc(F:FA)(b:B)(d:Nat)(κ:Nat→K):B:=
  { sl:=(d,[[.S]])::b.sl.filter (fun q=>vS F d q.1)
    ob:=(d,Qu κ 0 (F.obOf d))::b.ob.filter (fun q=> !(Nat.beq q.1 d)) }

theorem Dz{F:FA}{b:B}{d:Nat}{κ:Nat→K}{i:Nat}:(b.alloc F d κ).has i=(Nat.beq i d||(vS F d i&&b.has i)):=by
  simp only[B.has,B.alloc,dL]; cases h:Nat.beq i d with
  | true=>rfl
  | false=>
    simp only[z12,z56]; rw[eQ (vS F d) i b.sl]; cases vS F d i<;>simp

theorem Bb{F:FA}{b:B}{d:Nat}{κ:Nat→K}{o:Nat}:(b.alloc F d κ).hasO o=(Nat.beq o d||b.hasO o):=by
  simp only[B.hasO,B.alloc,dL]; cases h:Nat.beq o d with
  | true=>rfl
  | false=>
    simp only[z12,z56]; rw[eQ (fun o=> !(Nat.beq o d)) o b.ob]
    simp [h]

theorem Jv{F:FA}{b:B}{d:Nat}{κ:Nat→K}{i k j:Nat}(h:i≠d)(a:vS F d i=true):(b.alloc F d κ).get (.s i k j)=b.get (.s i k j):=by
  simp only[B.get,B.alloc,dL,dO h,z12]; rw[eQ (vS F d) i b.sl,z17 a]
theorem Ev{F:FA}{b:B}{d:Nat}{κ:Nat→K}{o j:Nat}(h:o≠d):(b.alloc F d κ).get (.oc o j)=b.get (.oc o j):=by
  simp only[B.get,B.alloc,dL,dO h,z12]; rw[eQ (fun o=> !(Nat.beq o d)) o b.ob]
  simp [dO h]

theorem Ag.alloc{F:FA}{b:B}{x:D}(h:Ag F b x){d:Nat}{cells:List T}{κ:Nat→K}(f:F.shOf d= .one (.ptr d 0))(c:iG cells (F.obOf d)=true):Ag F (b.alloc F d κ) ((x.put d (.one (.ptr d 0))).setO d cells):=by
  refine⟨fun i a=> ?_,fun o ho=> ?_⟩
  · by_cases e:i=d
    · subst e
      right
      simp [D.setO,D.put,f,fits,bO]
    · simp only[D.setO,D.put,z11 e]
      rw[Dz,dO e]at a; simp only[z56,z7]at a; exact h.sl i a.2
  · by_cases e:o=d
    · subst e
      exact⟨cells,by simp [D.setO],c⟩
    · simp only[D.setO,D.put,z11 e]
      rw[Bb,dO e]at ho; exact h.ob o (by simpa using ho)

theorem JV{F:FA}{n:Nat}{b:B}{x:D}{s:St}(H:Ag F b x)(h:Low n b x s){d:Nat}{cells:List T}{κ f:Nat→K}(I:iG cells (F.obOf d)=true)(L: ∀j,(κ j).lo (f j)=true):
    Low n (b.alloc F d f) ((x.put d (.one (.ptr d 0))).setO d cells) (s.alloc d cells κ):=by
  have a: ∀i,i≠d→(b.alloc F d f).has i=true→b.has i=true∧vS F d i=true:=fun i e c=>by
    rw[Dz,dO e]at c; simpa [and_comm]using c
  have m: ∀i,i≠d→(b.alloc F d f).has i=true→(aS d (aI (s.sl i))||uY d (aI (s.sl i)))=false∧Sq d (s.sl i)=false:=fun i e c=>by
    obtain⟨h1,w⟩:=a i e c; rw[h.sl i h1]; rcases H.sl i h1 with g | g
    · rw[g]; exact⟨rfl,rfl⟩
    · rw[eF g]
      simp only[vS,z7,z35]at w; exact⟨by simp [w.1.1.2,w.1.2],JM g w.2⟩
  have q: ∀i k j,i≠d→(b.alloc F d f).has i=true→(b.alloc F d f).kd (.s i k j)=b.kd (.s i k j):=fun i k j e c=>by
    simp only[B.kd,Jv e (a i e c).2]
  have p: ∀i k j,i≠d→(b.alloc F d f).has i=true→(s.alloc d cells κ).fl (.s i k j)=s.fl (.s i k j):=fun i k j e c=>by
    simp only[St.alloc,z11 e]; rw[z11]; rintro ⟨_,_,C⟩
    rw[(m i e c).1]at C; cases C
  have E: ∀o,o≠d→(b.alloc F d f).hasO o=true→b.hasO o=true:=fun o e ho=>by
    rw[Bb,dO e]at ho; simpa using ho
  refine⟨h.n,fun i c=> ?_,fun o ho=> ?_,fun l t r v=> ?_,fun i k xs c A=> ?_,fun i c u G=> ?_⟩
  · by_cases e:i=d
    · subst e; simp [St.alloc,D.put,D.setO]
    · simp only[St.alloc,D.put,D.setO,z11 e]
      rw[Iz (m i e c).2]; exact h.sl i (a i e c).1
  · by_cases e:o=d
    · subst e; simp [St.alloc,D.setO]
    · simp only[St.alloc,D.put,D.setO,z11 e]; exact h.ob o (E o e ho)
  · cases l with
    | s i k j=>
      by_cases e:i=d
      · subst e
        exfalso
        simp only[D.at,atL,D.setO,D.put,if_true]at v; cases k<;>simp [V.leaf,W.leaf]at v
      · rw[p i k j e r,q i k j e r]
        refine h.fl (.s i k j) t (a i e r).1 ?_
        simpa [D.at,atL,D.setO,D.put,e]using v
    | oc o j=>
      by_cases e:o=d
      · subst e
        have z:cells[j]? =some t:=by simpa [D.at,atL,D.setO]using v
        have J:j<(F.obOf o).length:=by rw[←AK I]; exact cK z
        have y:(s.alloc o cells κ).fl (.oc o j)=κ j:=by simp [St.alloc]
        have g:(b.alloc F o f).kd (.oc o j)=f j:=by
          simp only[B.kd,B.get,B.alloc,dL,z42,z15,CX,z17 J,z30]
        rw[y,g]; exact L j
      · have y:(s.alloc d cells κ).fl (.oc o j)=s.fl (.oc o j):=by simp [St.alloc,e]
        have g:(b.alloc F d f).kd (.oc o j)=b.kd (.oc o j):=by simp only[B.kd,Ev e]
        rw[y,g]; exact h.fl (.oc o j) t (E o e r) (by simpa [D.at,atL,D.setO,D.put,e]using v)
    | _=>cases r
  · by_cases e:i=d
    · subst e
      exfalso
      simp only[D.setO,D.put,if_true]at A; cases k<;>simp [V.comp]at A
    · rw[p i k 0 e c,q i k 0 e c]
      exact h.cp i k xs (a i e c).1 (by simpa [D.setO,D.put,e]using A)
  · by_cases e:i=d
    · subst e
      exact absurd (show aI (((x.put i (.one (.ptr i 0))).setO i cells).sl i)= .none from by simp [D.setO,D.put,aI]) u
    · rw[p i 0 0 e c]
      rw[q i 0 0 e c]at G; exact h.al i (a i e c).1 (by simpa [D.setO,D.put,e]using u) G

def B.write(F:FA)(b:B)(o p m:Nat)(κ:Nat→K):B:=
  (b.mapK (fun l q=>match l with | .oc a j=>if Nat.beq a o&&Nat.ble p j&&Nat.blt j (p+m)then κ (j - p)else q | _=>q)).filt fun i=> !(uY o (aI (F.shOf i)))

theorem zX{F:FA}{b:B}{o p m:Nat}{κ:Nat→K}{i:Nat}:(b.write F o p m κ).has i=(!(uY o (aI (F.shOf i)))&&b.has i):=by rw[B.write,eU,Lz]
theorem wB{F:FA}{b:B}{o p m:Nat}{κ:Nat→K}{a:Nat}:(b.write F o p m κ).hasO a=b.hasO a:=by rw[B.write,AI,JB]

theorem Ag.write{F:FA}{b:B}{x:D}(h:Ag F b x){o p m:Nat}{cells:List T}{κ:Nat→K}(d:iG cells (F.obOf o)=true):Ag F (b.write F o p m κ) (x.setO o cells):=by
  refine⟨fun i a=> ?_,fun c ho=> ?_⟩
  · rw[zX,z7]at a; exact h.sl i a.2
  · rw[wB]at ho
    by_cases e:c=o
    · subst e; exact⟨cells,by simp [D.setO],d⟩
    · simp only[D.setO,z11 e]; exact h.ob c ho

theorem PI{F:FA}{n:Nat}{b:B}{x:D}{s:St}(J:Ag F b x)(h:Low n b x s){o p:Nat}{xs cells:List T}{κ:Nat→K}(L:x.ob o=some cells)(z:p+xs.length≤cells.length):
    Low n (b.write F o p xs.length κ) (x.setO o (cells.take p++xs++cells.drop (p+xs.length))) (s.write o p xs cells κ):=by
  have d: ∀i,(b.write F o p xs.length κ).has i=true→b.has i=true∧uY o (aI (s.sl i))=false:=fun i a=>by
    rw[zX,z7]at a; refine⟨a.2, ?_⟩
    rw[h.sl i a.2]; rcases J.sl i a.2 with r | r
    · rw[r]; rfl
    · rw[eF r]; simpa using a.1
  have m: ∀i k j,(b.write F o p xs.length κ).has i=true→(b.write F o p xs.length κ).kd (.s i k j)=b.kd (.s i k j):=fun i k j a=>by
    have h0:=a; rw[zX,z7]at h0; rw[B.write,gN (by exact h0.1),Od]
    simp only[B.kd]
  have g: ∀i k j,(b.write F o p xs.length κ).has i=true→(s.write o p xs cells κ).fl (.s i k j)=s.fl (.s i k j):=fun i k j a=>by
    simp only[St.write]; rw[z11]; rintro ⟨_,_,G⟩
    rw[(d i a).2]at G; cases G
  refine⟨h.n,fun i a=>h.sl i (d i a).1,fun c ho=> ?_,fun l t f u=> ?_,fun i k ys a N=> ?_,fun i a A H=> ?_⟩
  · rw[wB]at ho
    by_cases e:c=o
    · subst e; simp [St.write,D.setO]
    · simp only[St.write,D.setO,z11 e]; exact h.ob c ho
  · cases l with
    | s i k j=>rw[g i k j f,m i k j f]; exact h.fl (.s i k j) t (d i f).1 u
    | oc c j=>
      have w:b.hasO c=true:=by have f:(b.write F o p xs.length κ).hasO c=true:=f; rw[wB]at f; exact f
      have r:(b.write F o p xs.length κ).kd (.oc c j)=match b.get (.oc c j)with | some q=>(if Nat.beq c o&&Nat.ble p j&&Nat.blt j (p+xs.length)then κ (j - p)else q) | none=> .D:=by
        rw[B.write,Gb,Od]; cases b.get (.oc c j)<;>rfl
      rw[r]; show(if c=o∧p≤j∧j<p+xs.length then κ (j - p)else s.fl (.oc c j)).lo _=true
      by_cases e:c=o∧p≤j∧j<p+xs.length
      · rw[z17 e]
        have y:(Nat.beq c o&&Nat.ble p j&&Nat.blt j (p+xs.length))=true:=by
          obtain⟨rfl,h1,I⟩:=e; simp [z42,Nat.blt,h1,Nat.succ_le_of_lt I]
        cases b.get (.oc c j)with
        | none=>exact Ic _
        | some q=>simp only[y,if_true]; exact dP _
      · rw[z11 e]
        have y:(Nat.beq c o&&Nat.ble p j&&Nat.blt j (p+xs.length))=false:=by
          rw[Bool.eq_false_iff]; intro v; simp only[z7]at v; exact e ⟨z14 v.1.1,z29 v.1.2,z29 v.2⟩
        have C:x.at (.oc c j)=some t:=by
          by_cases E:c=o
          · subst E
            have M: ¬ (p≤j∧j<p+xs.length):=fun h=>e ⟨rfl,h⟩
            simp only[D.at,atL,D.setO,if_true,z8]at u ⊢; rw[sB cells xs p z j,z11 M]at u; rw[L]; exact u
          · simpa [D.at,atL,D.setO,E]using u
        have h1:=h.fl (.oc c j) t w C; simp only[B.kd]at h1; cases hg:b.get (.oc c j)with
        | none=>exact Ic _
        | some q=>rw[hg]at h1; simp only[y]; exact h1
    | _=>cases f
  · rw[g i k 0 a,m i k 0 a]; exact h.cp i k ys (d i a).1 N
  · rw[g i 0 0 a]
    rw[m i 0 0 a]at H; exact h.al i (d i a).1 A H

def mem(d:Nat):List Nat→Bool
 | []=>false
 | i::r=>Nat.beq d i||mem d r

def sM(F:FA)(x:D)(d:Nat)(v:V):Option D:=bif fits v (F.shOf d)then some (x.put d v)else none

theorem cH{F:FA}{x x':D}{d:Nat}{v:V}(h:sM F x d v=some x'):fits v (F.shOf d)=true∧x'=x.put d v:=by
 unfold sM at h; cases e:fits v (F.shOf d)with
 | true=>rw[e]at h; simp only[z15,z9]at h; exact⟨rfl,h.symm⟩
 | false=>rw[e]at h; cases h

structure OpS (P:Program) (F:FA) (n:Nat) (o:Oper) (b:B) (x:D) (b':B) (x':D):Prop where
 ag:Ag F b' x'
 ok: ∀g0 w0,qD P g0 w0 o (b.S n x) (b'.S n x')

theorem OpS.fin{P:Program}{F:FA}{n:Nat}{o:Oper}{b:B}{x:D}{b':B}{x':D}{s:St}(a:Ag F b' x')(h: ∀g0 w0,qD P g0 w0 o (b.S n x) s)(c:Low n b' x' s):OpS P F n o b x (b'.nrm F) x':=
 ⟨a.nrm,fun g0 w0=>(h g0 w0).relax (c.le a)⟩

def dN(b:B):Operand→Bool
 | .tmp t=>b.has t
 | _=>true
def nU(F:FA):Operand→V
 | .tmp t=>F.shOf t
 | .const v=>bE v
 | .func f=> .one (.fn f [])
 | .global _=> .one .junk
def Fz(b:B):Operand→Nat→Nat→K
 | .tmp t,k,j=>(b.kd (.s t k j)).cp
 | .const v,k,j=>jD (bE v) k j
 | _,_,_=> .S

theorem tB{n:Nat}{b:B}{x:D}{v:Operand}:opK (b.S n x) v=Fz b v:=by cases v<;>rfl

theorem qO{n:Nat}{b:B}{x:D}{t:Nat}(h:b.has t=true):(b.S n x).sl t=x.sl t:=by simp only[B.S]; rw[z17 h]
theorem Lc{n:Nat}{b:B}{x:D}{t:Nat}(h:b.hasO t=true):(b.S n x).ob t=x.ob t:=by simp only[B.S]; rw[z17 h]
theorem pU{n:Nat}{b:B}{x:D}{v:Operand}(h:dN b v=true):ev (b.S n x).sl v=ev x.sl v:=by
 cases v with
 | tmp t=>exact qO h
 | _=>rfl

theorem Ag.fits{F:FA}{b:B}{x:D}(a:Ag F b x){t:Nat}(h:b.has t=true)(c:x.sl t≠ .tup []):fits (x.sl t) (F.shOf t)=true:=by
 rcases a.sl t h with e | e
 ·exact absurd e c
 ·exact e

def gC:V→Bool
 | .tup []=>false
 | _=>true
theorem Io{v:V}(h:gC v=true):v≠ .tup []:=fun e=>by subst e; cases h

theorem yP(v:Value):aI (bE v)= .none:=by unfold bE; (repeat' split)<;>rfl

theorem Oq{F:FA}{b:B}{x:D}(a:Ag F b x){v:Operand}(h:dN b v=true):aI (ev x.sl v)≠ .none→aI (ev x.sl v)=aI (nU F v):=by
 cases v with
 | tmp t=>
  intro h1; rcases a.sl t h with e | e
  ·exact absurd (show aI (x.sl t)= .none by rw[e]; rfl) h1
  ·exact eF e
 | _=>intro _; rfl

def range':Nat→Nat→List Nat
 | _,0=> []
 | i,m+1=>i::range' (i+1) m
theorem qZ: ∀ {m i j:Nat},j∈range' i m↔i≤j∧j<i+m
 | 0,i,j=>by
  simp only[range',Uh,false_iff]; omega
 | m+1,i,j=>by
  simp only[range',Qq,qZ (m:=m)]; omega
def HE:W→List Nat
 | .c _=> [0]
 | .ag xs=>range' 0 xs.length
 | _=> []
def zR:Nat→List W→List (Nat×Nat)
 | _,[]=> []
 | k,w::r=>(HE w).map (fun j=>(k,j))++zR (k+1) r
def nR:V→List (Nat×Nat)
 | .one w=>(HE w).map fun j=>(0,j)
 | .tup a=>zR 0 a

theorem GT{x y:W}(h:bO x y=true){j:Nat}(a:j∈HE y): ∃t,x.leaf j=some t:=by
 cases y<;>simp only[HE,Uh,z72]at a<;>try exact absurd a (by simp)
 ·subst a
  cases x<;>simp [bO]at h
  exact⟨_,rfl⟩
 ·rename_i ys
  cases x<;>simp [bO]at h
  rename_i xs; have:=(qZ.1 a).2; rw[z30, ←AK h]at this; exact⟨xs[j],z16 this⟩

theorem EL: ∀ {ys:List W} {xs:List W} {k0 k j:Nat},nT xs ys=true→(k,j)∈zR k0 ys→ ∃w t,xs[k - k0]? =some w∧w.leaf j=some t∧k0≤k
 | [],_,_,_,_,_,a=>by simp [zR]at a
 | y::ys,[],_,_,_,h,_=>by simp [nT]at h
 | y::ys,x::xs,k0,k,j,h,a=>by
  simp only[nT,z7]at h; simp only[zR,Vs,z49,z38,exists_eq_right_right]at a; rcases a with⟨h1,rfl⟩ | a
  ·obtain⟨t,e⟩:=GT h.1 h1
   exact⟨x,t,by simp,e,z59 _⟩
  ·obtain⟨w,t,h1,c,f⟩:=EL h.2 a
   refine⟨w,t, ?_,c,by omega⟩
   rw[show k - k0=(k - (k0+1))+1 by omega,z21]
   exact h1

theorem rJ{v s:V}(h:Own.fits v s=true){k j:Nat}(a:(k,j)∈nR s): ∃t,v.leaf k j=some t:=by
 cases v with
 | one w=>
  cases s with
  | tup e=>simp [Own.fits]at h
  | one y=>
   simp only[nR,z49,z38,exists_eq_right_right]at a; obtain⟨h1,rfl⟩:=a; exact GT h h1
 | tup e=>
  cases s with
  | one y=>simp [Own.fits]at h
  | tup ys=>
   obtain⟨w,t,h1,c,_⟩:=EL (k0:=0) h a; exact⟨t,by simp only[V.leaf]; rw[Vm]at h1; rw[h1]; exact c⟩

def holds(F:FA)(b:B)(t:Nat):List (Nat×Nat):=(nR (F.shOf t)).filter fun m=>(b.kd (.s t m.1 m.2)).hold

theorem RQ{F:FA}{b:B}{x:D}(m:Ag F b x){d:Nat}{r:V}{f:Nat→Nat→K}{l:Loc}{t:T}(h:b.hasL l=true)(p:aS d l=false)(c:x.at l=some t):(b.put F d f).hasL l=true∧ ∃t,(x.put d r).at l=some t:=by
 cases l with
 | s i k j=>
  have g:b.has i=true:=h; have a:i≠d:=fun e=>by subst e; simp [aS]at p
  have q:=m.leaf_root g c; refine⟨?_,t, ?_⟩
  ·show(b.put F d f).has i=true
   rw[Gw,dO a,q,g]; rfl
  ·simpa [D.at,atL,D.put,a]using c
 | oc o j=>exact⟨h,t,c⟩
 | _=>cases h

theorem Tl{F:FA}{b:B}{x:D}{d:Nat}{r:V}{f:Nat→Nat→K}{k j:Nat}(h: ∃t,r.leaf k j=some t):(b.put F d f).hasL (.s d k j)=true∧ ∃t,(x.put d r).at (.s d k j)=some t:=by
 obtain⟨t,h⟩:=h; refine⟨?_,t,by simpa [D.at,atL,D.put]using h⟩
 show(b.put F d f).has d=true; rw[Gw,z42]; rfl

theorem OpS.put{P:Program}{F:FA}{n:Nat}{o:Oper}{b:B}{x:D}(a:Ag F b x){d:Nat}{r:V}{κ:Nat→Nat→K}{M:List (Loc×Loc)}(c:Own.fits r (F.shOf d)=true)
  (h: ∀g0 w0,qD P g0 w0 o (b.S n x) (((b.S n x).put d r κ).mvs M))(g: ∀m∈M,(b.hasL m.1=true∧aS d m.1=false∧ ∃t,x.at m.1=some t)∧ ∃k j,m.2= .s d k j∧ ∃t,r.leaf k j=some t):
  OpS P F n o b x (((b.put F d κ).mvs F M).nrm F) (x.put d r):=by
 have h1:=a.put (f:=κ) (.inr c); have e:=Gv a (Low.self n b x) (κ:=κ) (f:=κ) (.inr c) (fun _ _ _ _=>dP _) (fun _ _ _=>dP _) (fun _ h=>h)
 refine OpS.fin (h1.mvs M) h (KN h1 e (fun m i=> ?_))
 obtain⟨⟨l,p,t,q⟩,k,j,u,v⟩:=g m i; refine⟨RQ a l p q, ?_⟩
 rw[u]; exact Tl v

def yN(F:FA)(x:D)(d:Nat)(v:Operand):Option D:=bif gC (ev x.sl v)then sM F x d (ev x.sl v)else none
def QZ(F:FA)(b:B)(d:Nat)(a:Bool):Operand→List (Loc×Loc)
 | .tmp t=>bif a then(holds F b t).map fun m=>(.s t m.1 m.2, .s d m.1 m.2)else []
 | _=> []
def HU(d:Nat)(v:V):Bool:=match aI v with | .none=>true | l=> !(aS d l)
def IS(d:Nat):Operand→Bool
 | .tmp t=> !(Nat.beq t d)
 | _=>true
def TP(F:FA)(b:B)(d:Nat)(a:Bool)(v:Operand):Option B:=
 bif Nat.blt d F.n&&dN b v&&HU d (nU F v)&&IS d v then some (((b.put F d (Fz b v)).mvs F (QZ F b d a v)).nrm F)else none

theorem bK{a b:Nat}(h:Nat.blt a b=true):a<b:=z29 h
theorem Ks{d:Nat}{v:V}(h:HU d v=true)(a:aI v≠ .none):aS d (aI v)=false:=by
 unfold HU at h; split at h
 ·rename_i e; exact absurd e a
 ·simpa using h
theorem AC{d t:Nat}(h:IS d (.tmp t)=true):t≠d:=fun e=>by subst e; simp [IS,z42]at h

section
variable {P:Program} {τ:TypeId→Option TI} {F:FA} {o:Oper} {b b':B} {x x':D} {d:Nat}

theorem aK{α:Type}{c:Bool}{a:Option α}{y:α}(h:(bif c then a else none)=some y):c=true∧a=some y:=by
 cases c with
 | true=>exact⟨rfl,h⟩
 | false=>cases h

theorem SX(z:Ag F b x){v:Operand}{g:Bool}(K:o.dst=some d)(ho:o.op= .assign v∨o.op= .move v)(h1:yN F x d v=some x')(q:TP F b d g v=some b'):OpS P F F.n o b x b' x':=by
 obtain⟨c,q⟩:=aK q; simp only[z7]at c; obtain⟨⟨⟨G,p⟩,H⟩,C⟩:=c; cases q; unfold yN at h1; obtain⟨A,h1⟩:=aK h1; obtain⟨I,rfl⟩:=cH h1; have l:aI (ev x.sl v)≠ .none→aS d (aI (ev x.sl v))=false:=fun h=>by
  have:=Oq z p h; rw[this]at h ⊢; exact Ks H h
 have r: ∀m∈QZ F b d g v, ∃t k j,v= .tmp t∧m=(.s t k j, .s d k j)∧ ∃y,(x.sl t).leaf k j=some y:=fun m a=>by
  cases v with
  | tmp t=>
   simp only[QZ]at a; cases g with
   | false=>simp at a
   | true=>
    simp only[z15,z49]at a; obtain⟨⟨k,j⟩,a,rfl⟩:=a; have a:=(z73.1 a).1; refine⟨t,k,j,rfl,rfl, ?_⟩
    have M:x.sl t≠ .tup []:=Io A; exact rJ (z.fits p M) a
  | _=>simp [QZ]at a
 refine OpS.put z I (fun g0 w0=> ?_) (fun m a=> ?_)
 ·have h0: ∀L:List (Nat×Nat),(∀m∈L, ∃t,v= .tmp t∧t≠d∧ ∃y,(x.sl t).leaf m.1 m.2=some y)→_:=fun L J=>Tq (P:=P) (g0:=g0) (w0:=w0) (st:=b.S F.n x) L K (bK G) ho (by rw[pU p]; exact l) (fun m a=>by
   obtain⟨t,rfl,h1,y,q⟩:=J m a; exact⟨t,rfl,h1,y,by rw[St.at_s,qO p]; exact q⟩)
  rw[pU p,tB]at h0; cases v with
  | tmp t=>
   cases g with
   | true=>
    exact h0 (holds F b t) (fun m a=>by
     obtain⟨N,k,j,e,E,y,w⟩:=r (.s t m.1 m.2, .s d m.1 m.2) (List.mem_map_of_mem (f:=fun m=>(Loc.s t m.1 m.2,Loc.s d m.1 m.2)) a)
     cases e; simp only[z38,Loc.s.injEq]at E; obtain⟨⟨_,rfl,rfl⟩,_⟩:=E; exact⟨t,rfl,AC C,y,w⟩)
   | false=>exact h0 [] (fun m a=>by simp at a)
  | const u=>exact h0 [] (fun m a=>by simp at a)
  | func f=>exact h0 [] (fun m a=>by simp at a)
  | global i=>exact h0 [] (fun m a=>by simp at a)
 ·obtain⟨t,k,j,rfl,rfl,y,w⟩:=r m a
  exact⟨⟨p,by simp [aS,AC C],y,w⟩,k,j,rfl,y,w⟩

def uC(F:FA)(x:D)(d:Nat):Operand→Option D
 | .tmp t=>match x.sl t with
  | .one (.c (.sl _))=>sM F x d (.one (.al (.s t 0 0) []))
  | _=>none
 | _=>none
def OE(F:FA)(b:B)(d:Nat):Operand→Option B
 | .tmp t=>bif Nat.blt d F.n&&b.has t&& !(Nat.beq t d)&&(b.kd (.s t 0 0)).hold then some ((b.put F d (fun _ _=> .F)).nrm F)else none
 | _=>none

theorem UZ(k:Ag F b x){v:Operand}(l:o.dst=some d)(ho:o.op= .move v)(h1:uC F x d v=some x')(a:OE F b d v=some b'):OpS P F F.n o b x b' x':=by
 cases v with
 | tmp t=>
  simp only[OE]at a; obtain⟨c,a⟩:=aK a; simp only[z7]at c; obtain⟨⟨⟨f,g⟩,h⟩,i⟩:=c; cases a; simp only[uC]at h1; split at h1<;>try cases h1
  rename_i r q; obtain⟨j,rfl⟩:=cH h1; refine OpS.put (M:=[]) k j (fun g0 w0=> ?_) (fun m p=>by simp at p)
  exact SH l (bK f) ho (fun e=>by subst e; simp [z42]at h) (by rw[qO g]; exact q) i
 | _=>cases a

def qM(F:FA)(x:D)(d k:Nat):Operand→Option D
 | .tmp t=>match x.sl t with
  | .tup a=>match a[k]? with | some w=>sM F x d (.one w) | none=>none
  | _=>none
 | _=>none
def Hd(F:FA)(b:B)(d k:Nat):Operand→Option B
 | .tmp t=>bif Nat.blt d F.n&&b.has t&& !(Nat.beq t d)&&decide (aI (F.shOf d)= .none)then
   some (((b.put F d (fun _ j=>(b.kd (.s t k j)).cp)).mvs F (((nR (F.shOf d)).filter fun m=>(b.kd (.s t k m.2)).hold).map fun m=>(.s t k m.2, .s d 0 m.2))).nrm F)else none
 | _=>none

theorem CB{s:V}{w:W}(h:Own.fits (.one w) s=true){k j:Nat}(a:(k,j)∈nR s):k=0:=by
 cases s with
 | tup c=>simp [Own.fits]at h
 | one y=>
  simp only[nR,z49,z38,exists_eq_right_right]at a; exact a.2.symm

theorem Ps(G:Ag F b x){v:Operand}{k:Nat}(H:o.dst=some d)(ho:o.op= .extract v k)(h1:qM F x d k v=some x')(h:Hd F b d k v=some b'):OpS P F F.n o b x b' x':=by
 cases v with
 | tmp t=>
  simp only[Hd]at h; obtain⟨c,h⟩:=aK h; simp only[z7]at c; obtain⟨⟨⟨A,q⟩,C⟩,E⟩:=c; cases h; simp only[qM]at h1; split at h1<;>try cases h1
  rename_i K u; split at h1<;>try cases h1
  rename_i w z; obtain⟨g,rfl⟩:=cH h1; have i:t≠d:=fun e=>by subst e; simp [z42]at C
  have r: ∀j,(0,j)∈nR (F.shOf d)→ ∃y,w.leaf j=some y:=fun j p=>by
   obtain⟨y,l⟩:=rJ g p; exact⟨y,l⟩
  refine OpS.put G g (fun g0 w0=> ?_) (fun m f=> ?_)
  ·have:=NE (P:=P) (g0:=g0) (w0:=w0) (st:=b.S F.n x) (((nR (F.shOf d)).filter fun m=>(b.kd (.s t k m.2)).hold).map (·.2)) H (bK A) ho i (by rw[qO q]; exact u) z
    (by rw[eF g]; exact of_decide_eq_true E) (fun j p=>by
     obtain⟨⟨I,J⟩,f,rfl⟩:=z49.1 p; have f:=(z73.1 f).1; have:=CB g f; subst this; exact r _ f)
   rw[Vn]at this; exact this
  ·obtain⟨⟨I,j⟩,a,rfl⟩:=z49.1 f
   have a:=(z73.1 a).1; have:=CB g a; subst this; obtain⟨y,l⟩:=r _ a; exact⟨⟨q,by simp [aS,i],y,by simp [D.at,atL,u,V.leaf,z,l]⟩,0,j,rfl,y,l⟩
 | _=>cases h
end

section
variable {P:Program} {τ:TypeId→Option TI} {F:FA} {o:Oper} {b b':B} {x x':D} {d:Nat}

theorem OpS.put0(c:Ag F b x){r:V}{κ:Nat→Nat→K}(f:Own.fits r (F.shOf d)=true)(h: ∀g0 w0,qD P g0 w0 o (b.S F.n x) ((b.S F.n x).put d r κ)):OpS P F F.n o b x ((b.put F d κ).nrm F) (x.put d r):=
 OpS.put (M:=[]) c f h (fun m e=>by simp at e)

def FH(F:FA)(x:D)(d:Nat)(c y z:Operand):Option D:=
 match ev x.sl c with
 | .one (.c (.bool true))=>(match ev x.sl y with | .one (.c r)=>bif scal r then sM F x d (.one (.c r))else none | _=>none)
 | .one (.c (.bool false))=>(match ev x.sl z with | .one (.c r)=>bif scal r then sM F x d (.one (.c r))else none | _=>none)
 | _=>none
def Vh(F:FA)(b:B)(d:Nat)(c y z:Operand):Option B:=bif Nat.blt d F.n&&dN b c&&dN b y&&dN b z then some ((b.put F d (fun _ _=> .S)).nrm F)else none

theorem Wa(m:Ag F b x){c y z:Operand}(q:o.dst=some d)(ho:o.op= .pick c y z)(h1:FH F x d c y z=some x')(h:Vh F b d c y z=some b'):OpS P F F.n o b x b' x':=by
 obtain⟨p,h⟩:=aK h; simp only[z7]at p; obtain⟨⟨⟨k,l⟩,s⟩,t⟩:=p; cases h; unfold FH at h1; split at h1
 ·rename_i f
  split at h1<;>try cases h1
  rename_i r i; obtain⟨j,h1⟩:=aK h1; obtain⟨g,rfl⟩:=cH h1; refine OpS.put0 m g (fun g0 w0=> ?_)
  exact OY (b:=true) (r1:=r) (r2:=r) q (bK k) ho (by rw[pU l]; exact f) (fun _=>⟨by rw[pU s]; exact i,j⟩) (fun e=>by cases e)
 ·rename_i f
  split at h1<;>try cases h1
  rename_i r i; obtain⟨j,h1⟩:=aK h1; obtain⟨g,rfl⟩:=cH h1; refine OpS.put0 m g (fun g0 w0=> ?_)
  exact OY (b:=false) (r1:=r) (r2:=r) q (bK k) ho (by rw[pU l]; exact f) (fun e=>by cases e) (fun _=>⟨by rw[pU t]; exact i,j⟩)
 ·cases h1

def vQ(τ:TypeId→Option TI)(F:FA)(x:D)(d:Nat)(s:TypeId)(v:Operand)(f:Nat):Option D:=
 match tk τ s with
 | some (.struct fs)=>(match fs[f]? with
  | some q=>(match BJ (q.1,q.2.1) (ev x.sl v)with | some r=>sM F x d r | none=>none)
  | none=>none)
 | _=>none
def Ia(F:FA)(b:B)(d:Nat)(v:Operand):Bool:=match nU F v with
 | .one (.pp l _ _ _)=>(match aI (nU F v)with | .none=>false | _=>true)&& !(aS d l)&& !(decide (Fz b v 0 0= .D))
 | .one (.al _ _)=>false
 | _=>true
def Se(F:FA)(b:B)(d:Nat)(v:Operand):Option B:=bif Nat.blt d F.n&&dN b v&&Ia F b d v then some ((b.put F d (fun _ _=>Fz b v 0 0)).nrm F)else none

theorem Cc{F:FA}{b:B}{x:D}(w:Ag F b x){v:Operand}(z:dN b v=true)(h:Ia F b d v=true){l:Loc}{p:List (Nat×Nat)}{i j:Nat}(c:ev x.sl v= .one (.pp l p i j)):l≠ .none∧aS d l=false∧Fz b v 0 0≠ .D:=by
 cases v with
 | tmp t=>
  have f:=w.fits z (t:=t) (by have c:x.sl t=_:=c; rw[c]; simp)
  have c:x.sl t=_:=c; rw[c]at f; have g: ∃q m ,F.shOf t= .one (.pp l q m j):=by
   cases hsh:F.shOf t with
   | tup A=>rw[hsh]at f; simp [Own.fits]at f
   | one y=>
    rw[hsh]at f; cases y<;>simp [Own.fits,bO]at f
    obtain⟨⟨rfl,_⟩,e⟩:=f; subst e; exact⟨_,_,rfl⟩
  obtain⟨q,m,g⟩:=g; unfold Ia at h; have k:nU F (.tmp t)= .one (.pp l q m j):=g; rw[k]at h; simp only[aI,z7]at h; obtain⟨⟨h1,r⟩,s⟩:=h; refine⟨fun e=> ?_,by simpa using r,by simpa using s⟩
  subst e; simp at h1
 | const u=>exact absurd (yP u) (by have c:bE u=_:=c; rw[c]; intro e; have:l= .none:=e; subst this; unfold bE at c; (repeat' split at c)<;>cases c)
 | _=>cases c

theorem UK(C:aX P τ)(m:Ag F b x){s:TypeId}{v:Operand}{f:Nat}(E:o.dst=some d)(ho:o.op= .fieldAddr s v f)(h1:vQ τ F x d s v f=some x')(k:Se F b d v=some b'):OpS P F F.n o b x b' x':=by
 obtain⟨w,k⟩:=aK k; simp only[z7]at w; obtain⟨⟨z,g⟩,u⟩:=w; cases k; unfold vQ at h1; split at h1<;>try cases h1
 rename_i fs t; split at h1<;>try cases h1
 rename_i q G; split at h1<;>try cases h1
 rename_i r h; obtain⟨A,rfl⟩:=cH h1; obtain⟨off,size,y⟩:=q; refine OpS.put0 m A (fun g0 w0=> ?_)
 have h0:=Ju (g0:=g0) (w0:=w0) (st:=b.S F.n x) C E (bK z) ho t G (r:=r) (by rw[pU g]; exact h) (by
  rw[pU g,tB]; intro c; unfold BJ at h; split at h<;>try cases h
  ·rename_i e; rw[e]at c; exact absurd rfl c
  ·rename_i e; rw[e]at c; exact absurd rfl c
  ·rename_i l p i j e
   obtain⟨a1,a2,a3⟩:=Cc m g u e; rw[e]; exact⟨a2,a3⟩) (by
  rw[pU g]; intro l p i j e; exact(Cc m g u e).1)
 rw[tB]at h0; exact h0

def Mg(F:FA)(x:D)(d:Nat)(v:Operand):Option D:=match ev x.sl v with
 | .one (.ptr o p)=>sM F x d (.one (.ptr o p))
 | .one (.cp xs)=>sM F x d (.one (.cp xs))
 | .one (.fn f cs)=>sM F x d (.one (.fn f cs))
 | .one (.pp l p i j)=>sM F x d (.one (.pp l p i j))
 | _=>none
def cNil(F:FA)(b:B)(d:Nat)(v:Operand):Option B:=bif Nat.blt d F.n&&dN b v&&Ia F b d v then some ((b.put F d (Fz b v)).nrm F)else none

theorem nil_S(h:Ag F b x){v:Operand}(q:o.dst=some d)(ho:o.op= .nilCheck v)(h1:Mg F x d v=some x')(f:cNil F b d v=some b'):OpS P F F.n o b x b' x':=by
 obtain⟨i,f⟩:=aK f; simp only[z7]at i; obtain⟨⟨k,c⟩,m⟩:=i; cases f; have g:Own.fits (ev x.sl v) (F.shOf d)=true∧x'=x.put d (ev x.sl v)∧match ev x.sl v with | .one (.ptr _ _)=>True | .one (.cp _)=>True | .one (.fn _ _)=>True | .one (.pp l _ _ _)=>l≠ .none∧aS d l=false∧Fz b v 0 0≠ .D | _=>False:=by
  unfold Mg at h1; split at h1<;>try cases h1
  all_goals
   rename_i j; obtain⟨e,rfl⟩:=cH h1; rw[j]; refine⟨e,rfl, ?_⟩
   first | trivial | exact Cc h c m j
 obtain⟨e,rfl,p⟩:=g; refine OpS.put0 h e (fun g0 w0=> ?_)
 have h0:=Kv (P:=P) (g0:=g0) (w0:=w0) (st:=b.S F.n x) q (bK k) ho (by rw[pU c,tB]; exact p)
 rw[tB,pU c]at h0; exact h0

def Je(F:FA)(x:D)(d:Nat)(f:FuncId)(caps:Array Operand):Option D:=match FU (caps.toList.map (ev x.sl))with
 | some cs=>sM F x d (.one (.fn f cs))
 | none=>none
def Vi(F:FA)(b:B)(d:Nat)(caps:Array Operand):Option B:=bif Nat.blt d F.n&&caps.toList.all (dN b)then some ((b.put F d (fun _ _=> .S)).nrm F)else none

theorem Wq(k:Ag F b x){f:FuncId}{caps:Array Operand}(l:o.dst=some d)(ho:o.op= .makeFunc (.func f) #[] caps)(h1:Je F x d f caps=some x')(c:Vi F b d caps=some b'):OpS P F F.n o b x b' x':=by
 obtain⟨g,c⟩:=aK c; simp only[z7]at g; obtain⟨h,i⟩:=g; cases c; unfold Je at h1; split at h1<;>try cases h1
 rename_i cs e; obtain⟨j,rfl⟩:=cH h1; refine OpS.put0 k j (fun g0 w0=> ?_)
 have m:caps.toList.map (ev (b.S F.n x).sl)=caps.toList.map (ev x.sl):=z52 fun v p=>pU (z18.1 i v p)
 exact LA l (bK h) ho (by rw[m]; exact e)

def kn(b:B)(F:FA):Operand→Bool
 | .tmp t=>b.has t&&(match aI (F.shOf t)with | .none=>true | l=>b.hasL l)
 | _=>true

def KA(F:FA)(b:B)(m:Bool):Operand→Bool
 | .tmp t=>match F.shOf t with
  | .one (.al _ _)=> !m&& !(decide (b.kd (.s t 0 0)= .D))
  | .one (.pp _ _ _ _)=>false
  | .one (.c z)=>scal z||(match b.kd (.s t 0 0)with | .D=>false | .F=>true | .S=>true | .N=>true | _=> !m)
  | .one (.cp _)=>(match b.kd (.s t 0 0)with | .D=>false | .F=>true | _=> !m)
  | _=>true
 | _=>true

theorem KJ(q:Ag F b x){n:Nat}{m:Bool}{v:Operand}(k:dN b v=true)(h:KA F b m v=true):Rdy (b.S n x) m v:=by
 cases v with
 | tmp t=>
  have g:(b.S n x).sl t=x.sl t:=qO k; have f:(b.S n x).fl (.s t 0 0)=b.kd (.s t 0 0):=rfl; simp only[Rdy]; rw[g,f]; rcases q.sl t k with e | e
  ·rw[e]; trivial
  ·simp only[KA]at h
   cases hv:x.sl t with
   | tup r=>trivial
   | one w=>
    rw[hv]at e; cases hs:F.shOf t with
    | tup r=>rw[hs]at e; simp [Own.fits]at e
    | one y=>
     rw[hs]at e h; cases w with
     | c z=>
      cases y<;>simp [Own.fits,bO]at e
      rename_i y; simp only[z48]at h; rcases h with h | h
      ·exact .inl ((AL e).trans h)
      ·right
       cases hq:b.kd (.s t 0 0)<;>rw[hq]at h<;>cases m<;>simp_all
     | cp xs=>
      cases y<;>simp [Own.fits,bO]at e
      cases hq:b.kd (.s t 0 0)<;>rw[hq]at h<;>cases m<;>simp_all
     | al l p=>
      cases y<;>simp [Own.fits,bO]at e
      simpa using h
     | pp l p i j=>
      cases y<;>simp [Own.fits,bO]at e
      cases h
     | _=>trivial
 | _=>trivial

def evD(x:D)(v:Operand):V:=vD x.sl x.ob (ev x.sl v)

theorem zT{v:Operand}(h:kn b F v=true):dN b v=true:=by
 cases v with
 | tmp t=>simp only[kn,z7]at h; exact h.1
 | _=>rfl

theorem UB(i:Ag F b x){v:Operand}(h:kn b F v=true)(c:aI (ev x.sl v)≠ .none):b.hasL (aI (ev x.sl v))=true:=by
 cases v with
 | tmp t=>
  simp only[kn,z7]at h; have e:=Oq i (v:= .tmp t) h.1 c; have g:=h.2; rw[e]at c ⊢; have f:aI (F.shOf t)≠ .none:=c; show b.hasL (aI (F.shOf t))=true; split at g
  ·rename_i e; exact absurd e f
  ·exact g
 | const u=>exact absurd (yP u) c
 | _=>exact absurd rfl c

theorem NZ(f:Ag F b x){n:Nat}{v:Operand}(h:kn b F v=true):evR (b.S n x) v=evD x v:=by
 unfold evR evD; rw[pU (zT h)]; generalize c:ev x.sl v=y; cases y with
 | tup i=>rfl
 | one w=>
  cases w with
  | al l p=>
   have g:l≠ .none→b.hasL l=true:=fun e=>by have:=UB f h (by rw[c]; exact e); rw[c]at this; exact this
   simp only[vD]; have:atL (b.S n x).sl (b.S n x).ob l=atL x.sl x.ob l:=by
    by_cases e:l= .none
    ·subst e; rfl
    ·exact Ig (n:=n) (g e)
   rw[this]
  | _=>rfl

def pT(τ:TypeId→Option TI)(F:FA)(x:D)(d:Nat)(op:Op):Option D:=match iN τ (evD x) op with
 | some r=>sM F x d (.one (.c r))
 | none=>none
def Vg(F:FA):Op→Bool
 | .binOp _ _ _ y _=>(match y with | .const _=>true | .tmp t=>(match F.shOf t with | .one (.ifc _)=>false | _=>true) | _=>true)
 | _=>true
def LM(F:FA)(b:B)(d:Nat)(op:Op):Option B:=
 bif Nat.blt d F.n&&op.operands.toList.all (kn b F)&&Vg F op&&op.operands.toList.all (KA F b false)then
  some ((b.put F d (fun _ _=>bif Jc op&&(match F.shOf d with | .one (.c z)=> !(scal z) | _=>true)then(bif op.operands.toList.all (KA F b true)then .F else .V)else .S)).nrm F)else none
end

theorem Hu{ρ ρ':Operand→V}{len:Nat}{c a e:Option Operand}(h1: ∀x,c=some x→ρ x=ρ' x)(f: ∀x,a=some x→ρ x=ρ' x)(g: ∀x,e=some x→ρ x=ρ' x):nN ρ len c a e=nN ρ' len c a e:=by
 cases c<;>cases a<;>cases e<;>simp only[nN]<;>first | rfl | (try rw[h1 _ rfl])<;>(try rw[f _ rfl])<;>(try rw[g _ rfl])

theorem yH{τ:TypeId→Option TI}{ρ ρ':Operand→V}(o:Op)(h: ∀x∈o.operands,ρ x=ρ' x):iN τ ρ o=iN τ ρ' o:=by
 cases o with
 | binOp op t x y u=>simp only[Op.operands]at h; simp only[iN,h x (by simp),h y (by simp)]
 | unOp op t x=>simp only[Op.operands]at h; simp only[iN,h x (by simp)]
 | convert s d x=>simp only[Op.operands]at h; simp only[iN,h x (by simp)]
 | index t x i=>simp only[Op.operands]at h; simp only[iN,h x (by simp),h i (by simp)]
 | slice t x k j q=>
  simp only[Op.operands]at h
  have e: ∀n g,(g=none∨g=q)→nN ρ n k j g=nN ρ' n k j g:=fun n g m=>Hu (fun y f=>h y (by subst f; simp)) (fun y f=>h y (by subst f; simp)) (fun y f=>h y (by
   rcases m with rfl | rfl
   ·cases f
   ·subst f; simp))
  simp only[iN,h x (by simp),e _ _ (.inl rfl),e _ _ (.inr rfl)]
 | call c=>
  simp only[Op.operands,Call.operands]at h; have e: ∀x∈c.args.toList,ρ x=ρ' x:=fun x p=>h x (by simp; exact .inr (by simpa using p))
  simp only[iN]; split
  ·rename_i x t h1 a r
   rw[e x (by rw[a]; simp)]
  ·rename_i l x y h1 a
   rw[e x (by rw[a]; simp),e y (by rw[a]; simp)]
  ·rename_i l x y h1 a
   rw[e x (by rw[a]; simp),e y (by rw[a]; simp)]
  ·rfl
 | _=>rfl

section
variable {P:Program} {τ:TypeId→Option TI} {F:FA} {o:Oper} {b b':B} {x x':D} {d:Nat}

theorem Pr{r z:T}(h:Own.fits (.one (.c r)) (.one (.c z))=true):scal r=scal z:=AL h

theorem Nr(N:aX P τ)(l:Ag F b x)(O:o.dst=some d)(h1:pT τ F x d o.op=some x')(a:LM F b d o.op=some b'):OpS P F F.n o b x b' x':=by
 unfold LM at a; obtain⟨I,a⟩:=aK a; simp only[z7]at I; obtain⟨⟨⟨K,L⟩,A⟩,M⟩:=I; unfold pT at h1; split at h1<;>try cases h1
 rename_i r Q; obtain⟨h,rfl⟩:=cH h1; have E: ∀v∈o.op.operands,kn b F v=true:=fun v k=>z18.1 L v (by simpa using k)
 have p: ∀v∈o.op.operands,evR (b.S F.n x) v=evD x v:=fun v k=>NZ l (E v k)
 have C: ∀op t v y u,o.op= .binOp op t v y u→evR (b.S F.n x) y= .one (.ifc true)→ ∃c,y= .const c:=by
  intro op t v y u ho e; rw[ho]at A; rw[p y (by rw[ho]; simp [Op.operands])]at e
  cases y with
  | const c=>exact⟨c,rfl⟩
  | tmp t=>
   exfalso
   have G:=E (.tmp t) (by rw[ho]; simp [Op.operands])
   have J:x.sl t= .one (.ifc true):=by
    have e:vD x.sl x.ob (x.sl t)= .one (.ifc true):=e; unfold vD at e; split at e
    ·split at e<;>cases e
    ·exact e
   have q:=l.fits (zT G) (t:=t) (by rw[J]; simp)
   rw[J]at q; simp only[Vg]at A; cases hs:F.shOf t with
   | tup R=>rw[hs]at q; simp [Own.fits]at q
   | one z=>
    rw[hs]at q A; cases z<;>simp [Own.fits,bO]at q
    cases A
  | func f=>cases e
  | global i=>cases e
 have j: ∀m:Bool,(∀v∈o.op.operands.toList,KA F b m v=true)→ ∀g0 w0,qD P g0 w0 o (b.S F.n x) ((b.S F.n x).put d (.one (.c r)) (fun _ _=>if Jc o.op&& !scal r then(if m then .F else .V)else .S)):=fun m s g0 w0=>
  Th N O (bK K) (fun v k=>KJ l (zT (E v k)) (s v (by simpa using k))) C (by rw[yH o.op p]; exact Q)
 have w: ∀z,F.shOf d= .one (.c z)→scal r=scal z:=fun z hz=>by rw[hz]at h; exact Pr h
 have g: ∃z,F.shOf d= .one (.c z):=by
  cases hs:F.shOf d with
  | tup R=>rw[hs]at h; simp [Own.fits]at h
  | one z=>
   rw[hs]at h; cases z<;>simp [Own.fits,bO]at h
   exact⟨_,rfl⟩
 obtain⟨z,hz⟩:=g; have H:=w z hz; rw[hz]at a; simp only at a; rw[←H]at a; cases s:o.op.operands.toList.all (KA F b true)with
 | true=>
  rw[s]at a; cases a; refine OpS.put0 l h (fun g0 w0=> ?_)
  have:=j true (z18.1 s) g0 w0; cases hb:(Jc o.op&& !scal r)with
  | true=>rw[hb]at this; exact this
  | false=>rw[hb]at this; exact this
 | false=>
  rw[s]at a; cases a; refine OpS.put0 l h (fun g0 w0=> ?_)
  have:=j false (z18.1 M) g0 w0; cases hb:(Jc o.op&& !scal r)with
  | true=>rw[hb]at this; exact this
  | false=>rw[hb]at this; exact this

def idx(τ:TypeId→Option TI)(e:TypeId)(a:List (List T))(n:Int):Option (List T):=match τ e with
 | some ei=>if 0≤n then(match a[n.toNat]? with | some row=>bif Nat.beq row.length ei.size then some row else none | none=>none)else none
 | none=>none

theorem Cb{e:TypeId}{c:List (List T)}{n:Int}{row:List T}(h:idx τ e c n=some row): ∃a,τ e=some a∧0≤n∧c[n.toNat]? =some row∧row.length=a.size:=by
 unfold idx at h; split at h<;>try cases h
 rename_i a g; split at h<;>try cases h
 rename_i hn; split at h<;>try cases h
 rename_i f i; obtain⟨j,h⟩:=aK h; cases h; exact⟨a,g,hn,i,z14 j⟩

def pD(τ:TypeId→Option TI)(F:FA)(x:D)(d:Nat)(t:TypeId)(v i:Operand):Option D:=
 match tk τ t,ev x.sl i with
 | some (.sl e), .one (.c (.int _ n))=>(match ev x.sl v with
  | .one (.al l p)=>(match(x.at l).bind (nav · p)with
   | some (.sl a)=>(match idx τ e a n with | some _=>sM F x d (.one (.pp l p n.toNat 0)) | none=>none)
   | _=>none)
  | .one (.c (.sl a))=>(match idx τ e a n with | some row=>sM F x d (.one (.cp row)) | none=>none)
  | _=>none)
 | some (.arr len e), .one (.c (.int _ n))=>(match ev x.sl v,τ e with
  | .one (.ptr ob p),some ei=>if 0≤n∧n<len then sM F x d (.one (.ptr ob (p+n.toNat*ei.size)))else none
  | _,_=>none)
 | _,_=>none

def CV(F:FA)(b:B)(d:Nat):Operand→Bool
 | .tmp t=>match F.shOf t with
  | .one (.al l _)=>(match l with | .none=>false | _=>true)&& !(aS d l)&& !(decide (b.kd (.s t 0 0)= .D))&&b.hasL l
  | .one (.pp l _ _ _)=>(match l with | .none=>false | _=>true)&& !(aS d l)&& !(decide (b.kd (.s t 0 0)= .D))&&b.hasL l
  | _=>true
 | _=>true

theorem sV(q:Ag F b x){t:Nat}(r:b.has t=true)(h:CV F b d (.tmp t)=true){l:Loc}(a:(∃p,x.sl t= .one (.al l p))∨ ∃p i j,x.sl t= .one (.pp l p i j)):l≠ .none∧aS d l=false∧b.kd (.s t 0 0)≠ .D∧b.hasL l=true:=by
 have c:=q.fits r (t:=t) (by rcases a with⟨p,a⟩ | ⟨p,i,j,a⟩<;>(rw[a]; simp))
 simp only[CV]at h; have f: ∀l':Loc,((match l' with | .none=>false | _=>true)&& !(aS d l')&& !(decide (b.kd (.s t 0 0)= .D))&&b.hasL l')=true→l=l'→l≠ .none∧aS d l=false∧b.kd (.s t 0 0)≠ .D∧b.hasL l=true:=by
  rintro l' h rfl
  simp only[z7]at h; obtain⟨⟨⟨h1,g⟩,k⟩,m⟩:=h; exact⟨fun e=>(by subst e; cases h1),by simpa using g,by simpa using k,m⟩
 cases hs:F.shOf t with
 | tup u=>rcases a with⟨p,a⟩ | ⟨p,i,j,a⟩<;>(rw[a,hs]at c; simp [Own.fits]at c)
 | one y=>
  rw[hs]at c h; rcases a with⟨p,a⟩ | ⟨p,i,j,a⟩
  ·rw[a]at c
   cases y<;>simp [Own.fits,bO]at c
   exact f _ h c.1
  ·rw[a]at c
   cases y<;>simp [Own.fits,bO]at c
   exact f _ h c.1.1

def Kl(F:FA)(b:B)(d:Nat)(v i:Operand):Option B:=
 bif Nat.blt d F.n&&dN b v&&dN b i then
  match nU F v with
  | .one (.al _ _)=>bif CV F b d v then some ((b.put F d (fun _ _=> .F)).nrm F)else none
  | .one (.c _)=>bif kn b F v&&KA F b false v then some ((b.put F d (fun _ _=>bif KA F b true v then .F else .V)).nrm F)else none
  | .one (.ptr _ _)=>some ((b.put F d (fun _ _=> .S)).nrm F)
  | _=>none
 else none

theorem AW(f:Ag F b x){v:Operand}(h:dN b v=true){y:W}(a:ev x.sl v= .one y)(g:y≠ .junk):Own.fits (.one y) (nU F v)=true∨(∀t,v≠ .tmp t)∧nU F v= .one y:=by
 cases v with
 | tmp t=>
  have c:x.sl t=_:=a; left
  rw[←a]; exact f.fits h (by rw[c]; simpa using g)
 | _=>exact .inr ⟨fun _ e=>(by cases e),a⟩

theorem evD_c{v:Operand}{z:T}(h:ev x.sl v= .one (.c z)):evD x v= .one (.c z):=by unfold evD; rw[h]; rfl

theorem UE(L:aX P τ)(r:Ag F b x){t:TypeId}{v i:Operand}(M:o.dst=some d)(ho:o.op= .indexAddr t v i)(h1:pD τ F x d t v i=some x')(j:Kl F b d v i=some b'):OpS P F F.n o b x b' x':=by
 unfold Kl at j; obtain⟨Y,j⟩:=aK j; simp only[z7]at Y; obtain⟨⟨J,A⟩,K⟩:=Y; unfold pD at h1; split at h1
 ·rename_i e k n s I
  split at h1
  ·-- a place's slice
   rename_i l p g; split at h1<;>try cases h1
   rename_i es h; split at h1<;>try cases h1
   rename_i row q; obtain⟨E,rfl⟩:=cH h1; obtain⟨X,Q,R,T,U⟩:=Cb q; cases v with
   | tmp W=>
    rcases AW r A g (by simp)with f | ⟨hn,_⟩
    ·have a: ∃H,nU F (.tmp W)= .one (.al l H):=by
      cases a:nU F (.tmp W)with
      | tup Z=>rw[a]at f; simp [Own.fits]at f
      | one y=>
       rw[a]at f; cases y<;>simp [Own.fits,bO]at f
       obtain⟨rfl,_⟩:=f; exact⟨_,rfl⟩
     obtain⟨H,a⟩:=a; rw[a]at j; obtain⟨C,j⟩:=aK j; cases j; obtain⟨a1,a2,a3,a4⟩:=sV r A C (.inl ⟨p,g⟩); simp only[z19]at h; obtain⟨x0,O,h⟩:=h; refine OpS.put0 r E (fun g0 w0=> ?_)
     exact Hq L M (bK J) ho s Q (by rw[qO A]; exact g) a1 a3 a2 (by rw[Ig a4]; exact O) h (by rw[pU K]; exact I) R T U
    ·exact absurd rfl (hn W)
   | const u=>exact absurd (yP u) (by have g:bE u=_:=g; unfold bE at g; (repeat' split at g)<;>cases g)
   | _=>cases g
  ·-- a slice that is read
   rename_i es g; split at h1<;>try cases h1
   rename_i row q; obtain⟨E,rfl⟩:=cH h1; obtain⟨X,Q,R,T,U⟩:=Cb q; have a: ∃z,nU F v= .one (.c z):=by
    rcases AW r A g (by simp)with f | ⟨_,a⟩
    ·cases a:nU F v with
     | tup Z=>rw[a]at f; simp [Own.fits]at f
     | one y=>
      rw[a]at f; cases y<;>simp [Own.fits,bO]at f
      exact⟨_,rfl⟩
    ·exact⟨_,a⟩
   obtain⟨z,a⟩:=a; rw[a]at j; obtain⟨C,j⟩:=aK j; simp only[z7]at C; cases j; have w: ∀m:Bool,KA F b m v=true→ ∀g0 w0,qD P g0 w0 o (b.S F.n x) ((b.S F.n x).put d (.one (.cp row)) (fun _ _=>if m then .F else .V)):=fun m N g0 w0=>
    Jr L M (bK J) ho s Q (by rw[NZ r C.1]; exact evD_c g) (KJ r A N) (by rw[pU K]; exact I) R T U
   refine OpS.put0 r E (fun g0 w0=> ?_)
   cases N:KA F b true v with
   | true=>exact w true N g0 w0
   | false=>exact w false C.2 g0 w0
  ·cases h1
 ·-- an object's array
  rename_i len e k n s I; split at h1<;>try cases h1
  rename_i ob p X g he; split at h1<;>try cases h1
  rename_i hn; obtain⟨E,rfl⟩:=cH h1; have a: ∃G H,nU F v= .one (.ptr G H):=by
   rcases AW r A g (by simp)with f | ⟨_,a⟩
   ·cases a:nU F v with
    | tup Z=>rw[a]at f; simp [Own.fits]at f
    | one y=>
     rw[a]at f; cases y<;>simp [Own.fits,bO]at f
     exact⟨_,_,rfl⟩
   ·exact⟨_,_,a⟩
  obtain⟨G,H,a⟩:=a; rw[a]at j; cases j; refine OpS.put0 r E (fun g0 w0=> ?_)
  exact LE L M (bK J) ho s he (by rw[pU A]; exact g) (by rw[pU K]; exact I) hn.1 hn.2
 ·cases h1
end

def K.isA:K→Bool
 | .A _=>true
 | _=>false
theorem K.isA_of{κ:K}(h:κ.isA=true): ∃s,κ= .A s:=by cases κ<;>first | exact⟨_,rfl⟩ | cases h

section
variable {P:Program} {τ:TypeId→Option TI} {F:FA} {o:Oper} {b b':B} {x x':D} {d:Nat}

theorem wF{i:TI}{xs:List T}{r:V}(h:pF i xs=some r){k j:Nat}{y:T}(a:r.leaf k j=some y):k=0∧xs[j]? =some y:=by
 unfold pF at h; split at h<;>try cases h
 split at h
 ·simp only[z9]at h
  subst h; cases k with
  | succ k=>simp [V.leaf]at a
  | zero=>
   refine⟨rfl, ?_⟩
   simp only[V.leaf,W.leaf,z66]at a
   split at a<;>simp_all
 ·split at h<;>cases h
  cases k with
  | succ k=>simp [V.leaf]at a
  | zero=>
   cases j with
   | zero=>exact⟨rfl,by simpa [V.leaf,W.leaf]using a⟩
   | succ j=>simp [V.leaf,W.leaf]at a

def Hi(τ:TypeId→Option TI)(t:TypeId):Bool:=match tk τ t with | some (.sl _)=>true | _=>false
theorem ME{t:TypeId}(h:Hi τ t=true): ∃e,tk τ t=some (.sl e):=by
 unfold Hi at h; split at h
 ·rename_i e a; exact⟨e,a⟩
 ·cases h
def slT:Option T→Bool
 | some (.sl _)=>true
 | _=>false
theorem SN{y:Option T}(h:slT y=true): ∃a,y=some (.sl a):=by
 unfold slT at h; split at h
 ·exact⟨_,rfl⟩
 ·cases h

def nS(τ:TypeId→Option TI)(F:FA)(x:D)(d:Nat)(t:TypeId)(v:Operand)(al:Bool):Option D:=
 match τ t,ev x.sl v with
 | some i, .one (.ptr ob p)=>(match x.ob ob with
  | some cells=>bif al then(bif Hi τ t&&slT (cells[p]?)then sM F x d (.one (.al (.oc ob p) []))else none)
   else(match pF i (cells.drop p)with | some r=>sM F x d r | none=>none)
  | none=>none)
 | some i, .one (.cp xs)=>(match pF i xs with | some r=>sM F x d r | none=>none)
 | some i, .one (.pp l p n j)=>(match(x.at l).bind (nav · p)with
  | some (.sl es)=>(match es[n]? with
   | some row=>bif al then(bif Hi τ t&&slT (row[j]?)then sM F x d (.one (.al l (p++[(n,j)])))else none)
    else(match pF i (row.drop j)with | some r=>sM F x d r | none=>none)
   | none=>none)
  | _=>none)
 | _,_=>none

def Qf(F:FA)(b:B)(d ob p:Nat)(a:Bool):List Nat:=bif a then(((nR (F.shOf d)).map (·.2)).filter fun j=>(b.kd (.oc ob (p+j))).hold)else []

def Qm(τ:TypeId→Option TI)(F:FA)(b:B)(d:Nat)(t:TypeId)(v:Operand)(al a:Bool):Option B:=
 bif Nat.blt d F.n&&dN b v then
  match τ t,nU F v with
  | some i, .one (.ptr ob p)=>
   bif al then(bif b.hasO ob&&(b.kd (.oc ob p)).hold then some ((b.put F d (fun _ _=> .F)).nrm F)else none)
   else(bif b.hasO ob then some (((b.put F d (fun _ j=>if jP i.zero j then .S else(b.kd (.oc ob (p+j))).cp)).mvs F ((Qf F b d ob p a).map fun j=>(.oc ob (p+j), .s d 0 j))).nrm F)else none)
  | some i, .one (.cp _)=>bif !(decide (Fz b v 0 0= .D))then some ((b.put F d (fun _ j=>if jP i.zero j then .S else Fz b v 0 0)).nrm F)else none
  | some i, .one (.pp l p _ _)=>bif CV F b d v then(bif al then some ((b.put F d (fun _ _=> .F)).nrm F)else some ((b.put F d (fun _ j=>if jP i.zero j then .S else bif (b.kd l).isA&&p.isEmpty then .F else .V)).nrm F))else none
  | _,_=>none
 else none

theorem Kb(e:Ag F b x){v:Operand}(f:dN b v=true){ob p:Nat}(g:ev x.sl v= .one (.ptr ob p)):nU F v= .one (.ptr ob p):=by
 rcases AW e f g (by simp)with a | ⟨_,c⟩
 ·cases c:nU F v with
  | tup h=>rw[c]at a; simp [Own.fits]at a
  | one y=>
   rw[c]at a; cases y<;>simp [Own.fits,bO]at a
   obtain⟨rfl,rfl⟩:=a; rfl
 ·exact c

theorem Us(e:Ag F b x){v:Operand}(f:dN b v=true){xs:List T}(g:ev x.sl v= .one (.cp xs)): ∃ys,nU F v= .one (.cp ys):=by
 rcases AW e f g (by simp)with a | ⟨_,c⟩
 ·cases c:nU F v with
  | tup h=>rw[c]at a; simp [Own.fits]at a
  | one y=>
   rw[c]at a; cases y<;>simp [Own.fits,bO]at a
   exact⟨_,rfl⟩
 ·exact⟨_,c⟩

theorem Qa(f:Ag F b x){v:Operand}(g:dN b v=true){l:Loc}{p:List (Nat×Nat)}{i j:Nat}(a:ev x.sl v= .one (.pp l p i j)): ∃t k h,v= .tmp t∧nU F v= .one (.pp l k h j):=by
 cases v with
 | tmp t=>
  rcases AW f g a (by simp)with c | ⟨hn,e⟩
  ·cases e:nU F (.tmp t)with
   | tup m=>rw[e]at c; simp [Own.fits]at c
   | one y=>
    rw[e]at c; cases y<;>simp [Own.fits,bO]at c
    obtain⟨⟨rfl,_⟩,rfl⟩:=c; exact⟨t,_,_,rfl,rfl⟩
  ·exact absurd rfl (hn t)
 | const u=>have a:bE u=_:=a; unfold bE at a; (repeat' split at a)<;>cases a
 | _=>cases a

theorem Wh(M:aX P τ)(z:Ag F b x){t:TypeId}{v:Operand}{al g:Bool}(N:o.dst=some d)(ho:o.op= .load t v)(h1:nS τ F x d t v al=some x')(a:Qm τ F b d t v al g=some b'):OpS P F F.n o b x b' x':=by
 unfold Qm at a; obtain⟨W,a⟩:=aK a; simp only[z7]at W; obtain⟨L,u⟩:=W; unfold nS at h1; split at h1
 ·-- an object's cells
  rename_i i ob p A h; split at h1<;>try cases h1
  rename_i cells f; rw[A,Kb z u h]at a; simp only at a; cases al with
  | true=>
   simp only[z15]at h1 a; obtain⟨q,h1⟩:=aK h1; obtain⟨G,a⟩:=aK a; simp only[z7]at q G; obtain⟨w,rfl⟩:=cH h1; cases a; obtain⟨e,R⟩:=ME q.1; obtain⟨Y,I⟩:=SN q.2; exact OpS.put0 z w (fun g0 w0=>Jp M N (bK L) ho A R (by rw[pU u]; exact h) (by rw[Lc G.1]; exact f) I G.2)
  | false=>
   simp only[z12]at h1 a; split at h1<;>try cases h1
   rename_i r H; obtain⟨w,rfl⟩:=cH h1; obtain⟨G,a⟩:=aK a; cases a; have X: ∀j∈Qf F b d ob p g, ∃y,r.leaf 0 j=some y:=fun j E=>by
    unfold Qf at E; cases g with
    | false=>simp at E
    | true=>
     simp only[z15]at E; have E:=(z73.1 E).1; obtain⟨⟨k,j'⟩,U,rfl⟩:=z49.1 E; obtain⟨y,O⟩:=rJ w U; obtain⟨rfl,_⟩:=wF H O; exact⟨y,O⟩
   refine OpS.put z w (fun g0 w0=> ?_) (fun m U=> ?_)
   ·exact Tw (st:=b.S F.n x) M (Qf F b d ob p g) N (bK L) ho A (by rw[pU u]; exact h) (by rw[Lc G]; exact f) H X
   ·obtain⟨j,E,rfl⟩:=z49.1 U
    obtain⟨y,O⟩:=X j E; obtain⟨_,Q⟩:=wF H O; exact⟨⟨G,rfl,y,by simp only[D.at,atL,f,z8]; rw[z47]at Q; exact Q⟩,0,j,rfl,y,O⟩
 ·-- cells that are read
  rename_i i xs A h; split at h1<;>try cases h1
  rename_i r H; obtain⟨w,rfl⟩:=cH h1; obtain⟨ys,q⟩:=Us z u h; rw[A,q]at a; obtain⟨G,a⟩:=aK a; cases a; refine OpS.put0 z w (fun g0 w0=> ?_)
  have:=LC (g0:=g0) (w0:=w0) (st:=b.S F.n x) M N (bK L) ho A (by rw[pU u]; exact h) (by rw[tB]; simpa using G) H
  rw[tB]at this; exact this
 ·-- a place's cells
  rename_i i l p n j A h; split at h1<;>try cases h1
  rename_i Y c; split at h1<;>try cases h1
  rename_i row C; obtain⟨tv,p',i',rfl,q⟩:=Qa z u h; rw[A,q]at a; obtain⟨Z,a⟩:=aK a; obtain⟨a1,a2,a3,a4⟩:=sV z u Z (.inr ⟨p,n,j,h⟩); simp only[z19]at c; obtain⟨x0,J,c⟩:=c; cases al with
  | true=>
   simp only[z15]at h1 a; obtain⟨q,h1⟩:=aK h1; simp only[z7]at q; obtain⟨w,rfl⟩:=cH h1; cases a; obtain⟨e,R⟩:=ME q.1; obtain⟨es',I⟩:=SN q.2; exact OpS.put0 z w (fun g0 w0=>Bn M N (bK L) ho A R (by rw[qO u]; exact h) a1 a3 a2 (by rw[Ig a4]; exact J) c C I)
  | false=>
   simp only[z12]at h1 a; split at h1<;>try cases h1
   rename_i r H; obtain⟨w,rfl⟩:=cH h1; cases a; cases hq:(b.kd l).isA&&p'.isEmpty with
   | false=>exact OpS.put0 z w (fun g0 w0=>Jo M N (bK L) ho A (by rw[qO u]; exact h) a1 a3 (by rw[Ig a4]; exact J) c C H)
   | true=>
    simp only[z7,z153]at hq; obtain⟨V,q2⟩:=hq; obtain⟨s,V⟩:=K.isA_of V; have hp:p=[]:=by
     rcases AW z u h (by simp)with T | ⟨hn,_⟩
     ·rw[q]at T
      simp only[Own.fits,bO,z7]at T; have:=z14 T.1.2; rw[q2]at this; exact z76.1 this
     ·exact absurd rfl (hn tv)
    subst hp; cases c; exact OpS.put0 z w (fun g0 w0=>Ho M N (bK L) ho A (by rw[qO u]; exact h) a1 a3 (s:=s) V (by rw[Ig a4]; exact J) C H)
 ·cases h1

def Qh(d:Nat):V→Bool
 | .one (.ptr o p)=>Nat.beq o d&&Nat.beq p 0
 | _=>false
theorem MF{d:Nat}{v:V}(h:Qh d v=true):v= .one (.ptr d 0):=by
 unfold Qh at h; split at h
 ·simp only[z7]at h
  rw[z14 h.1,z14 h.2]
 ·cases h

def CT(τ:TypeId→Option TI)(F:FA)(x:D)(d:Nat)(t:TypeId):Option D:=match τ t with
 | some i=>bif iG i.zero (F.obOf d)then some ((x.put d (.one (.ptr d 0))).setO d i.zero)else none
 | none=>none
def OD(τ:TypeId→Option TI)(F:FA)(b:B)(d:Nat)(t:TypeId):Option B:=match τ t with
 | some i=>bif Nat.blt d F.n&&Qh d (F.shOf d)then some ((b.alloc F d (DU i.zero)).nrm F)else none
 | none=>none

theorem UY(h:aX P τ)(f:Ag F b x){t:TypeId}(j:o.dst=some d)(ho:o.op= .alloc t)(h1:CT τ F x d t=some x')(a:OD τ F b d t=some b'):OpS P F F.n o b x b' x':=by
 unfold OD at a; unfold CT at h1; split at a<;>try cases a
 rename_i i g; rw[g]at h1; obtain⟨c,a⟩:=aK a; simp only[z7]at c; obtain⟨e,h1⟩:=aK h1; cases h1; cases a; have k:=MF c.2; exact OpS.fin (f.alloc k e) (fun g0 w0=>SG h j (bK c.1) ho g) (JV f (Low.self _ _ _) e (fun _=>dP _))

def RA(F:FA)(x:D)(d:Nat)(v:Operand):Option D:=match v with
 | .tmp t=>(match aT (x.sl t)with
  | some xs=>bif iG xs (F.obOf d)then some ((x.put d (.one (.ptr d 0))).setO d xs)else none
  | none=>none)
 | _=>none
def boxM(F:FA)(b:B)(d t:Nat):List Nat:=(range' 0 (F.obOf d).length).filter fun j=>(b.kd (.s t 0 j)).hold
def cBox(F:FA)(b:B)(d:Nat)(v:Operand):Option B:=match v with
 | .tmp t=>bif Nat.blt d F.n&&Qh d (F.shOf d)&&b.has t&&vS F d t then
   some (((b.alloc F d (fun j=>(b.kd (.s t 0 j)).cp)).mvs F ((boxM F b d t).map fun j=>(.s t 0 j, .oc d j))).nrm F)else none
 | _=>none

theorem box_S(i:Ag F b x){ty:TypeId}{v:Operand}(y:o.dst=some d)(ho:o.op= .box ty v)(h1:RA F x d v=some x')(c:cBox F b d v=some b'):OpS P F F.n o b x b' x':=by
 cases v with
 | tmp t=>
  simp only[cBox]at c; obtain⟨r,c⟩:=aK c; simp only[z7]at r; obtain⟨⟨⟨u,w⟩,l⟩,p⟩:=r; cases c; simp only[RA]at h1; split at h1<;>try cases h1
  rename_i xs g; obtain⟨h,h1⟩:=aK h1; cases h1; have s:=MF w; have a:t≠d:=fun e=>by subst e; simp [vS,z42]at p
  have q: ∀j∈boxM F b d t,j<xs.length:=fun j k=>by
   have:=(qZ.1 (z73.1 k).1).2; rw[AK h]; omega
  refine OpS.fin ((i.alloc s h).mvs _) (fun g0 w0=>Xc (boxM F b d t) y (bK u) ho (by rw[qO l]; exact g) a q) (KN (i.alloc s h) (JV i (Low.self _ _ _) h (fun _=>dP _)) (fun m z=> ?_))
  obtain⟨j,k,rfl⟩:=z49.1 z; have f:=q j k; refine⟨⟨?_,xs[j], ?_⟩, ?_,xs[j], ?_⟩
  ·show(b.alloc F d _).has t=true
   rw[Dz,dO a,p,l]; rfl
  ·simp only[D.at,atL,D.setO,D.put,z11 a]
   rw[BY g j,z16 f]
  ·show(b.alloc F d _).hasO d=true
   rw[Bb,z42]; rfl
  ·simp only[D.at,atL,D.setO,if_true,z8]
   exact z16 f
 | _=>cases c

def tD(F:FA)(x:D)(i:TI)(ob p:Nat)(xs:List T):Option D:=match x.ob ob with
 | some cells=>bif Nat.beq xs.length i.size&&Nat.ble (p+xs.length) cells.length&&iG (cells.take p++xs++cells.drop (p+xs.length)) (F.obOf ob)then some (x.setO ob (cells.take p++xs++cells.drop (p+xs.length)))else none
 | none=>none
def IP(F:FA)(b:B):Operand→List (Nat×Nat)
 | .tmp t=>((nR (F.shOf t)).filter fun m=>Nat.beq m.1 0&&(b.kd (.s t 0 m.2)).hold).map fun m=>(t,m.2)
 | _=> []
def DS(F:FA)(b:B)(i:TI)(ob p:Nat)(v y:Operand):Option B:=
 bif dN b v&&dN b y&&b.hasO ob then
  some (((b.write F ob p i.size (Fz b y 0)).mvs F ((IP F b y).map fun m=>(.s m.1 0 m.2, .oc ob (p+m.2)))).nrm F)else none

theorem TY(N:aX P τ)(w:Ag F b x){t:TypeId}{v y:Operand}{i:TI}{ob p:Nat}{xs:List T}(O:o.dst=none)(ho:o.op= .store t v y)(Q:τ t=some i)(U:ev x.sl v= .one (.ptr ob p))(g:aT (ev x.sl y)=some xs)
  (h1:tD F x i ob p xs=some x')(s:DS F b i ob p v y=some b'):OpS P F F.n o b x b' x':=by
 unfold DS at s; obtain⟨I,s⟩:=aK s; simp only[z7]at I; obtain⟨⟨L,r⟩,G⟩:=I; cases s; unfold tD at h1; split at h1<;>try cases h1
 rename_i cells a; obtain⟨J,h1⟩:=aK h1; simp only[z7]at J; obtain⟨⟨V,W⟩,X⟩:=J; cases h1; have l:=z14 V; have f:=z29 W; have H: ∀m∈IP F b y,m.2<xs.length∧y= .tmp m.1∧ ∃t,(x.sl m.1).leaf 0 m.2=some t:=fun m c=>by
  cases y with
  | tmp E=>
   simp only[IP,z49]at c; obtain⟨⟨k,j⟩,c,rfl⟩:=c; have c:=z73.1 c; simp only[z7]at c; have z:=z14 c.2.1; subst z; have R:x.sl E≠ .tup []:=fun e=>by have g:aT (x.sl E)=some xs:=g; rw[e]at g; simp [aT]at g
   obtain⟨u,K⟩:=rJ (w.fits r R) c.1; refine⟨?_,rfl,u,K⟩
   have q:(ev x.sl (.tmp E)).leaf 0 j=some u:=K; rw[BY g]at q; exact cK q
  | _=>simp [IP]at c
 have M:=PI w (Low.self F.n b x) (p:=p) (xs:=xs) (κ:=Fz b y 0) a f; have h:=w.write (o:=ob) (p:=p) (m:=xs.length) (κ:=Fz b y 0) X; rw[←l]; refine OpS.fin (h.mvs _) (fun g0 w0=> ?_) (KN h M (fun m c=> ?_))
 ·have:=RH (P:=P) (g0:=g0) (w0:=w0) (st:=b.S F.n x) N (IP F b y) O ho Q (by rw[pU L]; exact U) (by rw[Lc G]; exact a) (by rw[pU r]; exact g) l f (fun m c=>by
   obtain⟨a1,a2,_⟩:=H m c; exact⟨a1,a2⟩)
  rw[tB]at this; exact this
 ·obtain⟨C,A,rfl⟩:=z49.1 c
  obtain⟨a1,rfl,u,a3⟩:=H C A; refine⟨⟨?_,u,a3⟩, ?_, ?_⟩
  ·show(b.write F ob p xs.length _).has C.1=true
   rw[zX,w.leaf_root r a3]; exact(z7 _ _).mpr ⟨rfl,r⟩
  ·show(b.write F ob p xs.length _).hasO ob=true
   rw[wB]; exact G
  ·refine⟨xs[C.2], ?_⟩
   simp only[D.at,atL,D.setO,if_true,z8]; rw[sB cells xs p f,z17 ⟨by omega,by omega⟩,z78]
   exact z16 a1
end

section
variable {P:Program} {τ:TypeId→Option TI} {F:FA} {o:Oper} {b b':B} {x x':D} {d:Nat}

theorem OpS.setPut{n:Nat}{f:St}{b1:B}(c:Ag F b1 x)(h1:Low n b1 x f){r:V}{κ:Nat→Nat→K}(e:Own.fits r (F.shOf d)=true)(h: ∀g0 w0,qD P g0 w0 o (b.S n x) (f.put d r κ)):OpS P F n o b x ((b1.put F d κ).nrm F) (x.put d r):=
 OpS.fin (c.put (.inr e)) h (Gv c h1 (.inr e) (fun _ _ _ _=>dP _) (fun _ _ _=>dP _) (fun _ h=>h))

def B.killV(F:FA)(b:B):B:=b.setf F (fun _=>false) (fun _ q=>if q= .V then .D else q)

theorem Dq{n:Nat}(c:Ag F b x):Low n (b.killV F) x (b.S n x).killV:=
 kU c (Low.self n b x) rfl (fun _ _ _=>dP _) (fun _ _ _ e=>e)

def B.lowO(F:FA)(b:B)(l:Loc):B:=if l.place then b.setf F (fun m=>decide (m=l)) (fun m q=>if m=l then .D else q)else b

theorem Ag.lowO(c:Ag F b x)(l:Loc):Ag F (b.lowO F l) x:=by
 unfold B.lowO; split
 ·exact c.setf _ _
 ·exact c

theorem MB{n:Nat}{s:St}(g:Ag F b x)(h:Low n b x s)(l:Loc):Low n (b.lowO F l) x (s.lowO l):=by
 unfold B.lowO St.lowO; by_cases c:l.place=true
 ·rw[z17 c,z17 c]
  refine kU g h (by simp [Ne.symm (Loc.place_ne c).1]) (fun m _ k=> ?_) (fun i _ j f=> ?_)
  ·by_cases e:m=l
   ·rw[z17 e,z17 e]; rfl
   ·rw[z11 e,z11 e]; exact k
  ·by_cases e:Loc.s i 0 0=l
   ·rw[z17 e]at f; exact absurd rfl f
   ·rw[z11 e]at f ⊢; exact j f
 ·rw[z11 c,z11 c]; exact h

def AZ(τ:TypeId→Option TI)(u:TypeId)(e:TypeId):Bool:=match tk τ u with | some (.sl e')=>Nat.beq e' e | some .str=>true | _=>false
theorem Mj{u e:TypeId}(h:AZ τ u e=true):tk τ u=some (.sl e)∨tk τ u=some .str:=by
 unfold AZ at h; split at h
 ·rename_i c h1; left; rw[h1,z14 h]
 ·rename_i h1; exact .inr h1
 ·cases h

def Qp(g:TI)(c f:List (List T)):Bool:=c.all (fun e=>Nat.beq e.length g.size)&&f.all (fun e=>iG e g.zero)&&Nat.ble (c.length+f.length) maxLen&&Nat.ble ((c.length+f.length)*g.bytes) 140737488355328

def tE(τ:TypeId→Option TI)(F:FA)(x:D)(d:Nat)(t u:TypeId)(v y:Operand):Option D:=
 match tk τ t with
 | some (.sl e)=>(match τ e,ev x.sl v,Hk (ev x.sl y)with
  | some ei, .one (.c (.sl es1)),some es2=>bif AZ τ u e&&Qp ei es1 es2 then sM F x d (.one (.c (.sl (es1++es2))))else none
  | _,_,_=>none)
 | _=>none

def NS(b:B):Operand→K
 | .tmp t=>b.kd (.s t 0 0)
 | .const v=>jD (bE v) 0 0
 | _=> .S
def vN(b:B):Operand→Loc
 | .tmp t=>if(b.kd (.s t 0 0)).hold then .s t 0 0 else .none
 | _=> .none
def sndB(F:FA)(b:B)(e:List T)(f:Bool)(y:Operand):Bool:=
 match nU F y with
 | .one (.c (.str _))=>true
 | _=>match NS b y with
  | .D=>false
  | .V=>qS e
  | .F=>qS e|| !f
  | .A s=>(s == e.length)&&(qS e|| !f)
  | .U _=>true
  | .S=>false
  | .N=>true

def KY(τ:TypeId→Option TI)(F:FA)(b:B)(d:Nat)(t:TypeId)(v y:Operand):Option B:=
 match tk τ t with
 | some (.sl e)=>(match τ e with
  | some ei=>bif Nat.blt d F.n&&dN b v&&dN b y&&(NS b v).app ei.size&&(!(mem d F.dp)||(NS b v).deep)&&sndB F b ei.zero (mem d F.dp) y&&(!((vN b y).place)|| !(decide (vN b y=vN b v)))then
    some (((((b.killV F).lowO F (vN b v)).lowO F (vN b y)).put F d (fun _ _=>bif mem d F.dp then .U ei.size else .A ei.size)).nrm F)else none
  | none=>none)
 | _=>none

theorem HW{n:Nat}{v:Operand}:Md (b.S n x) v=NS b v:=by cases v<;>rfl
theorem AB{n:Nat}{v:Operand}:jR (b.S n x) v=vN b v:=by cases v<;>rfl

theorem Ta(t:Ag F b x){n:Nat}{j:List T}{f:Bool}{y:Operand}{r:List (List T)}(q:dN b y=true)(g:Hk (ev x.sl y)=some r)(h:sndB F b j f y=true):Ko (b.S n x) j f y=true:=by
 have v: ∃z,ev x.sl y= .one (.c z):=by
  unfold Hk at g; split at g
  ·rename_i e; exact⟨_,e⟩
  ·rename_i e; exact⟨_,e⟩
  ·cases g
 obtain⟨z,hz⟩:=v; have i: ∃p,nU F y= .one (.c p)∧tI z p=true:=by
  rcases AW t q hz (by simp)with l | ⟨_,i⟩
  ·cases i:nU F y with
   | tup A=>rw[i]at l; simp [Own.fits]at l
   | one w=>
    rw[i]at l; cases w<;>simp [Own.fits,bO]at l
    exact⟨_,rfl,l⟩
  ·exact⟨z,i,by cases z<;>first | (rw[hz]at g; simp [Hk]at g; done) | simp [tI]⟩
 obtain⟨p,i,u⟩:=i; unfold Ko; rw[pU q,hz,HW]; unfold sndB at h; rw[i]at h; cases z with
 | str s=>rfl
 | sl es'=>
  cases p<;>simp [tI]at u
  simp only at h ⊢; revert h
  cases NS b y<;>simp
 | hole=>rw[hz]at g; simp [Hk]at g
 | int k m=>rw[hz]at g; simp [Hk]at g
 | bool m=>rw[hz]at g; simp [Hk]at g
 | np=>rw[hz]at g; simp [Hk]at g

theorem SE(L:aX P τ)(k:Ag F b x){t u:TypeId}{v y:Operand}(M:o.dst=some d)(ho:o.op= .call { callee:= .builtin .append,args:= #[v,y],argTypes:= #[t,u] })
  (h1:tE τ F x d t u v y=some x')(f:KY τ F b d t v y=some b'):OpS P F F.n o b x b' x':=by
 unfold tE at h1; split at h1<;>try cases h1
 rename_i e r; split at h1<;>try cases h1
 rename_i R J K i O z; obtain⟨w,h1⟩:=aK h1; simp only[z7]at w; obtain⟨Q,A⟩:=w; obtain⟨I,rfl⟩:=cH h1; unfold KY at f; rw[r]at f; simp only[i]at f; obtain⟨q,f⟩:=aK f; simp only[z7]at q; obtain⟨⟨⟨⟨⟨⟨C,E⟩,l⟩,G⟩,m⟩,H⟩,p⟩:=q; cases f; simp only[Qp,z7]at A; obtain⟨⟨⟨a1,a2⟩,a3⟩,a4⟩:=A; have g:Ag F (b.killV F) x:=k.setf _ _; have h:=g.lowO (F:=F) (vN b v); refine OpS.setPut (h.lowO (vN b y)) (MB h (MB g (Dq (n:=F.n) k) (vN b v)) (vN b y)) I (fun g0 w0=> ?_)
 have:=QD (P:=P) (g0:=g0) (w0:=w0) (st:=b.S F.n x) L (mem d F.dp) M (bK C) ho r (Mj Q) i (by rw[pU E]; exact O) (by rw[HW]; exact G)
  (fun N=>by rw[HW]; rw[N]at m; simpa using m) (by rw[pU l]; exact z) (Ta k l z H) (fun s=>by
   rw[AB]at s ⊢; rw[AB]; rw[s]at p; simpa using p) (fun j c=>z14 (z18.1 a1 j c)) (fun j c=>z18.1 a2 j c) (z29 a3) (z29 a4)
 rw[AB,AB]at this; cases hm:mem d F.dp with
 | true=>rw[hm]at this; exact this
 | false=>rw[hm]at this; exact this

def vC:List V→Option (List (List T))
 | []=>some []
 | v::r=>match aT v,vC r with
  | some xs,some xss=>some (xs::xss)
  | _,_=>none
theorem EU: ∀ {l:List V} {c:List (List T)},vC l=some c→l.map aT=c.map some
 | [],c,h=>by cases h; rfl
 | v::r,c,h=>by
  unfold vC at h; split at h<;>try cases h
  rename_i xs f h1 e; simp [h1,EU e]

def Aa:Nat→List (Nat×Operand)→Bool
 | _,[]=>true
 | i,p::r=>Nat.beq p.1 i&&Aa (i+1) r
theorem GM: ∀ {l:List (Nat×Operand)} {i:Nat},Aa i l=true→l=((l.map (·.2)).zipIdx i).map fun p=>(p.2,p.1)
 | [],i,_=>rfl
 | p::r,i,h=>by
  simp only[Aa,z7]at h; simp only[z54,z152]; have:=z14 h.1; rw[←GM h.2, ←this]

def Va(t:Nat)(l:List Operand):Bool:=l.all (IS t)
def rZ:List Operand→Bool
 | []=>true
 | .tmp t::r=>Va t r&&rZ r
 | _::r=>rZ r
theorem Lv{t:Nat}: ∀ {l:List Operand} {i:Nat},Va t l=true→l[i]? ≠some (.tmp t):=by
 intro l i h e; have:=z18.1 h _ (z24 e); simp [IS,z42]at this
theorem ER: ∀ {l:List Operand},rZ l=true→ ∀(i c t:Nat),l[i]? =some (Operand.tmp t)→l[c]? =some (Operand.tmp t)→i=c
 | [],_,_,_,_,h,_=>by simp at h
 | p::r,h,i,c,t,h1,e=>by
  have f:rZ r=true:=by
   cases p with
   | tmp g=>simp only[rZ,z7]at h; exact h.2
   | _=>exact h
  cases i with
  | zero=>
   cases c with
   | zero=>rfl
   | succ c=>
    exfalso
    simp only[z20,z9]at h1
    subst h1; simp only[rZ,z7]at h; simp only[z21]at e
    exact Lv h.1 e
  | succ i=>
   cases c with
   | zero=>
    exfalso
    simp only[z20,z9]at e
    subst e; simp only[rZ,z7]at h; simp only[z21]at h1
    exact Lv h.1 h1
   | succ c=>
    simp only[z21]at h1 e
    rw[ER f i c t h1 e]

def Nn(τ:TypeId→Option TI)(F:FA)(x:D)(d:Nat)(t:TypeId)(n:Nat)(f:Array (Nat×Operand)):Option D:=
 match tk τ t with
 | some (.sl e)=>(match τ e,vC ((f.toList.map (·.2)).map (ev x.sl))with
  | some ei,some es=>bif Aa 0 f.toList&&Nat.beq n f.toList.length&&es.all (fun e=>Nat.beq e.length ei.size)&&Nat.ble (n*ei.size) 16777216 then sM F x d (.one (.c (.sl es)))else none
  | _,_=>none)
 | _=>none
def Ke(b:B):Operand→Nat→K
 | .tmp t,j=>b.kd (.s t 0 j)
 | .const v,j=>jD (bE v) 0 j
 | _,_=> .D
def B.lowT(F:FA)(b:B)(ps:List Operand):B:=b.setf F (dZ ps) (fun m q=>if dZ ps m=true∧q.hold=true then .D else q)
def cLit(τ:TypeId→Option TI)(F:FA)(b:B)(d:Nat)(t:TypeId)(c:Array (Nat×Operand)):Option B:=
 match tk τ t with
 | some (.sl e)=>(match τ e with
  | some ei=>bif Nat.blt d F.n&&(c.toList.map (·.2)).all (dN b)&&rZ (c.toList.map (·.2))&&(c.toList.map (·.2)).all (fun v=>(range' 0 ei.size).all fun j=>(Ke b v j).part (mem d F.dp))then
    some (((b.lowT F (c.toList.map (·.2))).put F d (fun _ _=>bif mem d F.dp then .U ei.size else .A ei.size)).nrm F)else none
  | none=>none)
 | _=>none

theorem Rc{n:Nat}(c:Ag F b x)(ps:List Operand):Low n (b.lowT F ps) x ((b.S n x).lowT ps):=
 kU c (Low.self n b x) rfl (fun _ _ _=>dP _) (fun _ _ _ e=>e)

theorem lit_S(H:aX P τ)(q:Ag F b x){t:TypeId}{n:Nat}{c:Array (Nat×Operand)}(I:o.dst=some d)(ho:o.op= .buildSlice t n c)
  (h1:Nn τ F x d t n c=some x')(f:cLit τ F b d t c=some b'):OpS P F F.n o b x b' x':=by
 unfold Nn at h1; split at h1<;>try cases h1
 rename_i e s; split at h1<;>try cases h1
 rename_i N G g k; obtain⟨u,h1⟩:=aK h1; simp only[z7]at u; obtain⟨⟨⟨J,K⟩,L⟩,M⟩:=u; obtain⟨E,rfl⟩:=cH h1; unfold cLit at f; rw[s]at f; simp only[g]at f; obtain⟨r,f⟩:=aK f; simp only[z7]at r; obtain⟨⟨⟨w,y⟩,z⟩,A⟩:=r; cases f; have l:(c.toList.map (·.2)).map (fun v=>aT (ev (b.S F.n x).sl v))=G.map some:=by
  rw[←EU k]; have p: ∀ps:List Operand,ps.all (dN b)=true→ps.map (fun v=>aT (ev (b.S F.n x).sl v))=(ps.map (ev x.sl)).map aT:=fun ps h=>by
   rw[Vn]; refine z52 fun v m=> ?_
   simp only[Function.comp]; rw[pU (z18.1 h v m)]
  exact p _ y
 refine OpS.setPut (q.setf _ _) (Rc (n:=F.n) q _) E (fun g0 w0=> ?_)
 have:=Wi (P:=P) (g0:=g0) (w0:=w0) (st:=b.S F.n x) H (mem d F.dp) I (bK w) ho (GM J) (by rw[z79]; exact z14 K) s g l
  (fun C i=>z14 (z18.1 L C i)) (z29 M) (ER z) (fun v m j O=>by
   have h:=z18.1 (z18.1 A v m) j (qZ.2 ⟨Si _,by omega⟩)
   have e:FE (b.S F.n x) v j=Ke b v j:=by cases v<;>rfl
   rw[e]; exact h)
 cases hm:mem d F.dp with
 | true=>rw[hm]at this; exact this
 | false=>rw[hm]at this; exact this

def FI(τ:TypeId→Option TI)(F:FA)(x:D)(d:Nat)(t:TypeId)(v y:Operand):Option D:=
 match tk τ t with
 | some (.sl e)=>(match τ e,ev x.sl v,ev x.sl y with
  | some ei, .one (.c (.int _ n)), .one (.c (.int _ n'))=>if n=n'∧0≤n∧n≤maxLen∧ei.bytes*n≤281474976710656 then sM F x d (.one (.c (.sl (List.replicate n.toNat ei.zero))))else none
  | _,_,_=>none)
 | _=>none
def TQ(τ:TypeId→Option TI)(F:FA)(b:B)(d:Nat)(t:TypeId)(v y:Operand):Option B:=
 match tk τ t with
 | some (.sl e)=>(match τ e with
  | some ei=>bif Nat.blt d F.n&&dN b v&&dN b y then some ((b.put F d (fun _ _=> .U ei.size)).nrm F)else none
  | none=>none)
 | _=>none

theorem Wg(q:aX P τ)(p:Ag F b x){t:TypeId}{v y:Operand}(r:o.dst=some d)(ho:o.op= .makeSlice t v y)
  (h1:FI τ F x d t v y=some x')(c:TQ τ F b d t v y=some b'):OpS P F F.n o b x b' x':=by
 unfold FI at h1; split at h1<;>try cases h1
 rename_i e h; split at h1<;>try cases h1
 rename_i E k n G n' f u w; split at h1<;>try cases h1
 rename_i s; obtain⟨rfl,z,A,C⟩:=s; obtain⟨m,rfl⟩:=cH h1; unfold TQ at c; rw[h]at c; simp only[f]at c; obtain⟨g,c⟩:=aK c; simp only[z7]at g; obtain⟨⟨i,j⟩,l⟩:=g; cases c; exact OpS.put0 p m (fun g0 w0=>Tt q r (bK i) ho h f (by rw[pU j]; exact u) (by rw[pU l]; exact w) z A C)
end

section
variable {P:Program} {τ:TypeId→Option TI} {F:FA} {o:Oper} {b b':B} {x x':D} {d:Nat}

theorem Gj(fs:List (Nat×Nat×Bool)): ∀(l:List (Nat×V)) {cs rs:List T},tA fs cs l=some rs→rs.length=cs.length
 | [],cs,rs,h=>by cases h; rfl
 | (i,v)::r,cs,rs,h=>by
  unfold tA at h; split at h<;>try cases h
  rename_i off size _ xs h1 a; split at h<;>try cases h
  rename_i c; rw[Gj fs r h]; simp only[z32,z44,z65]; omega

theorem EW(fs:List (Nat×Nat×Bool)): ∀(l:List (Nat×V)) {cs rs:List T},tA fs cs l=some rs→ ∀ {p i:Nat} {v:V},l[p]? =some (i,v)→ ∃off size f xs,fs[i]? =some (off,size,f)∧aT v=some xs∧xs.length=size∧off+size≤cs.length
 | [],cs,rs,h,p,i,v,c=>by simp at c
 | (u,w)::r,cs,rs,h,p,i,v,c=>by
  unfold tA at h; split at h<;>try cases h
  rename_i off size f xs h1 t; split at h<;>try cases h
  rename_i j; cases p with
  | zero=>
   simp only[z20,z9,z38]at c
   obtain⟨rfl,rfl⟩:=c; exact⟨off,size,f,xs,h1,t,j.1,j.2⟩
  | succ p=>
   simp only[z21]at c
   obtain⟨e,a,g,xs',k,m,q,s⟩:=EW fs r h c; refine⟨e,a,g,xs',k,m,q, ?_⟩
   simp only[z32,z44,z65]at s; omega

def Vd(fs:List (Nat×Nat×Bool))(k:Nat)(ps:List (Nat×Operand)):Bool:=ps.all fun p=>match fs[p.1]? with
 | some (off,size,_)=>Nat.blt k off||Nat.ble (off+size) k
 | none=>true
theorem Rq{fs:List (Nat×Nat×Bool)}{k:Nat}{ps:List (Nat×Operand)}(h:Vd fs k ps=true):CS fs k ps:=by
 intro p c off size e a; have:=z18.1 h p c; rw[a]at this; simp only[z48]at this; rcases this with h | h
 ·exact .inl (z29 h)
 ·exact .inr (z29 h)

def yD(b:B)(d:Nat)(fs:List (Nat×Nat×Bool)):List (Nat×Operand)→List (Loc×Loc)
 | []=> []
 | (i, .tmp t)::r=>(match fs[i]? with
  | some (off,size,_)=>((range' 0 size).filter fun j=>(b.kd (.s t 0 j)).hold&&Vd fs (off+j) r&& !(Nat.beq t d)).map fun j=>(.s t 0 j, .s d 0 (off+j))
  | none=> [])++yD b d fs r
 | _::r=>yD b d fs r

theorem JU(fs:List (Nat×Nat×Bool)): ∀ {l:List (Nat×Operand)} {m:Loc×Loc},m∈yD b d fs l→ ∃(p i off size j t:Nat) (c:Bool),l[p]? =some (i,Operand.tmp t)∧fs[i]? =some (off,size,c)∧j<size∧CS fs (off+j) (l.drop (p+1))∧m=(.s t 0 j, .s d 0 (off+j))∧t≠d
 | [],m,h=>by simp [yD]at h
 | (i,v)::r,m,h=>by
  have a:m∈yD b d fs r→ ∃(p g off size j t:Nat) (c:Bool),((i,v)::r)[p]? =some (g,Operand.tmp t)∧fs[g]? =some (off,size,c)∧j<size∧CS fs (off+j) (((i,v)::r).drop (p+1))∧m=(.s t 0 j, .s d 0 (off+j))∧t≠d:=fun h=>by
   obtain⟨p,g,off,size,j,t,c,h1,k⟩:=JU fs h; exact⟨p+1,g,off,size,j,t,c,h1,k⟩
  cases v with
  | tmp t=>
   simp only[yD,Vs]at h; rcases h with h | h
   ·split at h
    ·rename_i off size c q
     obtain⟨j,f,rfl⟩:=z49.1 h; have f:=z73.1 f; simp only[z7]at f; obtain⟨u,⟨_,w⟩,y⟩:=f; exact⟨0,i,off,size,j,t,c,rfl,q,by have:=(qZ.1 u).2; omega,Rq w,rfl,fun e=>by subst e; simp [z42]at y⟩
    ·simp at h
   ·exact a h
  | _=>exact a h

def xZ(τ:TypeId→Option TI)(F:FA)(x:D)(d:Nat)(t:TypeId)(a:Array (Nat×Operand)):Option D:=
 match τ t with
 | some ti=>(match ti.kind with
  | .struct fs=>(match tA fs ti.zero (a.toList.map fun p=>(p.1,ev x.sl p.2))with
   | some rs=>sM F x d (.one (.ag rs))
   | none=>none)
  | _=>none)
 | none=>none
def OC(τ:TypeId→Option TI)(F:FA)(b:B)(d:Nat)(t:TypeId)(a:Array (Nat×Operand)):Option B:=
 match τ t with
 | some ti=>(match ti.kind with
  | .struct fs=>bif Nat.blt d F.n&&a.toList.all (fun p=>dN b p.2)then
    some (((b.put F d (fun _=>CU fs (DU ti.zero) (a.toList.map fun p=>(p.1,Fz b p.2 0)))).mvs F (yD b d fs a.toList)).nrm F)else none
  | _=>none)
 | none=>none

theorem UV(U:aX P τ)(T:Ag F b x){t:TypeId}{a:Array (Nat×Operand)}(V:o.dst=some d)(ho:o.op= .build t a)
  (h1:xZ τ F x d t a=some x')(c:OC τ F b d t a=some b'):OpS P F F.n o b x b' x':=by
 unfold xZ at h1; split at h1<;>try cases h1
 rename_i Y v; split at h1<;>try cases h1
 rename_i fs l; split at h1<;>try cases h1
 rename_i rs g; obtain⟨w,rfl⟩:=cH h1; unfold OC at c; rw[v]at c; simp only[l]at c; obtain⟨J,c⟩:=aK c; simp only[z7]at J; obtain⟨N,O⟩:=J; cases c; have K: ∀p∈a.toList,dN b p.2=true:=fun p u=>z18.1 O p u
 have r:a.toList.map (fun p=>(p.1,ev (b.S F.n x).sl p.2))=a.toList.map (fun p=>(p.1,ev x.sl p.2)):=z52 fun p u=>by rw[pU (K p u)]
 have I: ∀m∈yD b d fs a.toList, ∃(p i off size j f:Nat) (h:Bool),a.toList[p]? =some (i,Operand.tmp f)∧fs[i]? =some (off,size,h)∧j<size∧CS fs (off+j) (a.toList.drop (p+1))∧m=(.s f 0 j, .s d 0 (off+j))∧f≠d∧(∃y,(x.sl f).leaf 0 j=some y)∧b.has f=true∧off+j<rs.length:=fun m q=>by
  obtain⟨p,i,off,size,j,f,h,h1,c,z,A,C,k⟩:=JU fs q; have u:(a.toList.map fun p=>(p.1,ev x.sl p.2))[p]? =some (i,x.sl f):=by rw[z28,h1]; rfl
  obtain⟨L,H,M,xs,w,Q,W,X⟩:=EW fs _ g u; rw[c]at w; cases w; refine⟨p,i,off,size,j,f,h,h1,c,z,A,C,k,⟨xs[j], ?_⟩,K _ (bI h1), ?_⟩
  ·rw[BY Q j]; exact z16 (by omega)
  ·rw[Gj fs _ g]; omega
 refine OpS.put T w (fun g0 w0=> ?_) (fun m q=> ?_)
 ·have:=SA (P:=P) (g0:=g0) (w0:=w0) (st:=b.S F.n x) U (yD b d fs a.toList) V (bK N) ho v l (by rw[r]; exact g) (fun m q=>by
   obtain⟨p,i,off,size,j,f,h,h1,c,z,A,C,k,⟨y,E⟩,G,_⟩:=I m q; exact⟨p,i,off,size,j,f,h,h1,c,z,A,C,k,y,by rw[St.at_s,qO G]; exact E⟩)
  have e:(a.toList.map fun p=>(p.1,opK (b.S F.n x) p.2 0))=a.toList.map fun p=>(p.1,Fz b p.2 0):=z52 fun p _=>by rw[tB]
  rw[e]at this; exact this
 ·obtain⟨p,i,off,size,j,f,h,h1,c,z,A,rfl,k,⟨y,E⟩,G,R⟩:=I m q
  exact⟨⟨G,by simp [aS,k],y,E⟩,0,off+j,rfl,rs[off+j],z16 R⟩

end

def bV:T→List (Nat×Nat)→T→T
 | _,[],y=>y
 | .sl a,(i,j)::p,y=> .sl (a.set i ((a.getD i []).set j (bV ((a.getD i []).getD j (.sl [])) p y)))
 | x,_::_,_=>x

theorem xD{α:Type}{l:List α}{i:Nat}{x d:α}(h:l[i]? =some x):l.getD i d=x:=by simp [List.getD,h]

theorem sY{a:List (List T)}{i j:Nat}{row:List T}{c:T}{p:List (Nat×Nat)}{y:T}(h1:a[i]? =some row)(b:row[j]? =some c):bV (.sl a) ((i,j)::p) y= .sl (a.set i (row.set j (bV c p y))):=by
 simp only[bV,xD h1,xD b]

theorem mE{α:Type}{l:List α}{i:Nat}{y:α}(k:Nat)(h:i<l.length):(l.set i y)[k]? =if k=i then some y else l[k]? :=by
 rw[List.getElem?_set]
 by_cases e:i=k
 ·subst e; simp [h]
 ·rw[z11 e,z11 (Ne.symm e)]

theorem Ow.part{w:World}{p:List (Nat×Nat)}: ∀ {Z:Nat→Prop} {t:Option Nat} {F:Nat→Prop} {v:Value} {x:T} {v':Value} {x':T},Ow Z true w t F v x→Pl w v x p v' x'→
  ∃Fp:Nat→Prop,(∀b,Fp b→F b)∧Ow Z true w (if p=[]then t else none) Fp v' x'∧
   ∀(Z':Nat→Prop) (w':World) (N A:Nat→Prop) (y:T),(∀b,F b→ ¬ Fp b→A b∧w'.heap[b]? =w.heap[b]?)→(∀b,N b→A b)→(∀b,N b→F b→Fp b)→Ow Z' true w' (if p=[]then t else none) N v' y→Ow Z' true w' t A v (bV x p y):=by
 induction p with
 | nil=>
  intro Z t F v x v' x' h G; cases G; refine⟨F,fun _ h=>h,by simpa using h,fun Z' w' N A y _ X _ E=> ?_⟩
  have E:Ow Z' true w' t N v y:=by simpa using E
  have:bV x [] y=y:=by cases x<;>rfl
  rw[this]; exact E.mono (fun e=>e) (fun e=>by cases e) (fun b R=>⟨X b R,rfl⟩)
 | cons ij p ih=>
  intro Z t F v x v' x' h G; cases G with
  | cons b off len H U e c y0 i j p v' x' he hy hc G=>
   classical
   cases h with
   | nil t F a=>simp at he
   | frz F v x hd h=>cases hd
   | sl t F b len H s C ty U own cs ht R hh hl hcl K hs ha hm hr=>
    have e1:=hs i e he; have o:C[i*s+j]? =some (cs i j):=hm i e j y0 he hy; rw[cJ w b _ C ty (0,0) hh,z30,e1,o]at hc; cases hc; obtain⟨Fp,q1,S,q3⟩:=ih (hr i e j y0 he hy) G; refine⟨Fp,fun k f=>(q1 k f).1, ?_,fun Z' w' N A y h1 X Q E=> ?_⟩
    ·rw[z11 (by simp)]
     by_cases e:p=[]
     ·rw[z17 e]at S; exact S
     ·rw[z11 e]at S; exact S
    rw[z11 (by simp)]at E
    have B:j<e.length:=cK hy; have q:i<U.length:=cK he; have L: ¬ Fp b:=fun f=>(q1 b f).2.1 rfl
    have Y: ∀k,N k→k≠b:=fun k f e=>by subst e; exact L (Q k f R)
    have r:=h1 b R L; rw[sY he hy]; have O:=q3 Z' w' N (fun k=>A k∧k≠b∧(if N k then(i,j)else own k)=(i,j)) y (fun k f hn=>by
     obtain⟨V,W⟩:=h1 k f.1 hn; refine⟨⟨V,f.2.1, ?_⟩,W⟩
     have: ¬ N k:=fun J=>hn (Q k J f.1)
     rw[z11 this]; exact f.2.2) (fun k f=>⟨X k f,Y k f,by rw[z17 f]⟩) (fun k J f=>Q k J f.1) (by
      by_cases e:p=[]
      ·rw[z17 e]; exact E
      ·rw[z11 e]; exact E)
    refine .sl t A b len H s C ty _ (fun k=>if N k then(i,j)else own k) cs ht r.1 (r.2.trans hh) (by simpa using hl) hcl K (fun g I d=> ?_) ha (fun g I m x d u=> ?_) (fun g I m x d u=> ?_)
    ·rw[mE g q]at d
     by_cases l:g=i
     ·rw[z17 l]at d; cases d; simpa using e1
     ·rw[z11 l]at d; exact hs g I d
    ·rw[mE g q]at d
     by_cases l:g=i
     ·rw[z17 l]at d; cases d
      rw[mE m B]at u; by_cases D:m=j
      ·rw[l,D]; exact o
      ·rw[z11 D]at u; rw[l]; exact hm i e m x he u
     ·rw[z11 l]at d; exact hm g I m x d u
    ·have z: ∀P x0,U[g]? =some P→P[m]? =some x0→(g,m)≠(i,j)→Ow Z' true w' none (fun k=>A k∧k≠b∧(if N k then(i,j)else own k)=(g,m)) (cs g m) x0:=fun P x0 h5 h6 hne=>
      (hr g P m x0 h5 h6).mono (fun e=>e) (fun e=>by cases e) (fun k f=>by
       have M: ¬ Fp k:=fun G=>hne (by rw[←f.2.2,(q1 k G).2.2])
       obtain⟨V,W⟩:=h1 k f.1 M; refine⟨⟨V,f.2.1, ?_⟩,W⟩
       have: ¬ N k:=fun J=>M (Q k J f.1)
       rw[z11 this]; exact f.2.2)
     rw[mE g q]at d; by_cases l:g=i
     ·rw[z17 l]at d; cases d
      rw[mE m B]at u; by_cases D:m=j
      ·rw[z17 D]at u; cases u
       rw[l,D]; exact O
      ·rw[z11 D]at u
       subst l; exact z e x he u (by simp [D])
     ·rw[z11 l]at d
      exact z I x d u (by simp [l])

theorem Ow.cells{Z Z':Nat→Prop}{l:Bool}{w w':World}{t:Option Nat}{F:Nat→Prop}{b off len D:Nat}{I:List (List T)}(h:Ow Z l w t F (.slice (some ⟨b,off,none⟩) len D) (.sl I))(U: ¬ (l=false∧t=none))
  {i j:Nat}{row ys:List T}{vs:List Value}{N:Nat→Prop}{ownN:Nat→Nat}{H o:Array Value}{ty:TypeId}(m:I[i]? =some row)(M:j+ys.length≤row.length)(hlen:vs.length=ys.length)
  (hh:w.heap[b]? =some (.cells H ty (0,0)))(R:w'.heap[b]? =some (.cells o ty (0,0)))(X:o.size=H.size)(A: ∀k,o[k]? =if off+i*row.length+j≤k∧k<off+i*row.length+j+ys.length then vs[k - (off+i*row.length+j)]? else H[k]?)
  (hZ:l=false→ ∀k,Z k→Z' k∧w'.heap[k]? =w.heap[k]?)(hF: ∀k,F k→k≠b→w'.heap[k]? =w.heap[k]?)(hN: ∀k,N k→ ¬ F k)
  (O: ∀(c:Nat) y,ys[c]? =some y→ ∃u,vs[c]? =some u∧Ow Z' l w' none (fun k=>N k∧ownN k=c) u y):
  Ow Z' l w' t (fun k=>F k∨N k) (.slice (some ⟨b,off,none⟩) len D) (.sl (I.set i (row.take j++ys++row.drop (j+ys.length)))):=by
 cases h with
 | nil t F a=>simp at m
 | frz F v x hd h=>exact absurd ⟨hd,rfl⟩ U
 | sl t F b len D s Y ty0 I own cs ht hb K hl Q J W ha hm hr=>
  rw[hh]at K; cases K; have B:i<I.length:=cK m; have e1:=W i row m; have E:=sB row ys j M; simp only[z30,e1]at A; classical
  have S: ∀(f:Nat) z (g:Nat) x,I[f]? =some z→z[g]? =some x→g<s:=fun f z g x h1 h2=>by rw[←W f z h1]; exact cK h2
  have V: ∀f g,g<s→(f*s+g=i*s+g∧f=i)∨ ¬ (i*s+j≤f*s+g∧f*s+g<i*s+j+ys.length):=by
   intro f g L; rcases Nat.lt_trichotomy f i with h | h | h
   ·right
    have:(f+1)*s≤i*s:=z64 s h; rw[Ub]at this; omega
   ·left; subst h; exact⟨rfl,rfl⟩
   ·right
    have:(i+1)*s≤f*s:=z64 s h; rw[Ub]at this; rw[e1]at M; omega
  refine .sl t _ b len D s o ty _ (fun k=>if N k then(i,j+ownN k)else own k) (fun f g=>if f=i∧j≤g∧g<j+ys.length then vs.getD (g - j) undef else cs f g) ht (.inl hb) R (by simpa using hl) Q J (fun f z d=> ?_) (by rw[X]; exact ha) (fun f z g x d r=> ?_) (fun f z g x d r=> ?_)
  ·rw[mE f B]at d
   by_cases p:f=i
   ·rw[z17 p]at d; cases d
    simp only[z32,z44,z65]; omega
   ·rw[z11 p]at d; exact W f z d
  ·rw[mE f B]at d
   by_cases p:f=i
   ·rw[z17 p]at d; cases d
    rw[E g]at r; subst p; rw[A]; by_cases C:j≤g∧g<j+ys.length
    ·rw[z17 C]at r
     rw[z17 ⟨by omega,by omega⟩]
     simp only[C,and_self,if_true]; have:g - j<vs.length:=by omega
     rw[show f*s+g - (f*s+j)=g - j by omega]
     simp [List.getD,z16 this]
    ·rw[z11 C]at r
     rw[z11 (by omega)]
     simp only[C,and_false,if_false]; exact hm f row g x m r
   ·rw[z11 p]at d
    have L:=S f z g x d r; rw[A]; rw[z11 (by rcases V f g L with h | h; exact absurd h.2 p; exact h)]
    simp only[p,false_and,if_false]; exact hm f z g x d r
  ·have G: ∀P x0,I[f]? =some P→P[g]? =some x0→Ow Z' l w' none (fun k=>(F k∨N k)∧k≠b∧(if N k then(i,j+ownN k)else own k)=(f,g)) (cs f g) x0:=fun P x0 h5 h6=>
    (hr f P g x0 h5 h6).mono (fun e=>e) (fun e=>hZ e) (fun k q=>by
     refine⟨⟨.inl q.1,q.2.1, ?_⟩,hF k q.1 q.2.1⟩
     have: ¬ N k:=fun h=>hN k h q.1
     rw[z11 this]; exact q.2.2)
   rw[mE f B]at d; by_cases p:f=i
   ·rw[z17 p]at d; cases d
    rw[E g]at r; subst p; by_cases C:j≤g∧g<j+ys.length
    ·rw[z17 C]at r
     simp only[C,and_self,if_true]; obtain⟨u,hu,ho⟩:=O _ _ r; have:vs.getD (g - j) undef=u:=xD hu; rw[this]; refine ho.mono (fun e=>e) (fun e k q=>⟨q,rfl⟩) (fun k q=>⟨⟨.inr q.1,fun e=>by subst e; exact hN k q.1 hb, ?_⟩,rfl⟩)
     rw[z17 q.1,q.2,Nat.add_sub_cancel' C.1]
    ·rw[z11 C]at r
     simp only[C,and_false,if_false]; exact G row x m r
   ·rw[z11 p]at d
    simp only[p,false_and,if_false]; exact G z x d r

def W.setLeaf:W→Nat→T→W
  | .c _,0,z=> .c z
  | .ag xs,j,z=> .ag (xs.set j z)
  | w,_,_=>w
def V.setLeaf:V→Nat→Nat→T→V
  | .one w,0,j,z=> .one (w.setLeaf j z)
  | .tup a,k,j,z=> .tup (match a[k]? with | some w=>a.set k (w.setLeaf j z) | none=>a)
  | v,_,_,_=>v

def lR(sl:Nat→V)(l:Loc)(z:T)(i:Nat):V:=match l with
  | .s a k j=>if i=a then(sl i).setLeaf k j z else sl i
  | _=>sl i
def sF(ob:Un)(l:Loc)(z:T)(o:Nat):Option (List T):=match l with
  | .oc a j=>if o=a then(ob o).map (·.set j z)else ob o
  | _=>ob o

def JX:V→Bool
  | .one (.al _ [])=>true
  | .one (.pp _ [] _ _)=>true
  | _=>false
def Rows(x z:T):Prop:= ∀b,x= .sl b→ ∃es',z= .sl es'∧ ∀(i:Nat) e,b[i]? =some e→ ∃a,es'[i]? =some a∧a.length=e.length
def St.upd(st:St)(l:Loc)(z:T):St:=
  { n:=st.n
    sl:=lR st.sl l z
    ob:=sF st.ob l z
    fl:=fun m=>match m with
      | .s i k j=>if k=0∧j=0∧aI (st.sl i)=l∧JX (st.sl i)=false then .D else st.fl (.s i k j)
      | m=>st.fl m }

theorem W.setLeaf_leaf{w:W}{j:Nat}{z t:T}(h:w.leaf j=some t)(a:Nat):(w.setLeaf j z).leaf a=if a=j then some z else w.leaf a:=by
  cases w with
  | c y=>
    cases j with
    | zero=>cases a<;>simp [W.setLeaf,W.leaf]
    | succ j=>simp [W.leaf]at h
  | ag xs=>
    simp only[W.setLeaf,W.leaf]; exact mE a (cK h)
  | _=>simp [W.leaf]at h

theorem V.setLeaf_leaf{v:V}{k j:Nat}{z t:T}(h:v.leaf k j=some t)(a b:Nat):(v.setLeaf k j z).leaf a b=if a=k∧b=j then some z else v.leaf a b:=by
  cases v with
  | one w=>
    cases k with
    | succ k=>simp [V.leaf]at h
    | zero=>
      cases a with
      | succ a=>simp [V.setLeaf,V.leaf]
      | zero=>simp only[V.setLeaf,V.leaf,Nc]; exact W.setLeaf_leaf h b
  | tup d=>
    simp only[V.leaf,z19]at h; obtain⟨w,c,h⟩:=h; simp only[V.setLeaf,c,V.leaf]; rw[mE a (cK c)]; by_cases e:a=k
    · subst e
      rw[z17 rfl,c]; simp only[z8,Nc]; exact W.setLeaf_leaf h b
    · rw[z11 e]; simp [e]

theorem V.setLeaf_root{v:V}{k j:Nat}{z t:T}(h:v.leaf k j=some t):aI (v.setLeaf k j z)= .none∧aI v= .none:=by
  cases v with
  | tup a=>exact⟨rfl,rfl⟩
  | one w=>
    cases k with
    | succ k=>simp [V.leaf]at h
    | zero=>
      cases w with
      | c y=>cases j<;>exact⟨rfl,rfl⟩
      | ag xs=>exact⟨rfl,rfl⟩
      | _=>simp [V.leaf,W.leaf]at h

theorem upd_at{st:St}{l m:Loc}{z t:T}(h:st.at l=some t):(st.upd l z).at m=if m=l then some z else st.at m:=by
  cases m with
  | s i k j=>
    show((lR st.sl l z) i).leaf k j=_; cases l with
    | s d f b=>
      simp only[lR]; by_cases e:i=d
      · subst e
        rw[z17 rfl]; rw[V.setLeaf_leaf (by exact h)]
        by_cases a:k=f∧j=b
        · rw[z17 a,z17 (by rw[a.1,a.2])]
        · rw[z11 a,z11 (by simpa using a)]; rfl
      · rw[z11 e,z11 (by simp [e])]; rfl
    | oc g b=>rfl
    | _=>simp [St.at,atL]at h
  | oc o j=>
    show((sF st.ob l z) o).bind (·[j]?)=_
    cases l with
    | oc g b=>
      simp only[sF]; by_cases e:o=g
      · subst e
        rw[z17 rfl]; simp only[St.at,atL,z19]at h; obtain⟨cells,c,p⟩:=h; rw[c]; simp only[z33,z8]; rw[mE j (cK p)]; by_cases a:j=b
        · subst a; simp
        · rw[z11 a,z11 (by simp [a])]; simp only[St.at,atL,c,z8]
      · rw[z11 e,z11 (by simp [e])]; rfl
    | s d f b=>rfl
    | _=>simp [St.at,atL]at h
  | _=>cases l<;>first | rfl | (simp [St.at,atL]at h)

theorem SK{st:St}{l m:Loc}{z t:T}(a:l≠ .none)(b:st.at m=some t):(st.upd l z).fl m=st.fl m:=by
  cases m with
  | s i k j=>
    simp only[St.upd]; rw[z11]; rintro ⟨rfl,rfl,h,_⟩
    rw[uM b]at h; exact a h.symm
  | _=>rfl

theorem bP.upd{g0:G}{w0:World}{st:St}{a:Act}{g:G}{w:World}(h:bP g0 w0 st a g w){g':G}{w':World}{X:Loc→Prop}(hC:zW g w g' w' X st)(hβ: ∀o,g'.β o=g.β o){l:Loc}{x0 z:T}{v0:Value}
    (hat:st.at l=some x0)(hv:vAt a.tmps g.β w l=some v0)(hX: ∀m x,(st.fl m).hold=true→st.at m=some x→m≠l→ ¬ X m)(hpp:(∀i n j,st.sl i= .one (.pp l [] n j)→st.fl (.s i 0 0)= .D)∨Rows x0 z)(hnew:LF g' w' (st.fl l) l v0 z):bP g0 w0 (st.upd l z) a g' w':=by
  have hlp:=at_isPlace hat; have hln:=(Loc.place_ne hlp).1; have hobj: ∀o b,g.own b= .obj o→g'.own b= .obj o∧w'.heap[b]? =w.heap[b]? :=fun o b hb=>by
    have hlt:b<w.heap.size:=h.ok.own b (by rw[hb]; simp)
    obtain⟨e1,e2⟩:=hC.evo.keep b hlt (fun hx=>(hC.X _ hx).2 o hb)
    exact⟨e1.trans hb,e2⟩
  have hvn:nV v0:=by
    obtain⟨v,e1,e2,_⟩:=h.get hat; rw[hv]at e1; cases e1; exact e2
  have hlf: ∀m x v,st.at m=some x→m≠l→LF g w (st.fl m) m v x→LF g' w' (st.fl m) m v x:=fun m x v hm hne hf=>hC.lf h.ok (Loc.place_ne (at_isPlace hm)).1 (fun hk=>hX m x hk hm hne) hf
  have hcp: ∀i k xs b off,(st.sl i).comp k=some (.cp xs)→CpR g w (st.fl (.s i k 0)) b off xs→CpR g' w' (st.fl (.s i k 0)) b off xs:=fun i k xs b off hc hr=>by
    rcases hC.V with hV | hV
    · exact hr.evo hC.evo hC.none (.inr (.inr hV))
    · have:=hV (.s i k 0)
      cases hk:st.fl (.s i k 0)with
      | D=>trivial
      | F=>rw[hk]at hr; exact hr.evo hC.evo hC.none (.inr (.inl rfl))
      | V=>exact absurd hk this
      | _=>rw[hk]at hr; exact hr.elim
  have hother: ∀i,aI (st.sl i)≠l→(∀k j,(st.upd l z).fl (.s i k j)=st.fl (.s i k j)):=fun i hr k j=>by
    simp only[St.upd]; rw[z11 (fun e=>hr e.2.2.1)]
  have hrv: ∀i,(∀k j,Loc.s i k j≠l)→RV g' w' (fun k j=>(st.upd l z).fl (.s i k j)) (fun k j=> .s i k j) (a.tmps.getD i undef) (st.sl i):=fun i hi=>by
    by_cases hr:aI (st.sl i)=l
    · have:=h.slots i
      exact(Ua (by rw[hr]; exact hln)).mp (by
        have:RV g' w' (fun k j=>st.fl (.s i k j)) (fun k j=> .s i k j) (a.tmps.getD i undef) (st.sl i):=by
          cases hs:st.sl i with
          | tup ws=>rw[hs]at hr; exact absurd hr.symm hln
          | one y=>rw[hs]at hr; cases y<;>first | trivial | exact absurd hr.symm hln
        exact this)
    · have e:(fun k j=>(st.upd l z).fl (.s i k j))=fun k j=>st.fl (.s i k j):=by funext k j; exact hother i hr k j
      rw[e]; have hs:=h.slots i; have key:=hs.map (g':=g) (w':=w) (κ':=fun k j=>st.fl (.s i k j)) (l':=fun k j=> .s i k j) (fun _=>rfl) (fun _ _ _ _ _ _ _ hf=>hf) (fun _ _ _ _ _ hc=>hc)
      exact RV.map hβ (fun k j t u hj hu hn hf=>hlf (.s i k j) t u hj (hi k j) hf) (fun k xs hx b off hc=>hcp i k xs b off hx hc) hs
  refine⟨h.framed.trans (hC.framed h.framed.now),hC.ok,h.size,h.defers,fun i=> ?_,fun o cells hc=> ?_,fun i hi hf=> ?_,fun o ho=>(hβ o).trans (h.bp o ho),h.nle⟩
  · show RV g' w' (fun k j=>(st.upd l z).fl (.s i k j)) (fun k j=> .s i k j) (a.tmps.getD i undef) (lR st.sl l z i)
    cases l with
    | s i' k' j'=>
      by_cases e:i=i'
      · subst e
        have hs:=h.slots i; have hleaf:(st.sl i).leaf k' j'=some x0:=hat; have hroot:=(V.setLeaf_root (z:=z) hleaf).2; have efl:(fun k j=>(st.upd (.s i k' j') z).fl (.s i k j))=fun k j=>st.fl (.s i k j):=by funext k j; exact hother i (by rw[hroot]; simp) k j
        rw[efl]; simp only[lR,if_true]; have hcell: ∀(k j:Nat) t u,(st.sl i).leaf k j=some t→nV u→LF g w (st.fl (.s i k j)) (.s i k j) u t→(k,j)≠(k',j')→LF g' w' (st.fl (.s i k j)) (.s i k j) u t:=fun k j t u h1 h2 h3 h4=>hlf (.s i k j) t u h1 (by simpa using h4) h3
        have hW: ∀(k:Nat) (y:W) (u:Value),(st.sl i).comp k=some y→RW g w (fun j=>st.fl (.s i k j)) (fun j=> .s i k j) u y→(k=k'→Hh u j'=some v0∧y.leaf j'=some x0)→(∀j,(st.sl i).leaf k j=y.leaf j)→
            RW g' w' (fun j=>st.fl (.s i k j)) (fun j=> .s i k j) u (if k=k' then y.setLeaf j' z else y):=by
          intro k y u hy hr hkk hlv; by_cases ek:k=k'
          · subst ek
            rw[z17 rfl]; obtain⟨q1,q2⟩:=hkk rfl; cases y with
            | c t0=>
              cases j' with
              | succ j'=>simp [W.leaf]at q2
              | zero=>
                have hu:u=v0:=by
                  have:=(iX hr.1).1; rw[this]at q1; exact z50 q1
                subst hu; exact⟨hvn,hnew⟩
            | ag xs=>
              obtain⟨cs,rfl,c1,c2⟩:=hr; refine⟨cs,rfl,by simpa using c1,fun j t ht=> ?_⟩
              have hlt:j'<xs.length:=cK q2; rw[mE j hlt]at ht; by_cases ej:j=j'
              · subst ej
                rw[z17 rfl]at ht; cases ht; exact⟨v0,q1,hvn,hnew⟩
              · rw[z11 ej]at ht
                obtain⟨c,d1,d2,d3⟩:=c2 j t ht; exact⟨c,d1,d2,hcell k j t c (by rw[hlv]; exact ht) d2 d3 (by simp [ej])⟩
            | _=>simp [W.leaf]at q2
          · rw[z11 ek]
            cases y with
            | c t0=>exact⟨hr.1,hcell k 0 t0 u (by rw[hlv]; rfl) hr.1 hr.2 (by simp [ek])⟩
            | ag xs=>
              obtain⟨cs,rfl,c1,c2⟩:=hr; refine⟨cs,rfl,c1,fun j t ht=> ?_⟩
              obtain⟨c,d1,d2,d3⟩:=c2 j t ht; exact⟨c,d1,d2,hcell k j t c (by rw[hlv]; exact ht) d2 d3 (by simp [ek])⟩
            | ptr o off=>simp only[RW]at hr ⊢; rw[hβ]; exact hr
            | cp xs=>
              obtain⟨b,off,c1,c2⟩:=hr; exact⟨b,off,c1,hcp i k xs b off hy c2⟩
            | nilp=>exact hr
            | ifc b=>exact hr
            | fn f caps=>simp only[RW]at hr ⊢; simp only[hβ]; exact hr
            | _=>trivial
        cases hsl:st.sl i with
        | one y=>
          rw[hsl]at hs hleaf; cases k' with
          | succ k'=>simp [V.leaf]at hleaf
          | zero=>
            have:=hW 0 y (a.tmps.getD i undef) (by rw[hsl]; rfl) hs (fun _=>by
              obtain⟨u,hu,hu2,_,_⟩:=RW.leaf (show RW g w (fun j=>st.fl (.s i 0 j)) (fun j=> .s i 0 j) (a.tmps.getD i undef) y from hs) hleaf
              have hv':sG (a.tmps.getD i undef) 0 j'=some v0:=hv; rw[hu2]at hv'; cases hv'; exact⟨hu,hleaf⟩) (fun j=>by rw[hsl]; rfl)
            rw[z17 rfl]at this; exact this
        | tup ws=>
          rw[hsl]at hs hleaf; obtain⟨vs,e1,e2,e3⟩:=hs; simp only[V.leaf,z19]at hleaf; obtain⟨y0,hy0,hleaf⟩:=hleaf; simp only[V.setLeaf,hy0]; refine⟨vs,e1,by simpa using e2,fun k y hy=> ?_⟩
          rw[mE k (cK hy0)]at hy; by_cases ek:k=k'
          · subst ek
            rw[z17 rfl]at hy; cases hy; obtain⟨u,hu,hr⟩:=e3 k y0 hy0; refine⟨u,hu, ?_⟩
            have:=hW k y0 u (by rw[hsl]; exact hy0) hr (fun _=>by
              obtain⟨u2,hu2,_,_,_⟩:=RW.leaf hr hleaf; have hv':sG (a.tmps.getD i undef) k j'=some v0:=hv; rw[e1]at hv'; simp only[sG,hu,z8,hu2]at hv'; cases hv'; exact⟨hu2,hleaf⟩) (fun j=>by rw[hsl]; simp [V.leaf,hy0])
            simpa using this
          · rw[z11 ek]at hy
            obtain⟨u,hu,hr⟩:=e3 k y hy; refine⟨u,hu, ?_⟩
            have:=hW k y u (by rw[hsl]; exact hy) hr (fun e=>absurd e ek) (fun j=>by rw[hsl]; simp [V.leaf,hy])
            simpa [ek]using this
      · simp only[lR,z11 e]
        exact hrv i (fun k j=>by simp [e])
    | oc o' j'=>exact hrv i (fun k j=>by simp)
    | _=>simp [St.at,atL]at hat
  · have hc':sF st.ob l z o=some cells:=hc
    have plain:st.ob o=some cells→(∀j,Loc.oc o j≠l)→ ∃arr ty,w'.heap[g'.β o]? =some (.cells arr ty (0,0))∧arr.size=cells.length∧g'.own (g'.β o)= .obj o∧ ∀(j:Nat) x,cells[j]? =some x→ ∃c,arr[j]? =some c∧nV c∧LF g' w' ((st.upd l z).fl (.oc o j)) (.oc o j) c x:=fun hc hne=>by
      obtain⟨arr,ty,r1,r2,r3,r4⟩:=h.obs o cells hc; obtain⟨e1,e2⟩:=hobj o _ r3; rw[hβ]; refine⟨arr,ty,e2.trans r1,r2,e1,fun j x hx=> ?_⟩
      obtain⟨c,d1,d2,d3⟩:=r4 j x hx; exact⟨c,d1,d2,hlf (.oc o j) x c (by rw[St.at_oc,hc]; exact hx) (hne j) d3⟩
    cases l with
    | oc o' j'=>
      simp only[sF]at hc'; by_cases e:o=o'
      · subst e
        rw[z17 rfl,z22]at hc'; obtain⟨cells0,hc0,rfl⟩:=hc'; obtain⟨arr,ty,r1,r2,r3,r4⟩:=h.obs o cells0 hc0; obtain⟨e1,e2⟩:=hobj o _ r3; have hat':cells0[j']? =some x0:=by rw[St.at_oc,hc0]at hat; exact hat
        rw[hβ]; refine⟨arr,ty,e2.trans r1,by simpa using r2,e1,fun j x hx=> ?_⟩
        rw[mE j (cK hat')]at hx; by_cases ej:j=j'
        · subst ej
          rw[z17 rfl]at hx; cases hx; refine⟨v0, ?_,hvn,hnew⟩
          have hv':w.cell? ⟨g.β o,j,none⟩=some v0:=hv; rw[cJ w _ j _ _ _ r1]at hv'; exact hv'
        · rw[z11 ej]at hx
          obtain⟨c,d1,d2,d3⟩:=r4 j x hx; exact⟨c,d1,d2,hlf (.oc o j) x c (by rw[St.at_oc,hc0]; exact hx) (by simp [ej]) d3⟩
      · rw[z11 e]at hc'
        exact plain hc' (fun j=>by simp [e])
    | s i' k' j'=>exact plain hc' (fun j=>by simp)
    | _=>simp [St.at,atL]at hat
  · have hsl:aI ((st.upd l z).sl i)=aI (st.sl i)∧(aI (st.sl i)≠ .none→(st.upd l z).sl i=st.sl i):=by
      show aI (lR st.sl l z i)=_∧(_→lR st.sl l z i=_); cases l with
      | s i' k' j'=>
        simp only[lR]; by_cases e:i=i'
        · subst e
          rw[z17 rfl]; obtain⟨q1,q2⟩:=V.setLeaf_root (z:=z) (show(st.sl i).leaf k' j'=some x0 from hat); exact⟨q1.trans q2.symm,fun hne=>absurd q2 hne⟩
        · rw[z11 e]; exact⟨rfl,fun _=>rfl⟩
      | _=>exact⟨rfl,fun _=>rfl⟩
    rw[hsl.1]at hi; rw[hsl.2 hi]; by_cases etop:aI (st.sl i)=l
    · have ht:JX (st.sl i)=true:=by
        cases ht:JX (st.sl i)with
        | true=>rfl
        | false=>exfalso; apply hf; simp [St.upd,etop,ht]
      have hf1:st.fl (.s i 0 0)≠ .D:=fun e2=>hf (by
        simp only[St.upd]; rw[z11 (by rw[ht]; simp)]; exact e2)
      obtain⟨p1,p2⟩:=h.pls i hi hf1; rw[etop]at p1 ⊢; refine⟨by rw[SK hln hat]; exact p1, ?_⟩
      have hv':vAt a.tmps g'.β w' l=some v0:=by
        cases l with
        | oc o j=>
          have hat2:=hat; simp only[St.at,atL,z19]at hat2; obtain⟨cells,hc,hj⟩:=hat2; obtain⟨arr,ty,r1,r2,r3,r4⟩:=h.obs o cells hc; obtain⟨e1,e2⟩:=hobj o _ r3; have hv2:w.cell? ⟨g.β o,j,none⟩=some v0:=hv; show w'.cell? ⟨g'.β o,j,none⟩=some v0; rw[hβ,cI e2]; exact hv2
        | _=>exact hv
      cases hs:st.sl i with
      | tup ws=>rw[hs]at ht; cases ht
      | one y=>
        rw[hs]at ht p2 etop; cases y with
        | al l' p=>
          cases p with
          | cons a p=>cases ht
          | nil=>
            have:l'=l:=etop; subst this; obtain⟨v1,x1,x',e1,e2,e3⟩:=p2; rw[hv]at e1; have e4:=z50 e1; subst e4; cases e3; exact⟨_,z,z,hv',by rw[upd_at hat,z17 rfl], .nil _ _⟩
        | pp l' p n j=>
          cases p with
          | cons a p=>cases ht
          | nil=>
            have:l'=l:=etop; subst this; rcases hpp with hpp | hpp
            · exact absurd (hpp i n j hs) hf1
            · obtain⟨v1,x1,b,off,len,cap,es,e,e1,e2,e3,e4,e5⟩:=p2
              have e2':some x0=some x1:=hat.symm.trans e2; have e6:=z50 e2'; rw[hv]at e1; have e7:=z50 e1; subst e6; subst e7; cases e3; obtain⟨es',r1,r2⟩:=hpp es rfl; obtain⟨e',r3,r4⟩:=r2 n e e4; subst r1; exact⟨_, .sl es',b,off,len,cap,es',e',hv',by rw[upd_at hat,z17 rfl], .nil _ _,r3,by rw[r4]; exact e5⟩
        | _=>cases ht
    have hf1:aI (st.sl i)≠l∧st.fl (.s i 0 0)≠ .D:=⟨etop,by rw[hother i etop]at hf; exact hf⟩
    obtain⟨p1,p2⟩:=h.pls i hi hf1.2; obtain⟨t,ht⟩:=p2.root hi; have hXr:=hX _ t p1 ht hf1.1; refine⟨by rw[SK hln ht]; exact p1, ?_⟩
    have hβ':g'.β=g.β:=funext hβ; refine p2.congr ?_ (by rw[upd_at hat,z11 hf1.1]) (fun v1 x1 p v' x' e1 e2 hp=>h.pl_evo hC.evo hC.none p1 hXr e1 e2 hp)
    rw[hβ']; generalize hr:aI (st.sl i)=m at*; cases m with
    | oc o j=>
      simp only[vAt]; simp only[St.at,atL,z19]at ht; obtain⟨cells',hc',_⟩:=ht; obtain⟨arr',ty',k1,k2,k3,k4⟩:=h.obs o cells' hc'; exact cI (hobj o _ k3).2
    | _=>rfl

theorem Rg{st:St}{l:Loc}{x:T}(a:st.at l=some x):st.killV.fl l=if st.fl l= .V then .D else st.fl l:=xA (f:=fun m=>if st.fl m= .V then .D else st.fl m) rfl a

section
variable {P:Program} {τ:TypeId→Option TI} {g0:G} {w0:World} {o:Oper} {st:St} {d:Nat}

theorem Mn{x0:T}{p:List (Nat×Nat)}{a:List (List T)}{row xs:List T}{n j:Nat}(b:nav x0 p=some (.sl a))(f:a[n]? =some row)(s:j+xs.length≤row.length):Rows x0 (bV x0 p (.sl (a.set n (row.take j++xs++row.drop (j+xs.length))))):=by
 have c: ∀(a:List (List T)) (n:Nat) (r:List T),(∀row,a[n]? =some row→r.length=row.length)→ ∀(i:Nat) e,a[i]? =some e→ ∃l,(a.set n r)[i]? =some l∧l.length=e.length:=fun a n r t i e g=>by
  have q:=cK g; by_cases h:i=n
  ·subst h
   exact⟨r,by rw[z60 q],t e g⟩
  ·exact⟨e,by rw[WB (fun e=>h e.symm)]; exact g,rfl⟩
 intro m h0; subst h0; cases p with
 | nil=>
  simp only[nav,z9,T.sl.injEq]at b; subst b; refine⟨_,rfl,c _ _ _ (fun r h=> ?_)⟩
  rw[f]at h; cases h; simp only[z32,z44,z65]; omega
 | cons ij p=>
  obtain⟨i,k⟩:=ij; refine⟨_,rfl,c _ _ _ (fun r h=> ?_)⟩
  rw[z88,xD h]

def K.turn(f:Bool)(p:List (Nat×Nat)):K→Bool
 | .A _=> !f&&p.isEmpty
 | .U _=>f
 | _=>false

theorem Mq(hT:aX P τ){t:TypeId}{tx:Nat}{y:Operand}{i:TI}{l:Loc}{p:List (Nat×Nat)}{n j:Nat}{x0:T}{Z:List (List T)}{row xs:List T}(f:Bool)(hd:o.dst=none)(ho:o.op= .store t (.tmp tx) y)(hi:τ t=some i)
  (hx:st.sl tx= .one (.pp l p n j))(hln:l≠ .none)(q:st.fl (.s tx 0 0)≠ .D∧st.fl (.s tx 0 0)≠ .V)(J:st.at l=some x0)(hnav:nav x0 p=some (.sl Z))(C:Z[n]? =some row)(hy:aT (ev st.sl y)=some xs)(hsz:xs.length=i.size)(hle:j+xs.length≤row.length)
  (r:(st.fl l).turn f p=true)(hyk: ∀c,c<xs.length→(FE st y c).part f=true)(M:dZ [y] l=false):
  qD P g0 w0 o st ((st.killV.lowT [y]).upd l (bV x0 p (.sl (Z.set n (row.take j++xs++row.drop (j+xs.length)))))):=by
 intro a w ⟨g,hs⟩; obtain⟨hhold,v0,b,off,len,I,hv0,hpl,hptr,_⟩:=hs.ppCell hx hln q.1 J hnav C; have hlp:=at_isPlace J; have hnV:st.fl l≠ .V:=by intro e; rw[e]at r; simp [K.turn]at r
 obtain⟨v0',e1,hvn,hlf⟩:=hs.get J; rw[hv0]at e1; cases e1; have hroot: ∃t0,Ow (frz g w) f w t0 (fun k=>g.own k=l) v0 x0∧((∃s,st.fl l= .A s∧t0=some s∧f=false∧p=[])∨ ∃s,st.fl l= .U s∧t0=gQ s∧f=true):=by
  cases hκ:st.fl l with
  | A s=>
   rw[hκ]at r hlf; simp only[K.turn,z7,z35]at r; have hp:p=[]:=by simpa using r.2
   refine⟨some s, ?_, .inl ⟨s,rfl,rfl,r.1,hp⟩⟩
   rw[r.1]; exact hlf
  | U s=>
   rw[hκ]at r hlf; have hf:f=true:=r; refine⟨gQ s, ?_, .inr ⟨s,rfl,rfl,hf⟩⟩
   rw[hf]; exact hlf
  | _=>rw[hκ]at r; simp [K.turn]at r
 obtain⟨t0,hOw,O⟩:=hroot
 have hpart: ∃(Fp:Nat→Prop) (t':Option Nat),(∀k,Fp k→g.own k=l)∧Ow (frz g w) f w t' Fp (.slice (some ⟨b,off,none⟩) len I) (.sl Z)∧ ¬ (f=false∧t'=none)∧
   ∀(Z':Nat→Prop) (w':World) (N Gd:Nat→Prop) (y:T),(∀k,g.own k=l→ ¬ Fp k→Gd k∧w'.heap[k]? =w.heap[k]?)→(∀k,N k→Gd k)→(∀k,N k→g.own k=l→Fp k)→Ow Z' f w' t' N (.slice (some ⟨b,off,none⟩) len I) y→Ow Z' f w' t0 Gd v0 (bV x0 p y):=by
  rcases O with⟨s,_,L,hf,hp⟩ | ⟨s,_,L,hf⟩
  ·subst hp
   cases hpl; subst L; refine⟨fun k=>g.own k=l,some s,fun _ h=>h,hOw,by simp,fun Z' w' N Gd y _ h2 _ h4=> ?_⟩
   have:bV (.sl Z) [] y=y:=rfl; rw[this]; exact h4.mono (fun e=>e) (fun _ k q=>⟨q,rfl⟩) (fun k q=>⟨h2 k q,rfl⟩)
  ·subst hf
   obtain⟨Fp,q1,q2,q3⟩:=Ow.part hOw hpl; exact⟨Fp,_,q1,q2,by simp,q3⟩
 obtain⟨Fp,t',q1,q2,q3,q4⟩:=hpart; have hblk: ∃H ty s',w.heap[b]? =some (.cells H ty (0,0))∧H.size=I*s'∧off=0∧len≤I∧Z.length=len∧row.length=s'∧Fp b:=by
  cases q2 with
  | nil t F a=>simp at C
  | frz F v x hd h=>exact absurd ⟨hd,rfl⟩ q3
  | sl t F b len I s H ty Z own cs ht hb hh hl B hcap hs ha W hr=>exact⟨H,ty,s,hh,ha,rfl,B,hl,hs n row C,hb⟩
 obtain⟨H,ty,s',hh,hasz,hoff,hlc,hel,hrl,hFb⟩:=hblk; have hbl:g.own b=l:=q1 b hFb; obtain⟨k1,k2,k3,k4,_⟩:=iK (hs.ev_rv y (fun _ _=> .none)) hy
 obtain⟨info,_,_,r1,_,r3,_⟩:=hT.get hi; have hnlt:n<Z.length:=cK C; have Y:off+n*row.length+j+xs.length≤H.size:=by
  rw[hasz,hoff,hrl]; have h1:(n+1)*s'≤I*s':=z64 s' (by omega)
  rw[Ub]at h1; omega
 have hone: ∀v∈(a.eval y).cells.toList,v.oneCell'=true:=fun v hv=>by
  obtain⟨c,hc⟩:=z71 hv
  have B:c<xs.length:=by have:=cK hc; simp only[z45]at this; omega
  obtain⟨u,u1,u2,_⟩:=k2 c xs[c] (z16 B)
  rw[z26]at hc
  rw[hc]at u1; cases u1; exact qB u2
 have B:(a.eval y).cells.toList.length=xs.length:=by simpa using k1
 obtain⟨w',s1,s2,s3,s4,s5,s6,s7⟩:=pC (P:=P) (p:=off+n*row.length+j) hh (a.eval y).cells.toList (by rw[B]; exact Y) hone
 have hv:(execOp a.eval o).run P w= .ok .skip w':=by
  obtain⟨dst,op,ty',pos,after,guard⟩:=o; simp only at ho; subst ho; have X: ¬ (a.eval y).cells.size≠info.size:=by rw[k1,r3,hsz]; simp
  have e1:a.eval (.tmp tx)= .pointer (some ⟨b,off+n*row.length+j,none⟩):=hptr; simp only[execOp,Instr.storeAt,e1,Instr.sureAddr,Sem.run_bind,Sem.run_pure,Result.andThen_ok,storeVar,sizeOf,typeInfo,run_program,r1,z11 X,s1]
 refine⟨_,_,hv, .inr ⟨rfl, ?_⟩⟩
 rw[hd]; let g':G:= { β:=g.β,own:=fun k=>if dZ [y] (g.own k)=true then l else g.own k }
 have E:=Loc.place_ne hlp; have R: ∀k,dZ [y] (g.own k)=false→g'.own k=g.own k:=fun k q=>by show(if _ then _ else _)=_; rw[z11 (by rw[q]; simp)]
 have hgl: ∀k,dZ [y] (g.own k)=true→g'.own k=l:=fun k q=>by show(if _ then _ else _)=_; rw[z17 q]
 have hforT: ∀m,dZ [y] m=true→ ¬ qQ m∧ ∀o,m≠ .obj o:=fun m W=>by
  have:=Loc.place_ne (CE W); exact⟨fun h=>h.elim this.1 this.2.1,this.2.2⟩
 have hZ: ∀k,frz g w k→frz g' w' k∧w'.heap[k]? =w.heap[k]? :=fun k q=>by
  refine⟨⟨by rw[s4]; exact q.1, ?_⟩,s3 k (fun e=>by rw[e]at q; exact hln (hbl.symm.trans q.2))⟩
  rw[R k (by rw[q.2]; rfl)]; exact q.2
 have hs1:=hs.killV.lowT [y]; have hC:zW g w g' w' (fun m=>m=l∨dZ [y] m=true) (st.killV.lowT [y]):=by
  refine⟨⟨by rw[s4]; exact z59 _,fun k _ hX=>⟨R k (by simpa using fun h=>hX (.inr h)),s3 k (fun e=>hX (.inl (by rw[e]; exact hbl)))⟩⟩,fun m W=> ?_, .inr (fun m=> ?_),s5,s6,s7,⟨fun k q=> ?_⟩⟩
  ·rcases W with rfl | W
   ·exact⟨fun h=>h.elim E.1 E.2.1,E.2.2⟩
   ·exact hforT m W
  ·refine rW (fun m=> ?_) m
   split
   ·simp
   ·exact sS st m
  ·rw[s4]
   by_cases e:dZ [y] (g.own k)=true
   ·exact hs.ok.own k (fun e2=>by rw[e2]at e; simp [dZ]at e)
   ·rw[R k (by simpa using e)]at q; exact hs.ok.own k q
 have hat1:(st.killV.lowT [y]).at l=some x0:=J; have hfl1:(st.killV.lowT [y]).fl l=st.fl l:=by
  rw[KQ (st:=st.killV) J,Rg J,z11 hnV,z11 (by rw[M]; simp)]
 have hres:bP g0 w0 ((st.killV.lowT [y]).upd l (bV x0 p (.sl (Z.set n (row.take j++xs++row.drop (j+xs.length)))))) a g' w':=by
  refine hs1.upd hC (fun _=>rfl) hat1 hv0 (fun m x W hmx X hX=> ?_) (.inr (Mn hnav C hle)) ?_
  ·rcases hX with e | e
   ·exact X e
   ·rw[KQ (st:=st.killV) (x:=x) hmx,e]at W
    split at W
    ·simp [K.hold]at W
    ·rename_i h; simp [W]at h
  ·rw[hfl1]
   have hcells:=Ow.cells (Z':=frz g' w') (w':=w') (N:=fun k=>dZ [y] (g.own k)=true) (ownN:=fun k=>match g.own k with | .s _ _ c=>c | _=>0) (vs:=(a.eval y).cells.toList) (ys:=xs) (j:=j) q2 q3 C hle B hh s2 (by
     simp only[z87,z32,z44,z65,z45]; rw[B]at*; omega) (fun k=>by
     have:=sB H.toList (a.eval y).cells.toList (off+n*row.length+j) (by rw[B]; simpa using Y) k
     rw[B]at this; rw[B]; simpa using this) (fun _=>hZ) (fun k _ X=>s3 k X) (fun k hN hF=>by
     have:=q1 k hF; rw[this,M]at hN; cases hN) (fun c z hz=>by
     obtain⟨u,u1,u2,u3⟩:=k2 c z hz; have hclt:c<xs.length:=cK hz; refine⟨u,by rw[z26]; exact u1, ?_⟩
     have hq:LF g w (FE st y c) (match y with | .tmp ty=> .s ty 0 c | _=> .none) u z:=by
      cases y with
      | tmp ty=>
       obtain⟨m1,m2,_⟩:=iK (hs.slots ty) hy; obtain⟨u',v1,_,v3⟩:=m2 c z hz; have:a.eval (.tmp ty)=a.tmps.getD ty undef:=rfl; rw[this,v1]at u1; cases u1; exact v3
      | const v=>
       obtain⟨m1,m2,_⟩:=iK (uV g w (fun _ _=> .none) v) hy
       obtain⟨u',v1,_,v3⟩:=m2 c z hz; have:a.eval (.const v)=v:=rfl; rw[this,v1]at u1; cases u1; exact v3
      | func f=>simp [ev,aT]at hy
      | global n=>simp [ev,aT]at hy
     refine LF.part (g':=g') (w':=w') hq (hyk c hclt) hZ (fun hh k q=> ?_)
     cases y with
     | tmp ty=>
      simp only at q; have hin:dZ [Operand.tmp ty] (g.own k)=true:=by rw[q]; simp [dZ,yL]
      refine⟨⟨hin,by rw[q]⟩,s3 k (fun e=> ?_)⟩
      rw[e,hbl]at hin; rw[M]at hin; cases hin
     | const v=>
      exfalso
      have S:(jD (bE v) 0 c).hold=true:=hh; unfold jD at S; split at S
      ·split at S<;>cases S
      ·cases S
     | func f=>simp [ev,aT]at hy
     | global n=>simp [ev,aT]at hy)
   have Q:=q4 (frz g' w') w' (fun k=>Fp k∨dZ [y] (g.own k)=true) (fun k=>g'.own k=l) _ (fun k q hn=>⟨by rw[R k (by rw[q]; exact M)]; exact q,s3 k (fun e=>hn (by rw[e]; exact hFb))⟩)
    (fun k q=>by
     rcases q with h | h
     ·rw[R k (by rw[q1 k h]; exact M)]; exact q1 k h
     ·exact hgl k h) (fun k q hl2=>by
     rcases q with h | h
     ·exact h
     ·rw[hl2,M]at h; cases h) hcells
   rcases O with⟨s,hκ,L,hf,_⟩ | ⟨s,hκ,L,hf⟩
   ·rw[hκ]; subst hf; subst L; exact Q
   ·rw[hκ]; subst hf; subst L; exact Q
 exact⟨g',hres⟩
end

def D.upd(x:D)(l:Loc)(z:T):D:= { sl:=lR x.sl l z,ob:=sF x.ob l z }

theorem Dv: ∀ {xs ys:List T} {j:Nat} {t z:T},iG xs ys=true→xs[j]? =some t→(∀u,tI t u=tI z u)→iG (xs.set j z) ys=true
 | [],ys,j,t,z,_,h,_=>by simp at h
 | x::xs,[],j,t,z,h,_,_=>by simp [iG]at h
 | x::xs,y::ys,0,t,z,h,a,c=>by
  simp only[z20,z9]at a
  subst a; simp only[iG,z7,Vx]at h ⊢; exact⟨by rw[←c]; exact h.1,h.2⟩
 | x::xs,y::ys,j+1,t,z,h,a,c=>by
  simp only[z21]at a
  simp only[iG,z7,z135]at h ⊢; exact⟨h.1,Dv h.2 a c⟩

theorem JN{w s:W}{j:Nat}{t z:T}(h:bO w s=true)(a:w.leaf j=some t)(e: ∀u,tI t u=tI z u):bO (w.setLeaf j z) s=true:=by
 cases w with
 | c y=>
  cases j with
  | succ j=>simp [W.leaf]at a
  | zero=>
   simp only[W.leaf,z9]at a; subst a; cases s<;>simp [bO]at h
   simp only[W.setLeaf,bO]; rw[←e]; exact h
 | ag xs=>
  cases s<;>simp [bO]at h
  simp only[W.setLeaf,bO]; exact Dv h a e
 | _=>simp [W.leaf]at a

theorem GZ: ∀ {f g:List W} {k j:Nat} {w:W} {t z:T},nT f g=true→f[k]? =some w→w.leaf j=some t→(∀u,tI t u=tI z u)→nT (f.set k (w.setLeaf j z)) g=true
 | [],_,k,j,w,t,z,_,h,_,_=>by simp at h
 | x::xs,[],k,j,w,t,z,h,_,_,_=>by simp [nT]at h
 | x::xs,y::ys,0,j,w,t,z,h,a,c,e=>by
  simp only[z20,z9]at a
  subst a; simp only[nT,z7,Vx]at h ⊢; exact⟨JN h.1 c e,h.2⟩
 | x::xs,y::ys,k+1,j,w,t,z,h,a,c,e=>by
  simp only[z21]at a
  simp only[nT,z7,z135]at h ⊢; exact⟨h.1,GZ h.2 a c e⟩

theorem Rt{v s:V}{k j:Nat}{t z:T}(h:fits v s=true)(a:v.leaf k j=some t)(c: ∀u,tI t u=tI z u):fits (v.setLeaf k j z) s=true:=by
 cases v with
 | one w=>
  cases k with
  | succ k=>simp [V.leaf]at a
  | zero=>
   cases s with
   | tup f=>simp [fits]at h
   | one y=>exact JN h a c
 | tup g=>
  cases s with
  | one y=>simp [fits]at h
  | tup f=>
   simp only[V.leaf,z19]at a; obtain⟨w,e,a⟩:=a; simp only[V.setLeaf,e,fits]; exact GZ h e a c

theorem GL{x:T}{p:List (Nat×Nat)}{a es':List (List T)}(h:nav x p=some (.sl a))(u:T):tI x u=tI (bV x p (.sl es')) u:=by
 cases p with
 | nil=>
  have e:x= .sl a:=by cases x<;>simp [nav]at h; rw[h]
  subst e; cases u<;>rfl
 | cons ij p=>
  obtain⟨i,j⟩:=ij; cases x with
  | sl c=>cases u<;>rfl
  | _=>simp [nav]at h

section
variable {P:Program} {τ:TypeId→Option TI} {F:FA} {o:Oper} {b b':B} {x x':D} {d:Nat}

theorem Ag.upd(c:Ag F b x){l:Loc}{t z:T}(v:b.hasL l=true)(a:x.at l=some t)(m: ∀u,tI t u=tI z u):Ag F b (x.upd l z):=by
 refine⟨fun i h=> ?_,fun o ho=> ?_⟩
 ·show lR x.sl l z i=_∨Own.fits (lR x.sl l z i) _=true
  cases l with
  | s q k j=>
   simp only[lR]; by_cases e:i=q
   ·subst e
    rw[z17 rfl]; have f:(x.sl i).leaf k j=some t:=a; rcases c.sl i h with g | g
    ·rw[g]at f; cases k<;>simp [V.leaf,W.leaf]at f
    ·exact .inr (Rt g f m)
   ·rw[z11 e]; exact c.sl i h
  | _=>exact c.sl i h
 ·show ∃cs,sF x.ob l z o=some cs∧_
  cases l with
  | oc r j=>
   simp only[sF]; by_cases e:o=r
   ·subst e
    rw[z17 rfl]; obtain⟨cs,h1,p⟩:=c.ob o ho; have f:cs[j]? =some t:=by simp only[D.at,atL,h1,z8]at a; exact a
    exact⟨cs.set j z,by rw[h1]; rfl,Dv p f m⟩
   ·rw[z11 e]; exact c.ob o ho
  | _=>exact c.ob o ho

theorem Rs{v s:V}(h:fits v s=true):JX v=JX s:=by
 cases v with
 | tup c=>cases s<;>first | rfl | simp [fits]at h
 | one x=>
  cases s with
  | tup c=>simp [fits]at h
  | one y=>
   cases x with
   | al l p=>
    cases y<;>simp [fits,bO]at h
    rename_i l' a; cases p<;>cases a<;>first | rfl | simp at h
   | pp l p i j=>
    cases y<;>simp [fits,bO]at h
    rename_i l' a e f; cases p<;>cases a<;>first | rfl | simp at h
   | _=>cases y<;>first | rfl | simp [fits,bO]at h
def fU(F:FA)(l:Loc)(i:Nat):Bool:= !(decide (aI (F.shOf i)=l))||JX (F.shOf i)

theorem Gq{n:Nat}{s:St}(Y:Ag F b x)(h:Low n b x s){l:Loc}{t z:T}(Z:b.hasL l=true)(u:x.at l=some t)(O:l≠ .none):Low n (b.filt (fU F l)) (x.upd l z) (s.upd l z):=by
 have f: ∀i,(b.filt (fU F l)).has i=true→b.has i=true∧fU F l i=true:=fun i a=>by rw[eU]at a; simpa [and_comm]using a
 have K: ∀i,(b.filt (fU F l)).has i=true→aI (s.sl i)≠l∨JX (s.sl i)=true:=fun i a=>by
  obtain⟨h1,G⟩:=f i a; rw[h.sl i h1]; rcases Y.sl i h1 with e | e
  ·rw[e]; exact .inl (Ne.symm O)
  ·rw[eF e,Rs e]; simpa [fU]using G
 have H: ∀i k j,(b.filt (fU F l)).has i=true→(s.upd l z).fl (.s i k j)=s.fl (.s i k j):=fun i k j a=>by
  simp only[St.upd]; rw[z11 (fun e=>(K i a).elim (fun h=>h e.2.2.1) (fun h=>by rw[e.2.2.2]at h; cases h))]
 have I: ∀i k j,(b.filt (fU F l)).has i=true→(b.filt (fU F l)).kd (.s i k j)=b.kd (.s i k j):=fun i k j a=>gN (f i a).2
 have Q: ∀i,b.has i=true→lR s.sl l z i=lR x.sl l z i:=fun i a=>by
  cases l with
  | s L k j=>simp only[lR,h.sl i a]
  | _=>exact h.sl i a
 have J: ∀i k j r,(x.upd l z).at (.s i k j)=some r→ ∃q,x.at (.s i k j)=some q:=fun i k j r g=>by
  have g:(lR x.sl l z i).leaf k j=some r:=g; cases l with
  | s L A v=>
   simp only[lR]at g; by_cases e:i=L
   ·subst e
    rw[z17 rfl,V.setLeaf_leaf (show(x.sl i).leaf A v=some t from u)]at g; by_cases R:k=A∧j=v
    ·obtain⟨rfl,rfl⟩:=R; exact⟨t,u⟩
    ·rw[z11 R]at g; exact⟨r,g⟩
   ·rw[z11 e]at g; exact⟨r,g⟩
  | _=>exact⟨r,g⟩
 refine⟨h.n,fun i a=>Q i (f i a).1,fun o ho=> ?_,fun m r N g=> ?_,fun i k xs a p=> ?_,fun i a E S=> ?_⟩
 ·show sF s.ob l z o=sF x.ob l z o
  cases l with
  | oc X j=>simp only[sF,h.ob o ho]
  | _=>exact h.ob o ho
 ·cases m with
  | s i k j=>
   obtain⟨q,G⟩:=J i k j r g; rw[H i k j N,I i k j N]; exact h.fl (.s i k j) q (f i N).1 G
  | oc o j=>
   have: ∃q,x.at (.oc o j)=some q:=by
    have g:(sF x.ob l z o).bind (·[j]?)=some r:=g
    cases l with
    | oc X v=>
     simp only[sF]at g; by_cases e:o=X
     ·subst e
      rw[z17 rfl]at g; simp only[z19,z22]at g; obtain⟨_,⟨cs,h1,rfl⟩,G⟩:=g; have M:=cK G; rw[z88]at M; exact⟨cs[j],by simp only[D.at,atL,h1,z8]; exact z16 M⟩
     ·rw[z11 e]at g; exact⟨r,g⟩
    | _=>exact⟨r,g⟩
   obtain⟨q,G⟩:=this; exact h.fl (.oc o j) q N G
  | _=>cases N
 ·rw[H i k 0 a,I i k 0 a]
  refine h.cp i k xs (f i a).1 ?_
  have p:(lR x.sl l z i).comp k=some (.cp xs):=p; cases l with
  | s L A v=>
   simp only[lR]at p; by_cases e:i=L
   ·subst e
    rw[z17 rfl]at p; have C:(x.sl i).leaf A v=some t:=u; cases hv:x.sl i with
    | one w=>
     rw[hv]at p C; cases A with
     | succ A=>simp [V.leaf]at C
     | zero=>
      cases k with
      | succ k=>simp [V.setLeaf,V.comp]at p
      | zero=>
       cases w with
       | c y=>cases v<;>simp [V.setLeaf,W.setLeaf,V.comp]at p
       | ag ys=>simp [V.setLeaf,W.setLeaf,V.comp]at p
       | _=>simp [V.leaf,W.leaf]at C
    | tup ws=>
     rw[hv]at p C; simp only[V.leaf,z19]at C; obtain⟨w,U,C⟩:=C; simp only[V.setLeaf,U,V.comp]at p ⊢; rw[mE k (cK U)]at p; by_cases e:k=A
     ·rw[z17 e]at p
      cases w with
      | c y=>cases v<;>simp [W.setLeaf]at p
      | ag ys=>simp [W.setLeaf]at p
      | _=>simp [W.leaf]at C
     ·rw[z11 e]at p; exact p
   ·rw[z11 e]at p; exact p
  | _=>exact p
 ·rw[H i 0 0 a]
  rw[I i 0 0 a]at S; refine h.al i (f i a).1 ?_ S
  have E:aI (lR x.sl l z i)≠ .none:=E; cases l with
  | s L A v=>
   simp only[lR]at E; by_cases e:i=L
   ·subst e
    rw[z17 rfl,(V.setLeaf_root (show(x.sl i).leaf A v=some t from u)).1]at E; exact absurd rfl E
   ·rw[z11 e]at E; exact E
  | _=>exact E

def sE(F:FA)(x:D)(i:TI)(l:Loc)(p:List (Nat×Nat))(n j:Nat)(xs:List T):Option D:=match x.at l with
 | some x0=>(match nav x0 p with
  | some (.sl es)=>(match es[n]? with
   | some row=>bif Nat.beq xs.length i.size&&Nat.ble (j+xs.length) row.length then some (x.upd l (bV x0 p (.sl (es.set n (row.take j++xs++row.drop (j+xs.length))))))else none
   | none=>none)
  | _=>none)
 | none=>none
def isU:K→Bool
 | .U _=>true
 | _=>false
def Ae(F:FA)(b:B)(i:TI)(l:Loc)(p:List (Nat×Nat))(tx:Nat)(y:Operand):Option B:=
 bif b.has tx&&dN b y&&CV F b F.n (.tmp tx)&& !(decide (b.kd (.s tx 0 0)= .V))&&(b.kd l).turn (isU (b.kd l)) p&&(range' 0 i.size).all (fun c=>(Ke b y c).part (isU (b.kd l)))&& !(dZ [y] l)&&LZ F b tx then
  some ((((b.killV F).lowT F [y]).filt (fU F l)).nrm F)else none

theorem RF{κ:K}{f:Bool}{p c:List (Nat×Nat)}(h:κ.turn f c=true)(e:p.length=c.length):κ.turn f p=true:=by
 cases κ with
 | A s=>
  simp only[K.turn,z7]at h ⊢; refine⟨h.1, ?_⟩
  cases p with
  | nil=>rfl
  | cons a p=>cases c with
   | nil=>simp at e
   | cons a' c=>simp at h
 | _=>exact h

theorem RI(hT:aX P τ)(C:Ag F b x){t:TypeId}{tx:Nat}{y:Operand}{i:TI}{l:Loc}{p N:List (Nat×Nat)}{n n' j:Nat}{xs:List T}(hd:o.dst=none)(ho:o.op= .store t (.tmp tx) y)(u:τ t=some i)(R:x.sl tx= .one (.pp l p n j))(hs:F.shOf tx= .one (.pp l N n' j))(J:p.length=N.length)
  (hy:aT (ev x.sl y)=some xs)(h1:sE F x i l p n j xs=some x')(A:Ae F b i l N tx y=some b'):OpS P F F.n o b x b' x':=by
 unfold Ae at A; obtain⟨H,A⟩:=aK A; simp only[z7]at H; obtain⟨⟨⟨⟨⟨⟨⟨O,U⟩,W⟩,X⟩,Y⟩,Z⟩,c7⟩,c8⟩:=H; cases A; unfold sE at h1; split at h1<;>try cases h1
 rename_i x0 a; split at h1<;>try cases h1
 rename_i es f; split at h1<;>try cases h1
 rename_i row z; obtain⟨L,h1⟩:=aK h1; simp only[z7]at L; cases h1; obtain⟨a1,a2,a3,a4⟩:=sV (d:=F.n) C O W (.inr ⟨p,n,j,R⟩); have G:b.kd (.s tx 0 0)≠ .V:=by simpa using X
 have M:=z14 L.1; have g:Ag F (b.killV F) x:=C.setf _ _; have r:Ag F ((b.killV F).lowT F [y]) x:=g.setf _ _; have Q:((b.killV F).lowT F [y]).hasL l=true:=by
  have hr: ∀i k j,l= .s i k j→aI (F.shOf i)= .none:=fun i k j e=>by
   subst e; exact C.leaf_root a4 a
  cases l with
  | s i k j=>
   show((b.killV F).lowT F [y]).has i=true; have u:b.has i=true:=a4; unfold B.lowT B.killV; rw[rX,rX,hr i k j rfl,u]; rfl
  | oc o j=>
   show((b.killV F).lowT F [y]).hasO o=true; unfold B.lowT B.killV; rw[gO,gO]; exact a4
  | _=>cases a4
 have w:Low F.n ((b.killV F).lowT F [y]) x ((b.S F.n x).killV.lowT [y]):=by
  have h0:=Dq (n:=F.n) C; have v: ∀m,(b.killV F).hasL m=true→(b.killV F).kd m= .D∨(b.killV F).kd m=(b.S F.n x).killV.fl m:=fun m I=>by
   have e:(b.S F.n x).killV.fl m=if b.kd m= .V then .D else b.kd m:=by
    cases m with
    | s i k j=>simp only[St.killV,St.setf]; rw[z11 (by simp)]; rfl
    | _=>rfl
   rw[e]; have hg:(b.killV F).get m=(b.get m).map fun q=>if q= .V then .D else q:=vA I
   unfold B.kd; rw[hg]; cases b.get m with
   | none=>exact .inl rfl
   | some q=>exact .inr rfl
  have hm1: ∀i,(b.killV F).has i=true→(b.killV F).hasL (.s i 0 0)=true:=fun i h=>h
  refine kU g h0 rfl (fun m I hl=> ?_) (fun i u hk E=> ?_)
  ·rcases v m I with e | e
   ·rw[e]; simp only[K.hold,z51,and_false,if_false]; exact Ic _
   ·rw[e]; exact dP _
  ·rcases v (.s i 0 0) u with e | e
   ·rw[e]at E; simp [K.hold]at E
   ·rw[e]at E; exact E
 refine OpS.fin ((r.upd Q a (GL f)).filt _) (fun g0 w0=> ?_) (Gq r w Q a a1)
 exact Mq hT (isU (b.kd l)) hd ho u (by rw[qO O]; exact R) a1 ⟨a3,G⟩ (by rw[Ig a4]; exact a) f z (by rw[pU U]; exact hy) M (z29 L.2)
  (RF Y J) (fun c H=>by
   have h:=z18.1 Z c (qZ.2 ⟨Si _,by omega⟩)
   have e:FE (b.S F.n x) y c=Ke b y c:=by cases y<;>rfl
   rw[e]; exact h) (by simpa using c7)
end

theorem Ow.cut{Z:Nat→Prop}{f:Bool}{w:World}{t:Option Nat}{F:Nat→Prop}{a:Option Addr}{len c:Nat}{l:List (List T)}(h:Ow Z f w t F (.slice a len c) (.sl l))(r: ¬ (f=false∧t=none)){k sz:Nat}(C:k≤l.length):Ow Z f w t F (.slice (if c=0 then a else a.map (·.add (0*sz))) k c) (.sl (l.take k)):=by
 cases h with
 | nil t F a=>
  obtain rfl:k=0:=by simpa using C
  exact .nil _ _ _
 | frz F v x z h=>exact absurd ⟨z,rfl⟩ r
 | sl t F b len c s p ty l own cs J y A L K m I u E H=>
  have e:(if c=0 then some (⟨b,0,none⟩:Addr)else(some (⟨b,0,none⟩:Addr)).map (·.add (0*sz)))=some ⟨b,0,none⟩:=by
   split
   ·rfl
   ·simp only[z33,Nat.zero_mul,kW,z69]
  rw[e]; have g: ∀ {i:Nat} {e:List T},(l.take k)[i]? =some e→l[i]? =some e:=fun {i e} h=>by
   rw[z66]at h
   split at h
   ·exact h
   ·cases h
  refine .sl t F b k c s p ty _ own cs J y A (by rw[z44]; omega) (by omega) m (fun i e h=>I i e (g h)) u (fun i e j x h1 q=>E i e j x (g h1) q) (fun i e j x h1 q=>H i e j x (g h1) q)

section
variable {P:Program} {τ:TypeId→Option TI} {g0:G} {w0:World} {o:Oper} {st:St} {d:Nat}
theorem Wu(hT:aX P τ){ty:TypeId}{t:Nat}{hi:Option Operand}{r:T}(hd:o.dst=some d)(hn:d<st.n)(ho:o.op= .slice ty (.tmp t) none hi none)(H:t≠d)(hρ: ∀x∈o.op.operands,Rdy st false x){i:List (List T)}(p:st.sl t= .one (.c (.sl i)))(hk:(st.fl (.s t 0 0)).hold=true)
  (h:iN τ (evR st) o.op=some r):qD P g0 w0 o st ((st.put d (.one (.c r)) (fun _ _=> .V)).mvs [(.s t 0 0, .s d 0 0)]):=by
 intro a w ⟨g,O⟩; have hd':d<a.tmps.size:=by rw[O.size]; exact hn
 have L:evR st (.tmp t)= .one (.c (.sl i)):=by
  show vD st.sl st.ob (st.sl t)=_; rw[p]; rfl
 have q:o.op.operands= #[.tmp t]++hi.toArray:=by rw[ho]; cases hi<;>rfl
 have hρ1:Rdy st false (.tmp t):=hρ _ (by rw[q]; simp)
 rw[ho]at h; simp only[iN,L]at h; split at h
 ·simp_all
 ·rename_i e es' hs1 heq
  cases heq; obtain⟨C,he,h⟩:=z19.1 h; split at h
  ·rename_i J
   obtain⟨⟨l,u⟩,f,rfl⟩:=z22.1 h; obtain⟨td,htd,rfl⟩:=lI hT hs1; obtain⟨info,E,hsz,_⟩:=nM hT he; have I:Rd (pm g w false) w (a.eval (.tmp t)) (.sl i):=by
    have:=O.rp hρ1; rw[L]at this; exact this
   obtain⟨j,W,X,K⟩:=Kd I; rw[X]at I; obtain⟨b1,b2,m,b3,b4,b5,N⟩:=Ba (P:=P) (isSlice:=true) (w:=w) (Q:=pm g w false) (β:=g.β) (ρ:=a.eval) (fun y hy=>O.rp (hρ y (by rw[q]; rcases hy with h | h | h<;>simp_all))) f K
   have hm:m=W:=b5 rfl; subst hm; have hl0:l=0:=by
    unfold nN at f; simp only[z19]at f; obtain⟨_,_,lv,h2,f⟩:=f; cases h2; split at f<;>cases f
    rfl
   subst hl0; obtain⟨_,_,hr⟩:=Lq I (l:=0) (k:=u) (m:=m) b1 b2 b3 b4 (size:=C.size) (fun y hy=>by simpa using z18.1 J y hy)
   have hv:(execOp a.eval o).run P w= .ok (.value (.slice (if m=0 then j else j.map (·.add (0*C.size))) (u - 0) (m - 0))) w:=by
    obtain⟨dst,op,ty',pos,S,Y⟩:=o; simp only at ho; subst ho; simp only[execOp,Instr.sliceAt,Instr.slice,X,Sem.run_bind,Sem.run_pure,Result.andThen_ok,run_underlying htd,N,sizeOf,typeInfo,run_program,E,hsz]
   have M:Rd (all g w) w (.slice (if m=0 then j else j.map (·.add (0*C.size))) (u - 0) (m - 0)) (.sl ((i.drop 0).take (u - 0))):=hr
   have h1:=O.set (d:=d) (r:= .one (.c (.sl ((i.drop 0).take (u - 0))))) (κ:=fun _ _=> .V) hn ⟨M.not_agg,M⟩ (fun h=>absurd rfl h)
   have Z:(st.put d (.one (.c (.sl ((i.drop 0).take (u - 0))))) (fun _ _=> .V)).at (.s t 0 0)=some (.sl i):=by
    rw[at_put (by simp [aS,H]),St.at_s,p]; rfl
   have hfl:(st.put d (.one (.c (.sl ((i.drop 0).take (u - 0))))) (fun _ _=> .V)).fl (.s t 0 0)=st.fl (.s t 0 0):=by
    simp only[St.put]; rw[z11 H,z11 (fun h=> ?_)]
    rw[p]at h; exact absurd h.2.2 (by simp [aI,aS])
   obtain⟨vt,q1,_,z⟩:=O.get (l:= .s t 0 0) (x:= .sl i) (by rw[St.at_s,p]; rfl)
   have hvt:vt= .slice j i.length m:=by
    have:sG (a.tmps.getD t undef) 0 0=some vt:=q1; have e2:a.tmps.getD t undef= .slice j i.length m:=X; rw[e2]at this; cases this; rfl
   subst hvt; refine⟨_,w,hv, .inl ⟨_,rfl, ?_⟩⟩
   rw[hd]; refine⟨g.mv (.s t 0 0) (.s d 0 0),h1.mvG rfl rfl (by simp [H]) ⟨_,Z⟩ ⟨.sl ((i.drop 0).take (u - 0)),by rw[pL]; rfl⟩ (fun x v hx R=> ?_)⟩
   rw[pL]at hx; cases hx; have hv2:vAt (a.put (some d) (.slice (if m=0 then j else j.map (·.add (0*C.size))) (u - 0) (m - 0))).tmps g.β w (.s d 0 0)=some (.slice (if m=0 then j else j.map (·.add (0*C.size))) (u - 0) (m - 0)):=by
    simp only[vAt]; rw[Act.put_getD a d _ _ hd',z17 rfl]; rfl
   rw[hv2]at R; cases R; rw[hfl]; have hZ: ∀b,frz g w b→frz (g.mv (.s t 0 0) (.s d 0 0)) w b:=fun b f=>⟨f.1,by simp only[G.mv]; rw[z11 (by rw[f.2]; simp)]; exact f.2⟩
   have hF: ∀b,g.own b= .s t 0 0→(g.mv (.s t 0 0) (.s d 0 0)).own b= .s d 0 0:=fun b f=>by simp [G.mv,f]
   have hu:u≤i.length:=b2; simp only[z165,Vm]; cases hκ:st.fl (.s t 0 0)with
   | A s=>
    rw[hκ]at z; have z:Ow (frz g w) false w (some s) (fun b=>g.own b= .s t 0 0) (.slice j i.length m) (.sl i):=z
    exact(z.cut (by simp) (sz:=C.size) hu).mono (fun e=>e) (fun _ b f=>⟨hZ b f,rfl⟩) (fun b f=>⟨hF b f,rfl⟩)
   | U s=>
    rw[hκ]at z; have z:Ow (frz g w) true w (gQ s) (fun b=>g.own b= .s t 0 0) (.slice j i.length m) (.sl i):=z
    exact(z.cut (by simp) (sz:=C.size) hu).mono (fun e=>e) (fun _ b f=>⟨hZ b f,rfl⟩) (fun b f=>⟨hF b f,rfl⟩)
   | _=>rw[hκ]at hk; cases hk
  ·cases h
 ·cases h
end

def cCut(F:FA)(b:B)(d:Nat)(v:Operand)(a e:Option Operand)(op:Op):Option B:=match v,a,e with
 | .tmp t,none,none=>bif Nat.blt d F.n&&op.operands.toList.all (kn b F)&&op.operands.toList.all (KA F b false)&& !(Nat.beq t d)&&(b.kd (.s t 0 0)).hold&&(match F.shOf t with | .one (.c (.sl _))=>true | _=>false)then
   some (((b.put F d (fun _ _=> .V)).mvs F [(.s t 0 0, .s d 0 0)]).nrm F)else none
 | _,_,_=>none

section
variable {P:Program} {τ:TypeId→Option TI} {F:FA} {o:Oper} {b b':B} {x x':D} {d:Nat}
theorem cut_S(V:aX P τ)(s:Ag F b x){ty:TypeId}{v:Operand}{K I L:Option Operand}(W:o.dst=some d)(ho:o.op= .slice ty v K I L)(h1:pT τ F x d o.op=some x')(k:cCut F b d v K L o.op=some b'):OpS P F F.n o b x b' x':=by
 unfold cCut at k; split at k<;>try cases k
 rename_i t; obtain⟨c,k⟩:=aK k; simp only[z7]at c; obtain⟨⟨⟨⟨⟨M,N⟩,O⟩,Q⟩,R⟩,H⟩:=c; cases k; unfold pT at h1; split at h1<;>try cases h1
 rename_i r a; obtain⟨T,rfl⟩:=cH h1; have h: ∀y∈o.op.operands,kn b F y=true:=fun y f=>z18.1 N y (by simpa using f)
 have C: ∀y∈o.op.operands,KA F b false y=true:=fun y f=>z18.1 O y (by simpa using f)
 have A:kn b F (.tmp t)=true:=h _ (by rw[ho]; cases I<;>simp [Op.operands])
 have g:b.has t=true:=zT A; have p:t≠d:=AC Q; have i: ∃l,x.sl t= .one (.c (.sl l)):=by
  rcases s.sl t g with e | e
  ·exfalso
   rw[ho]at a; simp only[iN]at a; have:evD x (.tmp t)= .tup []:=by
    show vD x.sl x.ob (x.sl t)=_; rw[e]; rfl
   rw[this]at a; split at a<;>simp_all
  ·split at H<;>try cases H
   rename_i U i; rw[i]at e; cases hv:x.sl t with
   | tup Y=>rw[hv]at e; simp [Own.fits]at e
   | one w=>
    rw[hv]at e; cases w<;>simp [Own.fits,bO]at e
    rename_i z; cases z with
    | sl l=>exact⟨_,rfl⟩
    | hole=>
     exfalso
     rw[ho]at a; simp only[iN]at a; have:evD x (.tmp t)= .one (.c .hole):=by
      show vD x.sl x.ob (x.sl t)=_; rw[hv]; rfl
     rw[this]at a; split at a<;>simp_all
    | _=>simp [tI]at e
 obtain⟨l,j⟩:=i; refine OpS.put s T (fun g0 w0=> ?_) (fun m J=> ?_)
 ·have u:iN τ (evR (b.S F.n x)) o.op=some r:=by
   rw[←a]; exact yH o.op (fun y f=>NZ s (h y f))
  exact Wu V W (bK M) ho p (fun y f=>KJ s (zT (h y f)) (C y f)) (by rw[qO g]; exact j) R u
 ·simp only[z72]at J
  subst J; have E: ∃es',r= .sl es':=by
   rw[ho]at a; simp only[iN]at a; have:evD x (.tmp t)= .one (.c (.sl l)):=by
    show vD x.sl x.ob (x.sl t)=_; rw[j]; rfl
   rw[this]at a; split at a
   ·simp_all
   ·obtain⟨X,_,a⟩:=z19.1 a
    split at a
    ·obtain⟨q,_,rfl⟩:=z22.1 a
     exact⟨_,rfl⟩
    ·cases a
   ·cases a
  obtain⟨es',rfl⟩:=E; exact⟨⟨g,by simp [aS,p], .sl l,by rw[D.at,atL,j]; rfl⟩,0,0,rfl,_,rfl⟩
end

theorem Kp{x:T}{q:List (Nat×Nat)}(d:q≠[])(y:T):Rows x (bV x q y):=by
 intro g h0; subst h0; cases q with
 | nil=>exact absurd rfl d
 | cons ij p=>
  obtain⟨i,k⟩:=ij; refine⟨_,rfl,fun f e a=> ?_⟩
  have c:=cK a; by_cases h:f=i
  ·subst h
   exact⟨_,z60 c,by rw[z88,xD a]⟩
  ·exact⟨e,by rw[WB (fun e=>h e.symm)]; exact a,rfl⟩
theorem Kq{x:T}{q:List (Nat×Nat)}(a:q≠[])(y u:T):tI x u=tI (bV x q y) u:=by
 cases q with
 | nil=>exact absurd rfl a
 | cons ij p=>
  obtain⟨i,k⟩:=ij; cases x<;>first | rfl | (cases u<;>rfl)
theorem Pl.beside{w:World}{i j c:Nat}(hne:c≠j)(z:T): ∀ {p:List (Nat×Nat)} {v0:Value} {x0:T} {u:Value} {y:T},Pl w v0 x0 (p++[(i,j)]) u y→Pl w v0 (bV x0 (p++[(i,c)]) z) (p++[(i,j)]) u y
 | [],v0,x0,u,y,h=>by
  cases h with
  | cons b off len cap es e c0 y0 i j p v' x' he hy hc h=>
   have hi:=cK he; refine .cons b off len cap _ ((es.getD i []).set c (bV ((es.getD i []).getD c (.sl [])) [] z)) c0 y0 i j [] _ _ (z60 hi) ?_ ?_ h
   ·rw[xD he,WB hne]; exact hy
   ·rw[xD he,z88]; exact hc
 | (a,b')::p,v0,x0,u,y,h=>by
  cases h with
  | cons b off len cap es e c0 y0 i' j' p v' x' he hy hc h=>
   have hi:=cK he; have hj:=cK hy; have e1:bV (.sl es) (((a,b')::p)++[(i,c)]) z= .sl (es.set a (e.set b' (bV y0 (p++[(i,c)]) z))):=sY he hy; rw[e1]; exact .cons b off len cap _ (e.set b' (bV y0 (p++[(i,c)]) z)) c0 _ a b' (p++[(i,j)]) _ _ (z60 hi) (z60 hj) (by rw[z88]; exact hc) (Pl.beside hne z h)

theorem bP.take1{g0:G}{w0:World}{st:St}{a:Act}{g:G}{w:World}(h:bP g0 w0 st a g w){l l':Loc}{x0 y:T}{q:List (Nat×Nat)}{v0 u:Value}{s:Nat}(E:st.fl l= .U s)(j:st.at l=some x0)(hv:vAt a.tmps g.β w l=some v0)(M:Pl w v0 x0 q u y)(hq:q≠[])(hp':l'.place=true)(hne:l'≠l)(C:st.at l'=some y)(hv':vAt a.tmps g.β w l'=some u)(hk':(st.fl l').hold=false):
  ∃g',g'.β=g.β∧bP g0 w0 ((st.upd l (bV x0 q .hole)).setf (fun m=>decide (m=l')) (fun m=>if m=l' then .U 0 else(st.upd l (bV x0 q .hole)).fl m)) a g' w:=by
 classical
 have Y:=at_isPlace j; obtain⟨H,S,X⟩:=Loc.place_ne Y; obtain⟨Z,hm2,hm3⟩:=Loc.place_ne hp'; obtain⟨v0',e1,hvn,I⟩:=h.get j; rw[hv]at e1; cases e1; rw[E]at I; have A:Ow (frz g w) true w (gQ s) (fun b=>g.own b=l) v0 x0:=I
 have O:nV u:=((A.rd (P:=fun _=>True) (fun _ _=>trivial) (fun _ _=>trivial)).plRd M).not_agg
 obtain⟨Fp,q1,q2,q3⟩:=Ow.part A M; rw[z11 hq]at q2; obtain⟨g',r⟩: ∃g':G,g'= { β:=g.β,own:=fun b=>if Fp b then l' else g.own b }:=⟨_,rfl⟩
 have hβ:g'.β=g.β:=by rw[r]
 have hF: ∀b,Fp b→g'.own b=l':=fun b d=>by rw[r]; exact z17 d
 have p: ∀b, ¬ Fp b→g'.own b=g.own b:=fun b d=>by rw[r]; exact z11 d
 have L: ∀b,g.own b≠l→g'.own b=g.own b:=fun b d=>p b (fun hp=>d (q1 b hp))
 have t: ∀b,all g w b→all g' w b:=fun b d=>⟨d.1,fun o=>by
  by_cases e:Fp b
  ·rw[hF b e]; exact hm3 o
  ·rw[p b e]; exact d.2 o⟩
 have K:GOk g' w:=⟨fun b d=>by
  by_cases e:Fp b
  ·exact h.ok.own b (by rw[q1 b e]; exact H)
  ·rw[p b e]at d; exact h.ok.own b d⟩
 have hC:zW g w g' w (fun m=>m=l) st:=⟨⟨z59 _,fun b _ hX=>⟨L b hX,rfl⟩⟩,fun m e=>by subst e; exact⟨fun h=>h.elim H S,X⟩, .inl (fun b d=>⟨t b d,rfl⟩),rfl,rfl,rfl,K⟩
 have h1:=h.upd hC (fun o=>by rw[hβ]) (z:=bV x0 q .hole) j hv (fun m x _ _ hm=>hm) (.inr (Kp hq _)) (by
  rw[E]; refine q3 (frz g' w) w (fun _=>False) (fun b=>g'.own b=l) .hole (fun b d hn=>⟨by rw[p b hn]; exact d,rfl⟩) (fun b d=>d.elim) (fun b d=>d.elim) ?_
  exact .hole _ _ u O.1 O.2)
 refine⟨g',hβ, ?_⟩
 have c:(st.upd l (bV x0 q .hole)).at l'=some y:=by rw[upd_at j,z11 hne]; exact C
 have N: ∀i,Loc.s i 0 0=l'→aI ((st.upd l (bV x0 q .hole)).sl i)= .none:=fun i e=>by
  rw[←e]at c; exact uM c
 refine h1.setf (by simp [Ne.symm Z]) (fun _=>rfl) K (fun _ _=>rfl) (fun _ _ h=>h) (fun _ h=>h) (fun m x v hx Q R=> ?_) (fun i k xs b off f hc=> ?_) (fun i hi hR R=> ?_)
 ·by_cases e:m=l'
  ·subst e
   rw[z17 rfl]; rw[c]at hx; cases hx; rw[hβ,hv']at Q; cases Q; exact q2.mono (fun e=>e) (fun e=>by cases e) (fun b d=>⟨hF b d,rfl⟩)
  ·rw[z11 e]; exact R
 ·by_cases e:Loc.s i k 0=l'
  ·exfalso
   rw[←e,St.at_s]at c; cases hsl:(st.upd l (bV x0 q .hole)).sl i with
   | one z=>
    rw[hsl]at f c; cases k with
    | zero=>simp only[V.comp,z9]at f; rw[f]at c; simp [V.leaf,W.leaf]at c
    | succ k=>simp [V.comp]at f
   | tup ws=>rw[hsl]at f c; simp only[V.comp]at f; simp [V.leaf,f,W.leaf]at c
  ·rw[z11 e]; exact hc
 ·have J:aI ((st.upd l (bV x0 q .hole)).sl i)≠l':=by simpa using hR
  have e0: ¬ Loc.s i 0 0=l':=fun e=>hi (N i e)
  rw[z11 e0]at R; exact⟨R,fun h=>by rw[z11 J]; exact h⟩

theorem D.at_isPlace{x:D}{l:Loc}{t:T}(h:x.at l=some t):l.place=true:=Own.at_isPlace (st:=⟨0,x.sl,x.ob,fun _=> .D⟩) h
theorem D.upd_at{x:D}{l m:Loc}{z t:T}(h:x.at l=some t):(x.upd l z).at m=if m=l then some z else x.at m:=Own.upd_at (st:=⟨0,x.sl,x.ob,fun _=> .D⟩) h
def D.takes(l:Loc)(p:List (Nat×Nat))(n j:Nat):List Nat→D→D
 | [],x=>x
 | c::r,x=>D.takes l p n j r (x.upd l (bV ((x.at l).getD .hole) (p++[(n,j+c)]) .hole))
def B.take1(F:FA)(l:Loc)(d c:Nat)(b:B):B:=((b.filt (fU F l)).setf F (fun m=>decide (m= .s d 0 c)) (fun m q=>if m= .s d 0 c then .U 0 else q)).nrm F
def B.takes(F:FA)(l:Loc)(d:Nat):List Nat→B→B
 | [],b=>b
 | c::r,b=>B.takes F l d r (b.take1 F l d c)

section
variable {F:FA} {b:B} {x:D}
theorem PP{n:Nat}(N:Ag F b x){l:Loc}{d c s:Nat}{x0 y:T}{q:List (Nat×Nat)}(hq:q≠[])(h:b.hasL l=true)(V:b.kd l= .U s)(f:x.at l=some x0)(O:b.has d=true)(Y:aS d l=false)(hy:x.at (.s d 0 c)=some y)(hk:(b.kd (.s d 0 c)).hold=false):
  Ag F (b.take1 F l d c) (x.upd l (bV x0 q .hole))∧(b.take1 F l d c).hasL l=true∧(b.take1 F l d c).kd l= .U s∧(b.take1 F l d c).has d=true∧(∀c',c'≠c→(b.take1 F l d c).kd (.s d 0 c')=b.kd (.s d 0 c'))∧
  ∀ {g0:G} {w0:World} {a:Act} {w:World} {g:G},bP g0 w0 (b.S n x) a g w→ ∀v0 u,vAt a.tmps g.β w l=some v0→Pl w v0 x0 q u y→vAt a.tmps g.β w (.s d 0 c)=some u→ ∃g',g'.β=g.β∧bP g0 w0 ((b.take1 F l d c).S n (x.upd l (bV x0 q .hole))) a g' w:=by
 have t:=D.at_isPlace f; have E:=(Loc.place_ne t).1; have R:Ag F b (x.upd l (bV x0 q .hole)):=N.upd h f (Kq hq .hole); have r:=R.filt (fU F l); have I:aI (F.shOf d)= .none:=N.leaf_root O hy; have J: ∀i k j,l= .s i k j→aI (F.shOf i)= .none:=fun i k j e=>by subst e; exact N.leaf_root h f
 have C:Loc.s d 0 c≠l:=fun e=>by subst e; simp [aS]at Y
 have nr: ∀i,aI (F.shOf i)= .none→fU F l i=true:=fun i e=>by
  unfold fU; rw[e,z10 (Ne.symm E)]; rfl
 have K: ∀i,aI (F.shOf i)= .none→(decide (aI (F.shOf i)= .s d 0 c))=false:=fun i e=>by rw[e]; rfl
 have p: ∀i,aI (F.shOf i)= .none→b.has i=true→(b.take1 F l d c).has i=true:=fun i e P=>by
  unfold B.take1; rw[xV,eU,Dg e,rX,K i e,eU,nr i e,P]; rfl
 have A:=p d I O; have v:(b.take1 F l d c).hasL l=true:=by
  cases l with
  | s i k j=>exact p i (J i k j rfl) h
  | oc o j=>
   show(b.take1 F (.oc o j) d c).hasO o=true; unfold B.take1; rw[xV,AI,gO]; exact h
  | _=>cases t
 have M: ∀i k j,aI (F.shOf i)= .none→b.has i=true→(b.take1 F l d c).kd (.s i k j)=(match b.get (.s i k j)with | some q=>if Loc.s i k j= .s d 0 c then .U 0 else q | none=> .D):=fun i k j e P=>by
  unfold B.take1; rw[xV,gN (Dg e)]; have h1:((b.filt (fU F l)).setf F (fun m=>decide (m= .s d 0 c)) (fun m q=>if m= .s d 0 c then .U 0 else q)).hasL (.s i k j)=true:=by
   show((b.filt (fU F l)).setf F _ _).has i=true; rw[rX,K i e,eU,nr i e,P]; rfl
  have Q:(b.filt (fU F l)).get (.s i k j)=b.get (.s i k j):=by simp only[zV,z17 (nr i e)]
  simp only[B.kd,vA h1,Q]; cases b.get (.s i k j)<;>rfl
 have kdl:(b.take1 F l d c).kd l= .U s:=by
  cases l with
  | s i k j=>
   rw[M i k j (J i k j rfl) h]; have:b.kd (.s i k j)= .U s:=V; unfold B.kd at this; cases hg:b.get (.s i k j)with
   | none=>rw[hg]at this; cases this
   | some q=>
    rw[hg]at this; simp only at this ⊢; rw[z11 (Ne.symm C),this]
  | oc o j=>
   unfold B.take1; rw[xV,Gb]; have h1:((b.filt (fU F (.oc o j))).setf F (fun m=>decide (m= .s d 0 c)) (fun m q=>if m= .s d 0 c then .U 0 else q)).hasL (.oc o j)=true:=by
    show((b.filt _).setf F _ _).hasO o=true; rw[gO]; exact h
   have Q:(b.filt (fU F (.oc o j))).get (.oc o j)=b.get (.oc o j):=by simp only[zV]
   have:b.kd (.oc o j)= .U s:=V; unfold B.kd at this ⊢; rw[vA h1,Q]; cases hg:b.get (.oc o j)with
   | none=>rw[hg]at this; cases this
   | some q=>
    rw[hg]at this; simp only at this; subst this; simp
  | _=>cases t
 refine⟨(r.setf _ _).nrm,v,kdl,A,fun c' hc=> ?_,fun {g0 w0 a w g} hs v0 u hv Z hv'=> ?_⟩
 ·rw[M d 0 c' I O]
  unfold B.kd; cases b.get (.s d 0 c')with
  | none=>rfl
  | some q=>simp only; rw[z11 (by simp [hc])]
 ·have hst:(b.S n x).at l=some x0:=by rw[Ig h]; exact f
  have L:(b.S n x).at (.s d 0 c)=some y:=by rw[Ig (show b.hasL (.s d 0 c)=true from O)]; exact hy
  obtain⟨g',hβ,h1⟩:=hs.take1 (l:=l) (l':= .s d 0 c) (s:=s) V hst hv Z hq rfl C L hv' hk; refine⟨g',hβ,h1.relax ?_⟩
  have H:=Gq (z:=bV x0 q .hole) N (Low.self n b x) h f E; refine(kU r H (by simp) (fun m hm X=> ?_) (fun i P W hf=> ?_)).le (r.setf _ _)
  ·by_cases e:m= .s d 0 c
   ·subst e; rw[z17 rfl,z17 rfl]; exact dP _
   ·rw[z11 e,z11 e]; exact X
  ·by_cases e:Loc.s i 0 0= .s d 0 c
   ·rw[z17 e]; simp
   ·rw[z11 e]at hf ⊢; exact W hf
theorem OS{n:Nat}{l:Loc}{d s:Nat}{p:List (Nat×Nat)}{n' j:Nat}: ∀(M:List Nat) {b:B} {x:D} {x0:T},Ag F b x→M.Nodup→b.hasL l=true→b.kd l= .U s→x.at l=some x0→b.has d=true→aS d l=false→(∀c∈M,(b.kd (.s d 0 c)).hold=false∧ ∃y,x.at (.s d 0 c)=some y)→
  Ag F (b.takes F l d M) (x.takes l p n' j M)∧ ∀ {g0:G} {w0:World} {a:Act} {w:World} {g:G},bP g0 w0 (b.S n x) a g w→ ∀v0,vAt a.tmps g.β w l=some v0→(∀c∈M, ∃u y,Pl w v0 x0 (p++[(n',j+c)]) u y∧vAt a.tmps g.β w (.s d 0 c)=some u∧x.at (.s d 0 c)=some y)→Sim g0 w0 ((b.takes F l d M).S n (x.takes l p n' j M)) a w
 | [],b,x,x0,hA,_,_,_,_,_,_,_=>⟨hA,fun hs _ _ _=>⟨_,hs⟩⟩
 | c::M,b,x,x0,hA,hnd,hL,hU,hat,hd,hne,hM=>by
  obtain⟨hc,hnd⟩:=List.nodup_cons.1 hnd; obtain⟨hk,y,hy⟩:=hM c z27; have hq:p++[(n',j+c)]≠[]:=by simp
  obtain⟨k1,k2,k3,k4,k5,k6⟩:=PP (n:=n) hA hq hL hU hat hd hne hy hk; have hl': ∀c,Loc.s d 0 c≠l:=fun c e=>by subst e; simp [aS]at hne
  have hat1:(x.upd l (bV x0 (p++[(n',j+c)]) .hole)).at l=some (bV x0 (p++[(n',j+c)]) .hole):=by rw[D.upd_at hat,z17 rfl]
  have hatd: ∀c',(x.upd l (bV x0 (p++[(n',j+c)]) .hole)).at (.s d 0 c')=x.at (.s d 0 c'):=fun c'=>by rw[D.upd_at hat,z11 (hl' c')]
  have hcc: ∀c'∈M,c'≠c:=fun c' h e=>hc (e ▸ h)
  have ih:=OS (n:=n) (p:=p) (n':=n') (j:=j) M k1 hnd k2 k3 hat1 k4 hne (fun c' h=>by
   rw[k5 c' (hcc c' h),hatd]; exact hM c' (z23 _ h))
  have e:x.takes l p n' j (c::M)=(x.upd l (bV x0 (p++[(n',j+c)]) .hole)).takes l p n' j M:=by
   simp only[D.takes,hat]; rfl
  rw[e]; refine⟨ih.1,fun {g0 w0 a w g} hs v0 hv hpl=> ?_⟩
  obtain⟨u,y',p1,p2,p3⟩:=hpl c z27; rw[hy]at p3; cases p3; obtain⟨g',hβ,h1⟩:=k6 hs v0 u hv p1 p2; refine ih.2 h1 v0 (by rw[hβ]; exact hv) (fun c' h=> ?_)
  obtain⟨u',y',p4,p5,p6⟩:=hpl c' (z23 _ h); exact⟨u',y',p4.beside (by have:=hcc c' h; omega) .hole,by rw[hβ]; exact p5,by rw[hatd]; exact p6⟩
end

def tkM(F:FA)(d:Nat):List Nat:=((nR (F.shOf d)).map (·.2)).filter fun j=>match(F.shOf d).leaf 0 j with | some z=> !(scal z) | none=>false
def KC(F:FA)(v:Operand):Bool:=match nU F v with
 | .one (.pp _ _ _ _)=>true
 | _=>false
def fW:V→Bool
 | .one (.pp _ _ _ _)=>true
 | _=>false
def uB(τ:TypeId→Option TI)(F:FA)(x:D)(d:Nat)(t:TypeId)(v:Operand):Option D:=
 match τ t,ev x.sl v with
 | some i, .one (.pp l p n j)=>(match(x.at l).bind (nav · p)with
  | some (.sl es)=>(match es[n]? with
   | some row=>(match pF i (row.drop j)with
    | some r=>bif Own.fits r (F.shOf d)then some ((x.put d r).takes l p n j (tkM F d))else none
    | none=>none)
   | none=>none)
  | _=>none)
 | _,_=>none
def Kk(τ:TypeId→Option TI)(F:FA)(b:B)(d:Nat)(t:TypeId)(v:Operand):Option B:=
 match τ t,nU F v with
 | some i, .one (.pp l _ _ _)=>bif Nat.blt d F.n&&dN b v&&CV F b d v then
   (bif ((b.put F d (fun _ j=>if jP i.zero j then .S else .V)).nrm F).hasL l&&isU (((b.put F d (fun _ j=>if jP i.zero j then .S else .V)).nrm F).kd l)&&((b.put F d (fun _ j=>if jP i.zero j then .S else .V)).nrm F).has d&&decide ((tkM F d).Nodup)&&(tkM F d).all (fun c=> !(((b.put F d (fun _ j=>if jP i.zero j then .S else .V)).nrm F).kd (.s d 0 c)).hold)then
    some (((b.put F d (fun _ j=>if jP i.zero j then .S else .V)).nrm F).takes F l d (tkM F d))else none)
  else none
 | _,_=>none
theorem Wm{κ:K}(h:isU κ=true): ∃s,κ= .U s:=by cases κ<;>first | exact⟨_,rfl⟩ | cases h
theorem D.at_put{x:D}{d:Nat}{r:V}{l:Loc}(h:aS d l=false):(x.put d r).at l=x.at l:=by
 cases l with
 | s i k j=>
  have:i≠d:=fun e=>by subst e; simp [aS]at h
  simp only[D.at,atL,D.put,z11 this]
 | _=>rfl

theorem Ca{v:V}(h:fW v=true): ∃l p n j,v= .one (.pp l p n j):=by
 unfold fW at h; split at h
 ·exact⟨_,_,_,_,rfl⟩
 ·cases h
section
variable {P:Program} {τ:TypeId→Option TI} {F:FA} {o:Oper} {b b':B} {x x':D} {d:Nat}
theorem Om{t:TypeId}{al:Bool}(c:Ag F b x){v:Operand}(f:dN b v=true)(h:nS τ F x d t v al=some x'∨fW (ev x.sl v)=true):fW (ev x.sl v)=KC F v:=by
 cases hp:fW (ev x.sl v)with
 | true=>
  obtain⟨l,p,n,j,e⟩:=Ca hp; obtain⟨r,q,m,rfl,g⟩:=Qa c f e; unfold KC; rw[g]
 | false=>
  rcases h with h | h
  ·unfold nS at h
   split at h
   ·rename_i i a
    unfold KC; rw[Kb c f a]
   ·rename_i i a
    obtain⟨ys,k⟩:=Us c f a; unfold KC; rw[k]
   ·rename_i i a
    rw[a]at hp; cases hp
   ·cases h
  ·rw[h]at hp; cases hp
theorem Ty(hT:aX P τ)(W:Ag F b x){t:TypeId}{v:Operand}(hd:o.dst=some d)(ho:o.op= .load t v)(h1:uB τ F x d t v=some x')(J:Kk τ F b d t v=some b'):OpS P F F.n o b x b' x':=by
 unfold uB at h1; split at h1<;>try cases h1
 rename_i i l p n j hi hv; split at h1<;>try cases h1
 rename_i es e; split at h1<;>try cases h1
 rename_i row Q; split at h1<;>try cases h1
 rename_i r hr; obtain⟨X,h1⟩:=aK h1; cases h1; unfold Kk at J; rw[hi]at J; split at J<;>try cases J
 rename_i i' l' p' n' j' hi' L; cases hi'; obtain⟨m,Y⟩:=aK J; clear J; simp only[z7]at m; obtain⟨⟨U,I⟩,ha⟩:=m; obtain⟨tv,p2,i2,rfl,hs2⟩:=Qa W I hv; rw[hs2]at L; cases L; obtain⟨a1,a2,a3,a4⟩:=sV W I ha (.inr ⟨p,n,j,hv⟩); simp only[z19]at e; obtain⟨x0,T,e⟩:=e; obtain⟨hq,Y⟩:=aK Y; cases Y; simp only[z7]at hq; obtain⟨⟨⟨⟨q1,q2⟩,q3⟩,q4⟩,q5⟩:=hq; have M:Ag F (b.put F d (fun _ j=>if jP i.zero j then .S else .V)) (x.put d r):=W.put (.inr X)
 have N:=Gv W (Low.self F.n b x) (κ:=fun _ j=>if jP i.zero j then K.S else .V) (f:=fun _ j=>if jP i.zero j then K.S else .V) (.inr X) (fun _ _ _ _=>dP _) (fun _ _ _=>dP _) (fun _ h=>h)
 obtain⟨s,hU⟩:=Wm q2; have Z:(x.put d r).at l=some x0:=by rw[D.at_put a2]; exact T
 have z: ∀c∈tkM F d, ∃y,r.leaf 0 c=some y:=fun c m=>by
  have m:=(z73.1 m).1; obtain⟨⟨k,c'⟩,hm,rfl⟩:=z49.1 m; obtain⟨y,C⟩:=rJ X hm; obtain⟨rfl,_⟩:=wF hr C; exact⟨y,C⟩
 have E: ∀c,(x.put d r).at (.s d 0 c)=r.leaf 0 c:=fun c=>by simp [D.at,atL,D.put]
 obtain⟨k1,k2⟩:=OS (n:=F.n) (p:=p) (n':=n) (j:=j) (tkM F d) M.nrm (of_decide_eq_true q4) q1 hU Z q3 a2 (fun c m=>by
  have h5:=z18.1 q5 c m; refine⟨by simpa using h5, ?_⟩
  obtain⟨y,C⟩:=z c m; exact⟨y,by rw[E]; exact C⟩)
 refine⟨k1,fun g0 w0=> ?_⟩
 intro a w ⟨g,L⟩; obtain⟨_,v0,bb,off,len,cap,f1,f2,f3,f4⟩:=L.ppCell (l:=l) (p:=p) (i:=n) (j:=j) (t:=tv) (by rw[qO I]; exact hv) a1 a3 (by rw[Ig a4]; exact T) e Q
 obtain⟨u,hu,hru,H,A⟩:=sR hT hi (g:=g) (κ:=fun _=> .V) (l:=fun _=> .none) (l':=fun k j=> .s d k j) (b:=bb) (p:=off+n*row.length+j) (xs:=row.drop j) (fun q y C=>by
  obtain⟨c,U,I,_⟩:=f4 q y C; exact⟨c,U,I.not_agg,I⟩) hr (fun _ _ _ hf=>hf)
 refine⟨_,w,qL ho f3 hu, .inl ⟨_,rfl, ?_⟩⟩
 rw[hd]; have R:=L.set (bK U) hru (fun h=>absurd H h)
 have O:=R.relax (N.le M); have G:d<a.tmps.size:=by rw[L.size]; exact bK U
 refine k2 O v0 ?_ (fun c m=> ?_)
 ·have:vAt (a.put (some d) u).tmps g.β w l=vAt a.tmps g.β w l:=by
   cases l with
   | s i k j=>exact AY (l:= .s i k j) G a2
   | oc o j=>rfl
   | _=>rfl
  rw[this]; exact f1
 ·obtain⟨y,C⟩:=z c m
  obtain⟨y1,y2⟩:=A c y C; obtain⟨cv,z1,z2,z3⟩:=f4 c y y1; refine⟨cv,y,z3, ?_,by rw[E]; exact C⟩
  simp only[vAt]; rw[Act.put_getD a d _ _ G,z17 rfl,y2]; exact z1
end

def qE:V→Bool
 | .one (.c (.sl _))=>true
 | _=>false
def uA(F:FA)(v:Operand):Bool:=qE (nU F v)
def qR(τ:TypeId→Option TI)(F:FA)(x:D)(d:Nat)(t:TypeId)(v i:Operand):Option D:=
 match v,tk τ t,ev x.sl i,ev x.sl v with
 | .tmp s,some (.sl e), .one (.c (.int _ n)), .one (.c (.sl es))=>(match idx τ e es n with | some _=>sM F x d (.one (.pp (.s s 0 0) [] n.toNat 0)) | none=>none)
 | _,_,_,_=>none
def DT(F:FA)(b:B)(d:Nat)(v i:Operand):Option B:=match v with
 | .tmp s=>bif Nat.blt d F.n&&b.has s&&dN b i&& !(Nat.beq s d)&&(b.kd (.s s 0 0)).hold then some ((b.put F d (fun _ _=> .F)).nrm F)else none
 | _=>none

section
variable {P:Program} {τ:TypeId→Option TI} {g0:G} {w0:World} {o:Oper} {st:St} {d:Nat}
theorem Js(y:aX P τ){t e:TypeId}{v:TI}{s:Nat}{i:Operand}{h:List (List T)}{row:List T}{k:IntKind}{n:Int}(I:o.dst=some d)(hn:d<st.n)(ho:o.op= .indexAddr t (.tmp s) i)(L:tk τ t=some (.sl e))(z:τ e=some v)
  (E:st.sl s= .one (.c (.sl h)))(A:(st.fl (.s s 0 0)).hold=true)(r:s≠d)(J:ev st.sl i= .one (.c (.int k n)))(h0:0≤n)(f:h[n.toNat]? =some row)(m:row.length=v.size):
  qD P g0 w0 o st (st.put d (.one (.pp (.s s 0 0) [] n.toNat 0)) (fun _ _=> .F)):=by
 intro a w ⟨g,p⟩; have j:st.at (.s s 0 0)=some (.sl h):=by rw[St.at_s,E]; rfl
 have h1:=p.slots s; rw[E]at h1; have C:vAt a.tmps g.β w (.s s 0 0)=some (a.tmps.getD s undef):=(iX h1.1).2; have u:=p.pl_rd A C j (.nil _ _); obtain⟨_,_,_,l⟩:=nM y z; obtain⟨b,off,len,q,H,M,_⟩:=Gu (β:=g.β) u f m l; have K:n.toNat<h.length:=cK f; refine⟨_,w,qT y L z (ρ:=a.eval) (x:= .tmp s) H (p.int J) h0 (by omega) ho w, .inl ⟨_,rfl,g, ?_⟩⟩
 rw[I]; exact p.set hn trivial (fun _ _=>⟨A,by simp [aI,aS,r],_, .sl h,b,off,len,q,h,row,C,j,by rw[←H]; exact .nil _ _,f,by rw[m]; rfl⟩)
end

section
variable {P:Program} {τ:TypeId→Option TI} {F:FA} {o:Oper} {b b':B} {x x':D} {d:Nat}
theorem Rk(u:aX P τ)(r:Ag F b x){t:TypeId}{v i:Operand}(w:o.dst=some d)(ho:o.op= .indexAddr t v i)(h1:qR τ F x d t v i=some x')(c:DT F b d v i=some b'):OpS P F F.n o b x b' x':=by
 unfold qR at h1; split at h1<;>try cases h1
 rename_i s e k n J f y z; split at h1<;>try cases h1
 rename_i row a; obtain⟨q,rfl⟩:=cH h1; obtain⟨I,A,C,E,H⟩:=Cb a; simp only[DT]at c; obtain⟨g,c⟩:=aK c; simp only[z7]at g; obtain⟨⟨⟨⟨h,j⟩,l⟩,m⟩,p⟩:=g; cases c; exact OpS.put0 r q (fun g0 w0=>Js u w (bK h) ho f A (by rw[qO j]; exact z) p (AC m) (by rw[pU l]; exact y) C E H)
theorem KS{t:TypeId}(p:Ag F b x){v i:Operand}(q:dN b v=true)(h:pD τ F x d t v i=some x'∨qE (ev x.sl v)=true):qE (ev x.sl v)=uA F v:=by
 cases hp:qE (ev x.sl v)with
 | true=>
  unfold qE at hp; split at hp<;>try cases hp
  rename_i m k; rcases AW p q k (by simp)with l | ⟨_,a⟩
  ·unfold uA
   cases a:nU F v with
   | tup s=>rw[a]at l; simp [Own.fits]at l
   | one y=>
    rw[a]at l; cases y<;>simp [Own.fits,bO]at l
    rename_i z; cases z<;>simp [tI]at l
    rfl
  ·unfold uA; rw[a]; rfl
 | false=>
  rcases h with h | h
  ·cases hq:uA F v with
   | false=>rfl
   | true=>
    exfalso
    unfold uA qE at hq; split at hq<;>try cases hq
    rename_i m a; have j:ev x.sl v= .tup []∨Own.fits (ev x.sl v) (nU F v)=true:=by
     cases v with
     | tmp r=>exact p.sl r q
     | const u=>
      right
      have a:bE u= .one (.c (.sl m)):=a; show Own.fits (bE u) (bE u)=true; rw[a]; rfl
     | func f=>cases a
     | global g=>cases a
    rw[a]at j; unfold pD at h; rcases j with e | e
    ·rw[e]at h
     split at h
     ·cases h
     ·split at h<;>simp_all
     ·cases h
    ·cases k:ev x.sl v with
     | tup s=>rw[k]at e; simp [Own.fits]at e
     | one w=>
      rw[k]at e; cases w<;>simp [Own.fits,bO]at e
      rename_i z; cases z<;>simp [tI]at e
      ·rw[k]at hp; cases hp
      ·rw[k]at h
       split at h
       ·cases h
       ·split at h<;>simp_all
       ·cases h
  ·rw[h]at hp; cases hp
end

section
variable {P:Program} {τ:TypeId→Option TI} {F:FA} {o:Oper} {b b':B} {x x':D} {d:Nat}

def dOp(τ:TypeId→Option TI)(F:FA)(x:D)(o:Oper):Option D:=
 match o.dst with
 | some d=>(match o.op with
  | .assign v=>yN F x d v
  | .move v=>bif mem d F.al then uC F x d v else yN F x d v
  | .extract v k=>qM F x d k v
  | .pick c y z=>FH F x d c y z
  | .fieldAddr s v f=>vQ τ F x d s v f
  | .nilCheck v=>Mg F x d v
  | .makeFunc (.func f) first caps=>bif first.isEmpty then Je F x d f caps else none
  | .indexAddr t v i=>bif fW (F.shOf d)&&qE (ev x.sl v)then qR τ F x d t v i else pD τ F x d t v i
  | .load t v=>bif mem d F.tk&&(!(mem d F.al)&&fW (ev x.sl v))then uB τ F x d t v else nS τ F x d t v (mem d F.al)
  | .alloc t=>CT τ F x d t
  | .box _ v=>RA F x d v
  | .buildSlice t n e=>Nn τ F x d t n e
  | .makeSlice t v y=>FI τ F x d t v y
  | .build t e=>xZ τ F x d t e
  | .call c=>(match c.callee,c.args.toList,c.argTypes.toList with
   | .builtin .append,[v,y],[t,u]=>tE τ F x d t u v y
   | _,_,_=>pT τ F x d o.op)
  | op=>pT τ F x d op)
 | none=>(match o.op with
  | .store t v y=>(match τ t,ev x.sl v,aT (ev x.sl y)with
   | some i, .one (.ptr ob p),some xs=>tD F x i ob p xs
   | some i, .one (.pp l p n j),some xs=>sE F x i l p n j xs
   | _,_,_=>none)
  | _=>none)

def cOp(τ:TypeId→Option TI)(F:FA)(b:B)(o:Oper):Option B:=
 match o.dst with
 | some d=>(match o.op with
  | .assign v=>TP F b d true v
  | .move v=>bif mem d F.al then OE F b d v else TP F b d (mem d F.tk) v
  | .extract v k=>Hd F b d k v
  | .pick c y z=>Vh F b d c y z
  | .fieldAddr _ v _=>Se F b d v
  | .nilCheck v=>cNil F b d v
  | .makeFunc (.func _) _ caps=>Vi F b d caps
  | .indexAddr _ v i=>bif fW (F.shOf d)&&uA F v then DT F b d v i else Kl F b d v i
  | .load t v=>bif mem d F.tk&&(!(mem d F.al)&&KC F v)then Kk τ F b d t v else Qm τ F b d t v (mem d F.al) (mem d F.tk)
  | .alloc t=>OD τ F b d t
  | .box _ v=>cBox F b d v
  | .buildSlice t _ e=>cLit τ F b d t e
  | .makeSlice t v y=>TQ τ F b d t v y
  | .build t e=>OC τ F b d t e
  | .slice _ v f _ g=>bif mem d F.tk then cCut F b d v f g o.op else LM F b d o.op
  | .call c=>(match c.callee,c.args.toList,c.argTypes.toList with
   | .builtin .append,[v,y],[t,_]=>KY τ F b d t v y
   | _,_,_=>LM F b d o.op)
  | op=>LM F b d op)
 | none=>(match o.op with
  | .store t v y=>(match τ t,nU F v with
   | some i, .one (.ptr ob p)=>DS F b i ob p v y
   | some i, .one (.pp l p _ _)=>(match v with | .tmp tx=>Ae F b i l p tx y | _=>none)
   | _,_=>none)
  | _=>none)

theorem op_S(m:aX P τ)(g:Ag F b x)(h1:dOp τ F x o=some x')(e:cOp τ F b o=some b'):OpS P F F.n o b x b' x':=by
 unfold dOp at h1; unfold cOp at e; cases hd:o.dst with
 | none=>
  rw[hd]at h1 e; simp only at h1 e; split at h1<;>try cases h1
  rename_i t v y ho; rw[ho]at e; split at h1<;>try cases h1
  ·rename_i i ob p xs w A O
   simp only[w]at e; have q:dN b v=true:=by
    split at e<;>try cases e
    ·unfold DS at e
     obtain⟨h,_⟩:=aK e; simp only[z7]at h; exact h.1.1
    ·split at e<;>try cases e
     unfold Ae at e; obtain⟨h,_⟩:=aK e; simp only[z7]at h; exact h.1.1.1.1.1.1.1
   rw[Kb g q A]at e; exact TY m g hd ho w A O h1 e
  ·rename_i i l p n j xs w A O
   simp only[w]at e; have q:dN b v=true:=by
    split at e<;>try cases e
    ·unfold DS at e
     obtain⟨h,_⟩:=aK e; simp only[z7]at h; exact h.1.1
    ·split at e<;>try cases e
     unfold Ae at e; obtain⟨h,_⟩:=aK e; simp only[z7]at h; exact h.1.1.1.1.1.1.1
   obtain⟨Q,S,n',rfl,M⟩:=Qa g q A; rw[M]at e; simp only at e; have L:p.length=S.length:=by
    have I:x.sl Q= .one (.pp l p n j):=A; have H:=g.fits (t:=Q) q (by rw[I]; simp)
    have N:F.shOf Q= .one (.pp l S n' j):=M; rw[I,N]at H; simp only[Own.fits,bO,z7]at H; exact z14 H.1.2
   exact RI m g hd ho w A M L O h1 e
 | some d=>
  rw[hd]at h1 e; simp only at h1 e; cases ho:o.op with
  | assign v=>rw[ho]at h1 e; exact SX g hd (.inl ho) h1 e
  | move v=>
   rw[ho]at h1 e; simp only at h1 e; cases hm:mem d F.al with
   | true=>rw[hm]at h1 e; exact UZ g hd ho h1 e
   | false=>rw[hm]at h1 e; exact SX g hd (.inr ho) h1 e
  | extract v k=>rw[ho]at h1 e; exact Ps g hd ho h1 e
  | pick c y z=>rw[ho]at h1 e; exact Wa g hd ho h1 e
  | fieldAddr s v f=>rw[ho]at h1 e; exact UK m g hd ho h1 e
  | nilCheck v=>rw[ho]at h1 e; exact nil_S g hd ho h1 e
  | makeFunc fn first caps=>
   rw[ho]at h1 e; cases fn with
   | func f=>
    simp only at h1 e; obtain⟨H,h1⟩:=aK h1; have:first= #[]:=by simpa using H
    subst this; exact Wq g hd ho h1 e
   | _=>simp only[pT,iN]at h1; cases h1
  | indexAddr t v i=>
   rw[ho]at h1 e; simp only at h1 e; have q:dN b v=true:=by
    cases hm:(fW (F.shOf d)&&uA F v)with
    | true=>
     rw[hm]at e; simp only[z15,DT]at e; split at e<;>try cases e
     obtain⟨h,_⟩:=aK e; simp only[z7]at h; exact h.1.1.1.2
    | false=>
     rw[hm]at e; simp only[z12,Kl]at e; obtain⟨h,_⟩:=aK e; simp only[z7]at h; exact h.1.2
   have K:qE (ev x.sl v)=uA F v:=by
    cases hm:(fW (F.shOf d)&&qE (ev x.sl v))with
    | true=>
     simp only[z7]at hm; exact KS (τ:=τ) (d:=d) (t:=t) (i:=i) (x':=x) g q (.inr hm.2)
    | false=>
     rw[hm]at h1; exact KS g q (.inl h1)
   rw[K]at h1; cases hm:(fW (F.shOf d)&&uA F v)with
   | true=>rw[hm]at h1 e; exact Rk m g hd ho h1 e
   | false=>rw[hm]at h1 e; exact UE m g hd ho h1 e
  | load t v=>
   rw[ho]at h1 e; simp only at h1 e; have q:dN b v=true:=by
    cases hm:(mem d F.tk&&(!(mem d F.al)&&KC F v))with
    | true=>
     rw[hm]at e; simp only[z15,Kk]at e; split at e<;>try cases e
     obtain⟨h,_⟩:=aK e; simp only[z7]at h; exact h.1.2
    | false=>
     rw[hm]at e; simp only[z12,Qm]at e; obtain⟨h,_⟩:=aK e; simp only[z7]at h; exact h.2
   have K:fW (ev x.sl v)=KC F v:=by
    cases hm:(mem d F.tk&&(!(mem d F.al)&&fW (ev x.sl v)))with
    | true=>
     simp only[z7]at hm; exact Om (τ:=τ) (d:=d) (t:=t) (al:=false) (x':=x) g q (.inr hm.2.2)
    | false=>
     rw[hm]at h1; exact Om g q (.inl h1)
   rw[K]at h1; cases hm:(mem d F.tk&&(!(mem d F.al)&&KC F v))with
   | true=>rw[hm]at h1 e; exact Ty m g hd ho h1 e
   | false=>rw[hm]at h1 e; exact Wh m g hd ho h1 e
  | alloc t=>rw[ho]at h1 e; exact UY m g hd ho h1 e
  | box t v=>rw[ho]at h1 e; exact box_S g hd ho h1 e
  | buildSlice t n r=>rw[ho]at h1 e; exact lit_S m g hd ho h1 e
  | makeSlice t v y=>rw[ho]at h1 e; exact Wg m g hd ho h1 e
  | build t r=>rw[ho]at h1 e; exact UV m g hd ho h1 e
  | call c=>
   rw[ho]at h1 e; simp only at h1 e; split at h1
   ·rename_i v y t u C E G
    simp only[C,E,G]at e; refine SE m g hd ?_ h1 e
    obtain⟨T,R,U⟩:=c; simp only at C E G; subst C; rw[ho]; congr 2
    ·exact Nd E
    ·exact Nd G
   ·rename_i hn
    have J:LM F b d (.call c)=some b':=by
     split at e
     ·rename_i v y t u C E G; exact absurd G (hn v y t u C E)
     ·exact e
    exact Nr m g hd (by rw[ho]; exact h1) (by rw[ho]; exact J)
  | slice ty v V w W=>
   rw[ho]at h1 e; simp only at h1 e; cases hm:mem d F.tk with
   | true=>rw[hm]at e; exact cut_S m g hd ho (by rw[ho]; exact h1) (by rw[ho]; exact e)
   | false=>rw[hm]at e; exact Nr m g hd (by rw[ho]; exact h1) (by rw[ho]; exact e)
  | _=>rw[ho]at h1 e; exact Nr m g hd (by rw[ho]; exact h1) (by rw[ho]; exact e)
def B.freeze(F:FA)(b:B)(l:Loc):B:=b.setf F (fun m=>decide (m=l)) (fun m q=>if m=l then .F else q)
def B.frz(F:FA)(b:B):List Loc→B
 | []=>b
 | l::r=>(bif l.place&&(b.kd l).hold then(b.freeze F l).nrm F else b).frz F r

theorem Rp{n:Nat}(h:Ag F b x){l:Loc}(k:l.place=true)(j:(b.kd l).hold=true):Ag F ((b.freeze F l).nrm F) x∧ ∀ {g0:G} {w0:World} {a:Act} {w:World},Sim g0 w0 (b.S n x) a w→Sim g0 w0 (((b.freeze F l).nrm F).S n x) a w:=by
 have c:Ag F (b.freeze F l) x:=h.setf _ _; refine⟨c.nrm,fun {g0 w0 a w} f=> ?_⟩
 obtain⟨g,f⟩:=f; have h1:=f.freeze k (by show b.kd l≠ .D∧b.kd l≠ .V; constructor<;>(intro e; rw[e]at j; simp [K.hold]at j))
 exact⟨_,h1.relax ((kU h (Low.self n b x) (by simp [Ne.symm (Loc.place_ne k).1]) (fun m _ _=>dP _) (fun i _ _ p=>p)).le c)⟩

theorem TN{n:Nat}: ∀(L:List Loc) {b:B},Ag F b x→Ag F (b.frz F L) x∧ ∀ {g0:G} {w0:World} {a:Act} {w:World},Sim g0 w0 (b.S n x) a w→Sim g0 w0 ((b.frz F L).S n x) a w
 | [],b,c=>⟨c,fun e=>e⟩
 | l::r,b,c=>by
  show Ag F ((bif l.place&&(b.kd l).hold then(b.freeze F l).nrm F else b).frz F r) x∧ ∀ {g0:G} {w0:World} {a:Act} {w:World},_→Sim g0 w0 (((bif l.place&&(b.kd l).hold then(b.freeze F l).nrm F else b).frz F r).S n x) a w
  cases hc:(l.place&&(b.kd l).hold)with
  | true=>
   simp only[z7]at hc; obtain⟨h1,f⟩:=Rp (n:=n) c hc.1 hc.2; obtain⟨g,h⟩:=TN (n:=n) r h1; exact⟨g,fun e=>h (f e)⟩
  | false=>exact TN r c
end

def DA(vs:List V)(ob:List (List T)):D:= { sl:=fun i=>vs.getD i (.one .junk),ob:=fun o=>if par≤o then ob[o - par]? else none }
def DR(r:V)(io:Option T)(ob:List (List T))(nw:Option (List T)):D:=
  { sl:=fun i=>match i with | 0=>r | 1=>(match io with | some t=> .one (.c t) | none=> .one .junk) | _=> .one .junk
    ob:=fun o=>if par≤o then ob[o - par]? else if o=0 then nw else none }

structure Sg where
  bi:B
  bo:B
  np:Nat
  io:Option Nat:=none
  ext:Bool:=true
  no:Nat:=0

def sJ(P:Program)(n:Result Next)(R:Value→World→Prop):Prop:=
  match n with
  | .ok (.value v) w=>R v w
  | .ok (.enter f a) w=>Calls P f a w (fun e w'=> ∃v,e= .returned v∧R v w')
  | _=>False

def TC(P:Program)(f:FuncId)(sg:Sg)(vs:List V)(ob:List (List T))(r:V)(io:Option T)(a:List (List T))(nw:Option (List T)):Prop:=
  ∀g w (us:Array Value),bP g w (sg.bi.S sg.np (DA vs ob)) ⟨us,[]⟩ g w→sJ P ((callFunc f us).run P w) (fun u w'=> ∃g',bP g w (sg.bo.S 2 (DR r io a nw)) ⟨#[u,us.getD (sg.io.getD 0) undef],[]⟩ g' w')

def qC(os:List Nat)(o:Nat):Option Nat:=if o∈os then some (par+os.idxOf o)else none
def Ni(os:List Nat)(o:Nat):Option Nat:=if par≤o then os[o - par]? else none

def BL(ρ:Nat→Option Nat):List (Nat×Nat)→Option (List (Nat×Nat))
  | []=>some []
  | c::r=>(ρ c.1).bind fun o=>(BL ρ r).map fun a=>(o,c.2)::a

def W.to(ρ:Nat→Option Nat):W→W
  | .ptr o off=>((ρ o).map fun a=>W.ptr a off).getD .junk
  | .fn f caps=>((BL ρ caps).map fun c=>W.fn f c).getD .junk
  | .al _ _=> .junk
  | .pp _ _ _ _=> .junk
  | w=>w
def V.to(ρ:Nat→Option Nat):V→V
  | .one w=> .one (w.to ρ)
  | .tup a=> .tup (a.map (W.to ρ))

theorem PB{g g':G}{ρ:Nat→Option Nat}(a: ∀o b,ρ o=some b→g'.β b=g.β o): ∀ {l l':List (Nat×Nat)},BL ρ l=some l'→
    l.map (fun c=>Value.pointer (some ⟨g.β c.1,c.2,none⟩))=l'.map (fun c=>Value.pointer (some ⟨g'.β c.1,c.2,none⟩))
  | [],l',h=>by simp only[BL,z9]at h; subst h; rfl
  | c::r,l',h=>by
    simp only[BL,z19,z22]at h; obtain⟨o,ho,e,d,rfl⟩:=h; simp only[z54,PB a d,a _ _ ho]

theorem V.to_root{ρ:Nat→Option Nat}{x:V}:aI (x.to ρ)= .none:=by
  cases x with
  | tup a=>rfl
  | one w=>cases w with
    | ptr o off=>simp only[V.to,W.to]; cases ρ o<;>rfl
    | fn f caps=>simp only[V.to,W.to]; cases BL ρ caps<;>rfl
    | _=>rfl

theorem RW.to{g g':G}{w w':World}{κ κ':Nat→K}{l l':Nat→Loc}{v:Value}{x:W}{ρ:Nat→Option Nat}(q: ∀o d,ρ o=some d→g'.β d=g.β o)
    (a: ∀j t u,x.leaf j=some t→Hh v j=some u→nV u→LF g w (κ j) (l j) u t→LF g' w' (κ' j) (l' j) u t)(i: ∀xs,x= .cp xs→ ∀b off,CpR g w (κ 0) b off xs→CpR g' w' (κ' 0) b off xs)
    (h:RW g w κ l v x):RW g' w' κ' l' v (x.to ρ):=by
  cases x with
  | junk=>trivial
  | c y=>exact⟨h.1,a 0 y v rfl (iX h.1).1 h.1 h.2⟩
  | ag xs=>
    obtain⟨cs,rfl,e,s⟩:=h; refine⟨cs,rfl,e,fun j x p=> ?_⟩
    obtain⟨c,k,m,r⟩:=s j x p; exact⟨c,k,m,a j x c p k m r⟩
  | ptr o off=>
    simp only[W.to]; cases hρ:ρ o with
    | none=>trivial
    | some d=>
      show v=_; rw[q o d hρ]; exact h
  | cp xs=>
    obtain⟨b,off,h1,e⟩:=h; exact⟨b,off,h1,i xs rfl b off e⟩
  | pp _ _ _ _=>trivial
  | al _ _=>trivial
  | nilp=>exact h
  | ifc b=>exact h
  | fn f caps=>
    simp only[W.to]; cases hρ:BL ρ caps with
    | none=>trivial
    | some c=>
      show v=_; rw[←PB q hρ]; exact h

theorem RV.to{g g':G}{w w':World}{κ κ':Nat→Nat→K}{l l':Nat→Nat→Loc}{v:Value}{x:V}{ρ:Nat→Option Nat}(s: ∀o z,ρ o=some z→g'.β z=g.β o)
    (a: ∀k j t u,x.leaf k j=some t→sG v k j=some u→nV u→LF g w (κ k j) (l k j) u t→LF g' w' (κ' k j) (l' k j) u t)(d: ∀k xs,x.comp k=some (.cp xs)→ ∀b off,CpR g w (κ k 0) b off xs→CpR g' w' (κ' k 0) b off xs)
    (h:RV g w κ l v x):RV g' w' κ' l' v (x.to ρ):=by
  cases x with
  | one y=>
    refine RW.to (κ:=κ 0) (l:=l 0) s (fun j t u h1 c f i=>a 0 j t u h1 ?_ f i) (fun xs e b off m=>d 0 xs (by rw[e]; rfl) b off m) h
    obtain⟨H,A,E,_⟩:=RW.leaf (show RW g w (κ 0) (l 0) v y from h) h1; rw[c]at A; cases A; exact E
  | tup I=>
    obtain⟨vs,rfl,c,f⟩:=h; refine⟨vs,rfl,by simpa using c,fun k x r=> ?_⟩
    rw[z28]at r
    obtain⟨y,p,rfl⟩:=z22.1 r; obtain⟨u,q,D⟩:=f k y p; exact⟨u,q,RW.to (κ:=κ k) (l:=l k) s (fun j t F h1 c i C=>a k j t F (by simp [V.leaf,p,h1]) (by simp [sG,q,c]) i C) (fun xs e b off m=>d k xs (by simp only[V.comp]; rw[p,e]) b off m) D⟩

def FK(xs:List Operand)(t:Nat):Option Nat:=if xs.any (yL t)then some (xs.findIdx (yL t))else none

def sP(ext:Bool):Loc:=if ext then .ext else .none
def jS(sg:Sg)(xs:List Operand)(os:List Nat):Loc→Loc
  | .s t k j=>match FK xs t with | some i=>if(sg.bi.kd (.s i k j)).hold then .s i k j else sP sg.ext | none=>sP sg.ext
  | .obj o=>match qC os o with | some i=> .obj i | none=> .ext
  | .oc o j=>match qC os o with | some i=>if(sg.bi.kd (.oc i j)).hold then .oc i j else sP sg.ext | none=>sP sg.ext
  | .none=> .none
  | .ext=>sP sg.ext

open Classical in
noncomputable def G.into (g:G) (sg:Sg) (xs:List Operand) (os:List Nat) (Fp:Nat→Prop):G:=
  { β:=fun oc=>((Ni os oc).map g.β).getD 0,own:=fun b=>if Fp b then .s (sg.io.getD 0) 0 0 else jS sg xs os (g.own b) }

theorem Lt{os:List Nat}(hn:os.Nodup){oc o:Nat}(h:Ni os oc=some o):qC os o=some oc∧par≤oc∧os[oc - par]? =some o:=by
  simp only[Ni]at h; split at h
  · rename_i b
    have c:o∈os:=z24 h; have a:oc - par<os.length:=cK h; have:os.idxOf o=oc - par:=by
      rw[z16 a]at h
      have h:=z50 h; subst h; exact hn.idxOf_getElem _ a
    refine⟨?_,b,h⟩
    simp only[qC,z17 c,this]; exact congrArg some (Vv b)
  · cases h

theorem HZ{os:List Nat}{oc o:Nat}(h:qC os o=some oc):Ni os oc=some o:=by
  simp only[qC]at h; split at h
  · rename_i b
    have h:=z50 h; have h1:par≤oc:=by rw[←h]; exact Nat.le_add_right _ _
    have a:oc - par=os.idxOf o:=by rw[←h]; exact z78 _ _
    simp only[Ni]; rw[z17 h1,a]; rw[z16 (List.idxOf_lt_length_of_mem b)]
    simp
  · cases h

def K.hand(ext:Bool)(c q:K):Bool:=match q with
  | .D=>true
  | .F=>if ext then c.cp.lo .F else !(decide (c= .D))
  | .V=> !(decide (c= .D))
  | .S=>c.lo .S
  | .N=>c.lo .N
  | q=>ext&&c.lo q

theorem Dc(ext:Bool)(o:Nat):sP ext≠ .obj o:=by unfold sP; split<;>simp

theorem LF.hand{g f:G}{w:World}{ext:Bool}{c q:K}{l l':Loc}{v:Value}{x:T}(a:GOk g w)(k:l.place=true)(h:LF g w c l v x)(d:c.hand ext q=true)
    (t: ∀b,g.own b= .none→f.own b= .none)(z:ext=false→ ∀b,(∀o,g.own b≠ .obj o)→f.own b= .none)(y: ∀b,(∀o,g.own b≠ .obj o)→ ∀o,f.own b≠ .obj o)(C:q.hold=true→ ∀b,g.own b=l→f.own b=l'):LF f w q l' v x:=by
  have p: ∀b,frz g w b→frz f w b:=fun b j=>⟨j.1,t b j.2⟩
  have i: ∀b,all g w b→all f w b:=fun b j=>⟨j.1,y b j.2⟩
  have r:c≠ .D→Rd (all g w) w v x:=fun m=>h.rd a k m
  have e:q.hold=true→c.lo q=true→LF f w q l' v x:=fun E s=>(h.lo a k s).moved (C E) t i
  cases q with
  | D=>exact fun u=>(LF.scal (g':=f) (w':=w) (κ':= .D) (l':=l') h u (by simp)) u
  | F=>
    simp only[K.hand]at d; cases ext with
    | true=>
      simp only[if_true]at d; have:LF g w .F l v x:=(h.cp a k (l':=l)).lo a k d; exact Rd.weaken p this
    | false=>
      have m:c≠ .D:=by simpa using d
      exact Rd.weaken (fun b j=>⟨j.1,z rfl b j.2⟩) (r m)
  | V=>
    have m:c≠ .D:=by simpa [K.hand]using d
    exact Rd.weaken i (r m)
  | S=>
    have:=h.lo a k (κ':= .S) d; exact this
  | N=>
    have:=h.lo a k (κ':= .N) d; exact this
  | A n=>
    simp only[K.hand,z7]at d; exact e rfl d.2
  | U n=>
    simp only[K.hand,z7]at d; exact e rfl d.2

theorem CpR.hand{g f:G}{w:World}{ext:Bool}{c q:K}{b off:Nat}{xs:List T}(h:CpR g w c b off xs)(i:c.hand ext q=true)
    (u: ∀b,g.own b= .none→f.own b= .none)(t:ext=false→ ∀b,(∀o,g.own b≠ .obj o)→f.own b= .none)(s: ∀b,(∀o,g.own b≠ .obj o)→ ∀o,f.own b≠ .obj o)(v:q= .D∨q= .F∨q= .V):CpR f w q b off xs:=by
  have e: ∀b,frz g w b→frz f w b:=fun b d=>⟨d.1,u b d.2⟩
  have a: ∀b,all g w b→all f w b:=fun b d=>⟨d.1,s b d.2⟩
  rcases v with rfl | rfl | rfl
  · trivial
  · simp only[K.hand]at i
    cases ext with
    | true=>
      simp only[if_true]at i; cases c with
      | F=>exact⟨e _ h.1,fun j x m=>by obtain⟨c,h1,l⟩:=h.2 j x m; exact⟨c,h1,l.weaken e⟩⟩
      | D=>simp [K.cp,K.lo]at i
      | V=>simp [K.cp,K.lo]at i
      | _=>exact h.elim
    | false=>
      have p:c≠ .D:=by simpa using i
      have k:=h.toV p; have r: ∀b,all g w b→frz f w b:=fun b d=>⟨d.1,t rfl b d.2⟩
      exact⟨r _ k.1,fun j x m=>by obtain⟨c,h1,l⟩:=k.2 j x m; exact⟨c,h1,l.weaken r⟩⟩
  · have p:c≠ .D:=by simpa [K.hand]using i
    have k:=h.toV p; exact⟨a _ k.1,fun j x m=>by obtain⟨c,h1,l⟩:=k.2 j x m; exact⟨c,h1,l.weaken a⟩⟩

def LV(st:St)(sg:Sg)(xs:List Operand)(i:Nat):Operand→Prop
 | .tmp t=>match st.sl t with
  | .one (.al l _)=>l≠ .none∧st.fl (.s t 0 0)≠ .D∧K.V.hand sg.ext (sg.bi.kd (.s i 0 0))=true
  | .one (.pp _ _ _ _)=>True
  | _=>(∀k j,(st.fl (.s t k j)).hand sg.ext (sg.bi.kd (.s i k j))=true∧((sg.bi.kd (.s i k j)).hold=true→FK xs t=some i))∧ ∀k a,(st.sl t).comp k=some (.cp a)→sg.bi.kd (.s i k 0)= .D∨sg.bi.kd (.s i k 0)= .F∨sg.bi.kd (.s i k 0)= .V
 | .const c=> ∀k j,(jD (bE c) k j).hand sg.ext (sg.bi.kd (.s i k j))=true
 | _=>True

theorem Px(c:Value)(k:Nat)(xs:List T):(bE c).comp k≠some (.cp xs):=by
 have a: ∀w,(∀ys,w≠W.cp ys)→(V.one w).comp k≠some (.cp xs):=fun w b=>by
  cases k with
  | zero=>simp only[V.comp]; intro e; exact b xs (z50 e)
  | succ k=>simp [V.comp]
 unfold bE
 (repeat' split)<;>exact a _ (by simp)

theorem jU{g:G}{sg:Sg}{xs:List Operand}{os:List Nat}{Fp:Nat→Prop}{b:Nat}(h: ¬ Fp b):(g.into sg xs os Fp).own b=jS sg xs os (g.own b):=by
 simp only[G.into]; rw[z11 h]

theorem Pp{sg:Sg}{xs:List Operand}{os:List Nat}(c:sg.ext=false)(b: ∀l,(sg.bi.kd l).hold=false){l:Loc}(d: ∀o,l≠ .obj o):jS sg xs os l= .none:=by
 have a:sP sg.ext= .none:=by rw[c]; rfl
 cases l with
 | obj o=>exact absurd rfl (d o)
 | none=>rfl
 | ext=>exact a
 | s t k j=>
  simp only[jS]; split
  ·rw[z11 (by rw[b]; simp)]; exact a
  ·exact a
 | oc o j=>
  simp only[jS]; split
  ·rw[z11 (by rw[b]; simp)]; exact a
  ·exact a

theorem Po{sg:Sg}{xs:List Operand}{os:List Nat}{l:Loc}(a: ∀o,l≠ .obj o)(o:Nat):jS sg xs os l≠ .obj o:=by
 cases l with
 | obj o=>exact absurd rfl (a o)
 | none=>simp [jS]
 | ext=>exact Dc _ _
 | s t k j=>
  simp only[jS]
  (repeat' split)<;>first | exact Dc _ _ | simp
 | oc o j=>
  simp only[jS]
  (repeat' split)<;>first | exact Dc _ _ | simp

theorem Wn{ext:Bool}{q:K}(h:K.V.hand ext q=true):q.hold=false:=by
 cases q<;>first | rfl | (simp [K.hand,K.lo]at h)

theorem UF{ext:Bool}{c q:K}(a:c= .S∨c= .N)(h:c.hand ext q=true):c.lo q=true:=by
 rcases a with rfl | rfl<;>cases q<;>cases ext<;>simp_all [K.hand,K.lo,K.cp]

theorem bP.enter{g0:G}{w0:World}{st:St}{a:Act}{g:G}{w:World}(h:bP g0 w0 st a g w){sg:Sg}{xs:List Operand}{caps:List (Nat×Nat)}{os:List Nat}{Fp:Nat→Prop}{vs:List V}{ob:List (List T)}(hos:os.Nodup)(hnp:sg.np=vs.length)(hle:sg.np≤par)
  (P: ∀b,Fp b→(g.own b).place=true)(hno:sg.ext=false→(∀l,(sg.bi.kd l).hold=false)∧ ∀b, ¬ Fp b)
  (hFm: ∀t i k j,FK xs t=some i→(sg.bi.kd (.s i k j)).hold=true→ ∀b,g.own b= .s t k j→ ¬ Fp b)(hFo: ∀o oc j,qC os o=some oc→(sg.bi.kd (.oc oc j)).hold=true→ ∀b,g.own b= .oc o j→ ¬ Fp b)
  (M:vs=xs.map (fun v=>(evR st v).to (qC os))++caps.map (fun c=>(V.one (.ptr c.1 c.2)).to (qC os)))(hob:ob.map some=os.map st.ob)
  (R: ∀(i:Nat) v,xs[i]? =some v→sg.io≠some i→LV st sg xs i v)(U: ∀o oc j,qC os o=some oc→(st.fl (.oc o j)).hand sg.ext (sg.bi.kd (.oc oc j))=true)
  (hio: ∀(i:Nat) v,xs[i]? =some v→sg.io=some i→RV (g.into sg xs os Fp) w (fun k j=>sg.bi.kd (.s i k j)) (fun k j=> .s i k j) (a.eval v) ((evR st v).to (qC os))):
  bP (g.into sg xs os Fp) w (sg.bi.S sg.np (DA vs ob)) ⟨(xs.map a.eval++caps.map fun c=>Value.pointer (some ⟨g.β c.1,c.2,none⟩)).toArray,[]⟩ (g.into sg xs os Fp) w:=by
 have hβ: ∀o o',qC os o=some o'→(g.into sg xs os Fp).β o'=g.β o:=fun o o' ho=>by simp [G.into,HZ ho]
 have L: ∀b,g.own b= .none→(g.into sg xs os Fp).own b= .none:=fun b d=>by
  rw[jU (fun q=>by have:=P b q; rw[d]at this; cases this),d]; rfl
 have hN:sg.ext=false→ ∀b,(∀o,g.own b≠ .obj o)→(g.into sg xs os Fp).own b= .none:=fun he b d=>by
  obtain⟨h1,O⟩:=hno he; rw[jU (O b)]; exact Pp he h1 d
 have Z: ∀b,(∀o,g.own b≠ .obj o)→ ∀o,(g.into sg xs os Fp).own b≠ .obj o:=fun b d o=>by
  by_cases q:Fp b
  ·simp only[G.into]; rw[z17 q]; simp
  ·rw[jU q]; exact Po d o
 refine⟨pO.refl _ _ (fun b I d=>⟨L b (h.framed.now b I d).1,(h.framed.now b I d).2⟩),⟨fun b d=>h.ok.own b (fun e=>d (L b e))⟩, ?_,rfl,fun i=> ?_,fun oc cells hc=> ?_,fun i hi q=> ?_,fun _ _=>rfl,hle⟩
 ·simp [B.S,hnp,M]
 ·show RV _ w (fun k j=>sg.bi.kd (.s i k j)) _ ((xs.map a.eval++caps.map fun c=>Value.pointer (some ⟨g.β c.1,c.2,none⟩)).toArray.getD i undef) (if sg.bi.has i=true then vs.getD i (.one .junk)else .one .junk)
  by_cases E:sg.bi.has i=true
  ·rw[z17 E,M]
   simp only[z43,z85,z81,List.getElem?_append,z28,z79]
   split
   ·cases J:xs[i]? with
    | none=>trivial
    | some v=>
     simp only[z33,z62]; by_cases hi:sg.io=some i
     ·exact hio i v J hi
     ·have C:=R i v J hi
      cases v with
      | tmp t=>
       have hs:=h.slots t; simp only[LV]at C; show RV _ w _ _ (a.tmps.getD t undef) ((vD st.sl st.ob (st.sl t)).to (qC os))
       have m:(∀l p,st.sl t≠ .one (.al l p))→((∀k j,(st.fl (.s t k j)).hand sg.ext (sg.bi.kd (.s i k j))=true∧((sg.bi.kd (.s i k j)).hold=true→FK xs t=some i))∧ ∀k Y,(st.sl t).comp k=some (.cp Y)→sg.bi.kd (.s i k 0)= .D∨sg.bi.kd (.s i k 0)= .F∨sg.bi.kd (.s i k 0)= .V)→
         RV (g.into sg xs os Fp) w (fun k j=>sg.bi.kd (.s i k j)) (fun k j=> .s i k j) (a.tmps.getD t undef) ((vD st.sl st.ob (st.sl t)).to (qC os)):=fun hna C=>by
        have e:vD st.sl st.ob (st.sl t)=st.sl t:=by
         cases hsl:st.sl t with
         | tup ws=>rfl
         | one y=>cases y<;>first | rfl | exact absurd hsl (hna _ _)
        rw[e]; refine hs.to hβ (fun k j z u hz hu hn q=> ?_) (fun k Y hz b off hc=>hc.hand (ext:=sg.ext) (C.1 k 0).1 L hN Z (C.2 k Y hz))
        refine q.hand h.ok rfl (C.1 k j).1 L hN Z (fun H b d=> ?_)
        have Q:=(C.1 k j).2 H; rw[jU (hFm t i k j Q H b d),d]; simp only[jS,Q]; rw[z17 H]
       cases hsl:st.sl t with
       | tup ws=>rw[hsl]at C m; exact m (by simp) C
       | one y=>
        rw[hsl]at C m; cases y with
        | al l p=>
         obtain⟨h1,O,h3⟩:=C; have hp:=h.pls t (by rw[hsl]; exact h1) O
         rw[hsl]at hp; obtain⟨hk,v0,x0,x',e1,e2,e3⟩:=hp; have e2':atL st.sl st.ob l=some x0:=e2; have e:vD st.sl st.ob (.one (.al l p))= .one (.c x'):=by simp [vD,e2',e3.nav]
         rw[e]; have X:=h.pl_rd hk e1 e2 e3; refine⟨X.not_agg, ?_⟩
         have:LF g w .V (.s t 0 0) (a.tmps.getD t undef) x':=X; refine this.hand h.ok rfl h3 L hN Z (fun H=> ?_)
         exact absurd H (by rw[Wn h3]; simp)
        | pp l p a b=>trivial
        | _=>exact m (by simp) C
      | const c=>
       have hs:=uV g w (fun k j=>Loc.s i k j) c
       show RV _ w _ _ c ((vD st.sl st.ob (bE c)).to (qC os)); have e:vD st.sl st.ob (bE c)=bE c:=by unfold bE; (repeat' split)<;>rfl
       rw[e]; refine hs.to hβ (fun k j z u hz hu hn q=> ?_) (fun k Y hz=>absurd hz (Px c k Y))
       have H:=C k j; have hk:jD (bE c) k j= .S∨jD (bE c) k j= .N:=by
        unfold jD; split
        ·split
         ·exact .inl rfl
         ·exact .inr rfl
        ·exact .inl rfl
       have O:LF (g.into sg xs os Fp) w (jD (bE c) k j) (.s i k j) u z:=by
        rcases hk with e | e
        ·rw[e]at q ⊢; exact q
        ·rw[e]at q ⊢; exact q
       have hlo:(jD (bE c) k j).lo (sg.bi.kd (.s i k j))=true:=UF hk H; exact O.lo ⟨fun b d=>h.ok.own b (fun e=>d (L b e))⟩ rfl hlo
      | func f=>rfl
      | global n=>trivial
   ·cases J:caps[i - xs.length]? with
    | none=>trivial
    | some c=>
     simp only[z33,z62]; exact RV.to (g:=g) (w:=w) (κ:=fun _ _=> .D) (l:=fun _ _=> .none) (x:= .one (.ptr c.1 c.2)) hβ (fun k j t u J=>by cases k<;>simp [V.leaf,W.leaf]at J) (fun k xs J=>by cases k<;>simp [V.comp]at J) rfl
  ·rw[z11 E]; trivial
 ·have A:(if sg.bi.hasO oc=true then(DA vs ob).ob oc else none)=some cells:=hc
  split at A<;>try cases A
  simp only[DA]at A; split at A<;>try cases A
  rename_i E hp; have h1:(os.map st.ob)[oc - par]? =some (some cells):=by rw[←hob,z28,A]; rfl
  rw[z28,z22]at h1
  obtain⟨o,ho,h1⟩:=h1; have K:Ni os oc=some o:=by simp [Ni,hp,ho]
  obtain⟨r,_,_⟩:=Lt hos K; obtain⟨I,ty,k1,k2,k3,k4⟩:=h.obs o cells h1; have d:(g.into sg xs os Fp).β oc=g.β o:=by simp [G.into,K]
  rw[d]; refine⟨I,ty,k1,k2, ?_,fun j x J=> ?_⟩
  ·rw[jU (fun q=>by have:=P _ q; rw[k3]at this; cases this),k3]
   simp only[jS,r]
  ·obtain⟨c,c1,c2,c3⟩:=k4 j x J
   refine⟨c,c1,c2, ?_⟩
   show LF _ w (sg.bi.kd (.oc oc j)) _ c x; refine c3.hand h.ok rfl (U o oc j r) L hN Z (fun H b d=> ?_)
   rw[jU (hFo o oc j r H b d),d]; simp only[jS,r]; rw[z17 H]
 ·exfalso
  apply hi
  show aI (if sg.bi.has i=true then vs.getD i (.one .junk)else .one .junk)= .none
  split
  ·rw[M,z81,List.getElem?_append]
   simp only[z28,z79]
   split
   ·cases xs[i]? with
    | none=>rfl
    | some v=>exact V.to_root
   ·cases caps[i - xs.length]? with
    | none=>rfl
    | some c=>exact V.to_root (ρ:=qC os) (x:= .one (.ptr c.1 c.2))
  ·rfl

def AX(nd:Option Nat)(v:V):V:=match nd with | some d=>v.kill d | none=>v

def wW(os:List Nat)(nd:Option Nat)(oc:Nat):Option Nat:=if par≤oc then os[oc - par]? else if oc=0 then nd else none
def rV(os:List Nat)(nd:Option Nat)(o:Nat):Option Nat:=if o∈os then some (par+os.idxOf o)else if nd=some o then some 0 else none

theorem Gx: ¬ par≤0:=by unfold par; omega

theorem Rh{os:List Nat}{nd:Option Nat}{oc o:Nat}(h:rV os nd o=some oc):wW os nd oc=some o:=by
  simp only[rV]at h; split at h
  · rename_i a
    have:=HZ (os:=os) (o:=o) (oc:=oc) (by simp only[qC]; rw[z17 a]; exact h)
    simp only[Ni]at this; simp only[wW]; split at this
    · rename_i b; rw[z17 b]; exact this
    · cases this
  · split at h
    · rename_i h1
      have h:=z50 h; subst h; simp only[wW]; rw[z11 Gx]; simpa using h1
    · cases h

theorem Dr{os:List Nat}{nd:Option Nat}{o:Nat}(h:rV os nd o=none):qC os o=none∧nd≠some o:=by
  simp only[rV]at h; split at h
  · cases h
  · rename_i a
    split at h
    · cases h
    · rename_i h1
      exact⟨by simp only[qC,z11 a],h1⟩

def K.back(ext:Bool)(q:K):K:=match q with
  | .V=> .D
  | .F=>if ext then .F else .V
  | .A s=>if ext then .A s else .V
  | q=>q

def tY(d nd:Option Nat)(os:List Nat):Loc→Bool
  | .s i _ _=>decide (d=some i)
  | .oc o _=>(rV os nd o).isSome
  | _=>false

def St.call(st:St)(d nd:Option Nat)(os:List Nat)(ext:Bool)(a:B)(y:D):St:=
  { n:=st.n
    sl:=fun i=>if d=some i then(y.sl 0).to (wW os nd)else AX nd (st.sl i)
    ob:=fun o=>match rV os nd o with | some oc=>(if a.hasO oc then y.ob oc else none) | none=>st.ob o
    fl:=fun l=>match l with
      | .s i k j=>if d=some i then(a.kd (.s 0 k j)).back ext else if k=0∧j=0∧tY d nd os (aI (st.sl i))=true then .D else st.fl (.s i k j)
      | .oc o j=>match rV os nd o with | some oc=>(a.kd (.oc oc j)).back ext | none=>st.fl (.oc o j)
      | l=>st.fl l }

def LN(d:Option Nat)(ρ:Nat→Option Nat)(iol:Loc):Loc→Loc
  | .s i k j=>if i=0 then(match d with | some d=> .s d k j | none=> .ext)else if i=1 then iol else .ext
  | .obj oc=>match ρ oc with | some o=> .obj o | none=> .ext
  | .oc oc j=>match ρ oc with | some o=> .oc o j | none=> .ext
  | .none=> .none
  | .ext=> .ext

def gP:Loc→Bool
  | .none=>true
  | .ext=>true
  | _=>false
theorem JK{l:Loc}:gP l=true↔qQ l:=by cases l<;>simp [gP,qQ]

def G.back(g gc a:G)(w:World)(d nd:Option Nat)(os:List Nat)(iol:Loc):G:=
  { β:=fun o=>if nd=some o then a.β 0 else g.β o
    own:=fun b=>if gP (a.own b)then(if b<w.heap.size∧gP (gc.own b)=true then g.own b else a.own b)else LN d (wW os nd) iol (a.own b) }

theorem NB{nd:Option Nat}{x:V}{k j:Nat}:(AX nd x).leaf k j=x.leaf k j:=by
  cases nd with
  | none=>rfl
  | some d=>exact V.kill_leaf
theorem NA{nd:Option Nat}{x:V}:aI (AX nd x)=aI x:=by
  cases nd with
  | none=>rfl
  | some d=>exact V.kill_root

theorem pW(a:Act)(d:Option Nat)(u:Value)(i:Nat)(h:d≠some i):(a.put d u).tmps.getD i undef=a.tmps.getD i undef:=by
  cases d with
  | none=>rfl
  | some d=>
    simp only[Act.put,z43]; rw[z92 (fun e=>h (by rw[e]))]

theorem LF.back{g' c:G}{w':World}{ext:Bool}{q:K}{l l':Loc}{v:Value}{x:T}(g:GOk g' w')(r:l.place=true)(d:l'.place=true)(h:LF g' w' q l v x)(f: ∀b,g'.own b=l→c.own b=l')
    (i: ∀b,frz g' w' b→all c w' b)(k:ext=true→ ∀b,frz g' w' b→c.own b= .none):LF c w' (q.back ext) l' v x:=by
  have j:LF c w' .D l' v x:=fun m=>LF.scal (g':=c) (w':=w') (κ':= .D) (l':=l') h m (by simp) m
  have p: ∀b,g'.own b=l→all c w' b:=fun b a=>⟨g.own b (by rw[a]; exact(Loc.place_ne r).1),fun o=>by rw[f b a]; exact(Loc.place_ne d).2.2 o⟩
  cases q with
  | D=>exact j
  | V=>exact j
  | F=>
    cases ext with
    | true=>exact Rd.weaken (fun b a=>⟨a.1,k rfl b a⟩) h
    | false=>exact Rd.weaken i h
  | A n=>
    cases ext with
    | true=>exact Ow.mono h id (fun _ b a=>⟨⟨a.1,k rfl b a⟩,rfl⟩) (fun b a=>⟨f b a,rfl⟩)
    | false=>exact Ow.rd h p i
  | U n=>exact Ow.mono h id (fun e=>by cases e) (fun b a=>⟨f b a,rfl⟩)
  | S=>exact h
  | N=>exact h

theorem CpR.back{g' a:G}{w':World}{ext:Bool}{q:K}{b off:Nat}{xs:List T}(h:CpR g' w' q b off xs)(f: ∀b,frz g' w' b→all a w' b)(g:ext=true→ ∀b,frz g' w' b→a.own b= .none):CpR a w' (q.back ext) b off xs:=by
  cases q with
  | D=>trivial
  | V=>trivial
  | F=>
    cases ext with
    | true=>exact⟨⟨h.1.1,g rfl _ h.1⟩,fun j x e=>by obtain⟨c,h1,d⟩:=h.2 j x e; exact⟨c,h1,d.weaken fun b i=>⟨i.1,g rfl b i⟩⟩⟩
    | false=>exact⟨f _ h.1,fun j x e=>by obtain⟨c,h1,d⟩:=h.2 j x e; exact⟨c,h1,d.weaken f⟩⟩
  | A n=>exact h.elim
  | U n=>exact h.elim
  | S=>exact h.elim
  | N=>exact h.elim

theorem bP.leave{g0:G}{w0:World}{st:St}{a:Act}{g:G}{w:World}(hs:bP g0 w0 st a g w){sg:Sg}{xs:List Operand}{os:List Nat}{Fp:Nat→Prop}{g':G}{w':World}{y:D}{us:Array Value}{v:Value}{d nd:Option Nat}{iol:Loc}
    (hos:os.Nodup)(hd: ∀i,d=some i→i<st.n)(hnd: ∀o,nd=some o→o<par∧o ∉ os)(hFp: ∀b,Fp b→(g.own b).place=true)(hiol:iol≠ .none∧ ∀o,iol≠ .obj o)
    (hc:bP (g.into sg xs os Fp) w (sg.bo.S 2 y) ⟨us,[]⟩ g' w')(hv:us.getD 0 undef=v)(hb0:sg.bo.has 0=true)
    (hhold: ∀m x,(st.fl m).hold=true→st.at m=some x→gP (jS sg xs os m)=true∧ ∀b,g.own b=m→ ¬ Fp b)(hV:(∀m,st.fl m≠ .V)∨(∀l,(sg.bi.kd l).hold=false)∧ ∀b, ¬ Fp b):
    bP g0 w0 (st.call d nd os sg.ext sg.bo y) (a.put d v) (g.back (g.into sg xs os Fp) g' w d nd os iol) w':=by
  have hfor: ∀b,b<w.heap.size→gP ((g.into sg xs os Fp).own b)=true→g'.own b=(g.into sg xs os Fp).own b∧(g.back (g.into sg xs os Fp) g' w d nd os iol).own b=g.own b∧w'.heap[b]? =w.heap[b]? :=fun b hb hf=>by
    obtain⟨h1,h2⟩:=hc.framed.evo.keep b hb (fun hx=>hx (JK.1 hf))
    refine⟨h1, ?_,h2⟩
    simp only[G.back]; rw[h1,z17 hf,z17 ⟨hb,hf⟩]
  have hinto: ∀b,qQ (g.own b)→gP ((g.into sg xs os Fp).own b)=true∧(g.own b= .none→(g.into sg xs os Fp).own b= .none):=fun b hb=>by
    have hn: ¬ Fp b:=fun hf=>by
      have:=hFp b hf; rcases hb with h | h<;>(rw[h]at this; cases this)
    rw[jU hn]; rcases hb with h | h
    · rw[h]; exact⟨rfl,fun _=>rfl⟩
    · rw[h]
      refine⟨?_,fun e=>by cases e⟩
      simp only[jS,sP]; split<;>rfl
  have hF:pO g w (g.back (g.into sg xs os Fp) g' w d nd os iol) w':=by
    refine⟨hs.framed.now,hc.framed.os,hc.framed.tape,hc.framed.output,hc.framed.evo.size,fun b hb hX=> ?_⟩
    have hf:qQ (g.own b):=z143.1 hX; obtain⟨_,h2,h3⟩:=hfor b hb (hinto b hf).1; exact⟨h2,h3⟩
  have hobjn: ∀o,qC os o=none→ ∀b,g.own b= .obj o→gP ((g.into sg xs os Fp).own b)=true:=fun o ho b hb=>by
    have hn: ¬ Fp b:=fun hf=>by have:=hFp b hf; rw[hb]at this; cases this
    rw[jU hn,hb]; simp only[jS,ho]; rfl
  have hback: ∀b,gP (g'.own b)=false→(g.back (g.into sg xs os Fp) g' w d nd os iol).own b=LN d (wW os nd) iol (g'.own b):=fun b hb=>by
    simp only[G.back]; rw[z11 (by rw[hb]; simp)]
  have hplace: ∀b l,g'.own b=l→l.place=true→(g.back (g.into sg xs os Fp) g' w d nd os iol).own b=LN d (wW os nd) iol l:=fun b l hb hl=>by
    rw[←hb]; exact hback b (by rw[hb]; cases l<;>simp_all [gP,Loc.place])
  have hfz: ∀b,frz g' w' b→all (g.back (g.into sg xs os Fp) g' w d nd os iol) w' b∧(sg.ext=true→(g.back (g.into sg xs os Fp) g' w d nd os iol).own b= .none):=fun b hb=>by
    have hf:gP (g'.own b)=true:=by rw[hb.2]; rfl
    have e:(g.back (g.into sg xs os Fp) g' w d nd os iol).own b=if b<w.heap.size∧gP ((g.into sg xs os Fp).own b)=true then g.own b else .none:=by
      simp only[G.back]; rw[z17 hf,hb.2]
    by_cases ho:b<w.heap.size∧gP ((g.into sg xs os Fp).own b)=true
    · rw[z17 ho]at e
      obtain⟨h1,_,_⟩:=hfor b ho.1 ho.2; rw[hb.2]at h1; have hn: ¬ Fp b:=fun hf=>by
        simp only[G.into]at h1; rw[z17 hf]at h1; cases h1
      rw[jU hn]at h1; have hno: ∀o,g.own b≠ .obj o:=fun o eo=>by
        rw[eo]at h1; simp only[jS]at h1; split at h1<;>cases h1
      refine⟨⟨hb.1,fun o=>by rw[e]; exact hno o⟩,fun he=> ?_⟩
      rw[e]; cases hg:g.own b with
      | none=>rfl
      | ext=>rw[hg]at h1; simp [jS,sP,he]at h1
      | obj o=>exact absurd hg (hno o)
      | s t k j=>
        rw[hg]at h1; simp only[jS,sP,he]at h1
        (repeat' split at h1)<;>simp_all
      | oc o j=>
        rw[hg]at h1; simp only[jS,sP,he]at h1
        (repeat' split at h1)<;>simp_all
    · rw[z11 ho]at e
      exact⟨⟨hb.1,fun o=>by rw[e]; simp⟩,fun _=>e⟩
  have hβ1: ∀o,nd≠some o→(g.back (g.into sg xs os Fp) g' w d nd os iol).β o=g.β o:=fun o h=>by simp only[G.back,z11 h]
  have hβ2: ∀oc o,wW os nd oc=some o→(g.back (g.into sg xs os Fp) g' w d nd os iol).β o=g'.β oc:=by
    intro oc o h; simp only[wW]at h; split at h
    · rename_i hp
      have hm:o∈os:=z24 h; have h2:=hc.bp oc hp; have h3:(g.into sg xs os Fp).β oc=g.β o:=by simp [G.into,Ni,hp,h]
      rw[hβ1 o (fun e=>(hnd o e).2 hm),h2,h3]
    · split at h
      · rename_i h0
        subst h0; simp only[G.back,z17 h]
      · cases h
  have hkeep: ∀m,m.place=true→(∀b,g.own b=m→gP ((g.into sg xs os Fp).own b)=true)→ ∀b,g.own b=m→(g.back (g.into sg xs os Fp) g' w d nd os iol).own b=m∧w'.heap[b]? =w.heap[b]? :=fun m hm h b hb=>by
    have hlt:b<w.heap.size:=hs.ok.own b (by rw[hb]; exact(Loc.place_ne hm).1)
    obtain⟨_,h2,h3⟩:=hfor b hlt (h b hb); exact⟨h2.trans hb,h3⟩
  have hZ: ∀b,frz g w b→frz (g.back (g.into sg xs os Fp) g' w d nd os iol) w' b∧w'.heap[b]? =w.heap[b]? :=fun b hb=>by
    obtain⟨_,h2,h3⟩:=hfor b hb.1 (hinto b (.inl hb.2)).1; exact⟨⟨z46 hb.1 hc.framed.evo.size,h2.trans hb.2⟩,h3⟩
  have hVk:(∃m,st.fl m= .V)→ ∀b,all g w b→all (g.back (g.into sg xs os Fp) g' w d nd os iol) w' b∧w'.heap[b]? =w.heap[b]? :=fun⟨m,hm⟩ b hb=>by
    rcases hV with h | ⟨h1,h2⟩
    · exact absurd hm (h m)
    · have hf:gP ((g.into sg xs os Fp).own b)=true:=by
        rw[jU (h2 b)]; cases hg:g.own b with
        | obj o=>exact absurd hg (hb.2 o)
        | none=>rfl
        | ext=>simp only[jS,sP]; split<;>rfl
        | s t k j=>
          simp only[jS]; have hr:gP (sP sg.ext)=true:=by unfold sP; split<;>rfl
          split
          · rw[z11 (by rw[h1]; simp)]; exact hr
          · exact hr
        | oc o j=>
          simp only[jS]; have hr:gP (sP sg.ext)=true:=by unfold sP; split<;>rfl
          split
          · rw[z11 (by rw[h1]; simp)]; exact hr
          · exact hr
      obtain⟨_,q2,q3⟩:=hfor b hb.1 hf; exact⟨⟨z46 hb.1 hc.framed.evo.size,fun o=>by rw[q2]; exact hb.2 o⟩,q3⟩
  have hlf: ∀m x u,st.at m=some x→LF g w (st.fl m) m u x→LF (g.back (g.into sg xs os Fp) g' w d nd os iol) w' (st.fl m) m u x:=fun m x u hm hf=>by
    have hmp:=at_isPlace hm; have hown:(st.fl m).hold=true→ ∀b,g.own b=m→(g.back (g.into sg xs os Fp) g' w d nd os iol).own b=m∧w'.heap[b]? =w.heap[b]? :=fun hk=>by
      obtain⟨q1,q2⟩:=hhold m x hk hm; exact hkeep m hmp (fun b hb=>by rw[jU (q2 b hb),hb]; exact q1)
    cases hκ:st.fl m with
    | D=>rw[hκ]at hf; exact fun hsc=>(hf hsc).scal hsc
    | V=>rw[hκ]at hf; exact Rd.mono (hVk ⟨m,hκ⟩) hf
    | F=>rw[hκ]at hf; exact Rd.mono hZ hf
    | A n=>rw[hκ]at hf; exact Ow.mono hf id (fun _=>hZ) (hown (by rw[hκ]; rfl))
    | U n=>rw[hκ]at hf; exact Ow.mono hf id (fun _=>hZ) (hown (by rw[hκ]; rfl))
    | S=>rw[hκ]at hf; exact⟨hf.1,hf.2.scal hf.1⟩
    | N=>rw[hκ]at hf; exact hf
  have hcpr: ∀i k zs b off,(st.sl i).comp k=some (.cp zs)→CpR g w (st.fl (.s i k 0)) b off zs→CpR (g.back (g.into sg xs os Fp) g' w d nd os iol) w' (st.fl (.s i k 0)) b off zs:=fun i k zs b off _ hr=>by
    have key: ∀ {Q Q':Nat→Prop},(∀b,Q b→Q' b∧w'.heap[b]? =w.heap[b]?)→(Q b∧ ∀(j:Nat) x,zs[j]? =some x→ ∃c,w.cell? ⟨b,off+j,none⟩=some c∧Rd Q w c x)→(Q' b∧ ∀(j:Nat) x,zs[j]? =some x→ ∃c,w'.cell? ⟨b,off+j,none⟩=some c∧Rd Q' w' c x):=by
      rintro Q Q' hq ⟨h1,h2⟩
      refine⟨(hq b h1).1,fun j x hx=> ?_⟩
      obtain⟨c,hc,hr⟩:=h2 j x hx; exact⟨c,(cI (hq b h1).2).trans hc,hr.mono hq⟩
    cases hκ:st.fl (.s i k 0)with
    | D=>trivial
    | V=>rw[hκ]at hr; exact key (hVk ⟨_,hκ⟩) hr
    | F=>rw[hκ]at hr; exact key hZ hr
    | _=>rw[hκ]at hr; exact hr.elim
  have hput: ∀i,d=some i→(a.put d v).tmps.getD i undef=v:=by
    intro i e; subst e; have hlt:i<a.tmps.size:=by rw[hs.size]; exact hd i rfl
    rw[Act.put_getD a i v i hlt,z17 rfl]
  have hβk: ∀o,nd≠some o→(g.back (g.into sg xs os Fp) g' w d nd os iol).β o=g.β o:=hβ1; have hobj: ∀o,rV os nd o=none→ ∀cells,st.ob o=some cells→(g.back (g.into sg xs os Fp) g' w d nd os iol).own (g.β o)= .obj o∧w'.heap[g.β o]? =w.heap[g.β o]? :=fun o hi cells hcl=>by
    obtain⟨hi1,_⟩:=Dr hi; obtain⟨arr,ty,_,_,k3,_⟩:=hs.obs o cells hcl; have hlt:g.β o<w.heap.size:=hs.ok.own _ (by rw[k3]; simp)
    obtain⟨_,q2,q3⟩:=hfor _ hlt (hobjn o hi1 _ k3); exact⟨q2.trans k3,q3⟩
  refine⟨hs.framed.trans hF,⟨fun b hb=> ?_⟩, ?_, ?_,fun i=> ?_,fun o cells hcl=> ?_,fun i hi hf=> ?_,fun o ho=>(hβ1 o (fun e=>by have:=(hnd o e).1; omega)).trans (hs.bp o ho),hs.nle⟩
  · by_cases hlt:b<w.heap.size
    · exact z46 hlt hc.framed.evo.size
    · refine hc.ok.own b (fun e=>hb ?_)
      simp only[G.back]; rw[e,z17 (show gP Loc.none=true from rfl),z11 (fun h=>hlt h.1)]
  · cases d with
    | none=>exact hs.size
    | some d=>simp only[Act.put,z112]; exact hs.size
  · cases d<;>exact hs.defers
  · -- a slot
    show RV _ w' (fun k j=>if d=some i then(sg.bo.kd (.s 0 k j)).back sg.ext else if k=0∧j=0∧tY d nd os (aI (st.sl i))=true then .D else st.fl (.s i k j)) _ ((a.put d v).tmps.getD i undef) (if d=some i then(y.sl 0).to (wW os nd)else AX nd (st.sl i))
    by_cases e:d=some i
    · simp only[z17 e]
      rw[hput i e]; have hr:=hc.slots 0; have hr:RV g' w' (fun k j=>sg.bo.kd (.s 0 k j)) (fun k j=> .s 0 k j) (us.getD 0 undef) (y.sl 0):=by
        have h2:(sg.bo.S 2 y).sl 0=y.sl 0:=qO hb0; rw[h2]at hr; exact hr
      rw[hv]at hr; refine hr.to hβ2 (fun k j t u _ _ _ hf=> ?_) (fun k zs _ b off hq=>hq.back (fun b hb=>(hfz b hb).1) (fun he b hb=>(hfz b hb).2 he))
      refine hf.back hc.ok rfl rfl (fun b hb=> ?_) (fun b hb=>(hfz b hb).1) (fun he b hb=>(hfz b hb).2 he)
      rw[hplace b _ hb rfl]; simp only[LN,if_true,e]
    · simp only[z11 e]
      rw[pW a d v i e]; have hs1:=hs.slots i; have hfl: ∀k j t,(st.sl i).leaf k j=some t→(if k=0∧j=0∧tY d nd os (aI (st.sl i))=true then K.D else st.fl (.s i k j))=st.fl (.s i k j):=fun k j t ht=>by
        rw[z11]; rintro ⟨rfl,rfl,h3⟩
        rw[uM (st:=st) (i:=i) (x:=t) ht]at h3; cases h3
      have hflc: ∀k zs,(st.sl i).comp k=some (.cp zs)→(if k=0∧0=0∧tY d nd os (aI (st.sl i))=true then K.D else st.fl (.s i k 0))=st.fl (.s i k 0):=fun k zs hz=>by
        rw[z11]; rintro ⟨rfl,_,h3⟩
        cases hsl:st.sl i with
        | one w=>rw[hsl]at hz h3; simp only[V.comp,z9]at hz; subst hz; cases h3
        | tup ws=>rw[hsl]at h3; cases h3
      have plain:(∀o o',o=o'→nd≠some o→(g.back (g.into sg xs os Fp) g' w d nd os iol).β o'=g.β o):=fun o o' e h=>by subst e; exact hβ1 o h
      rcases Option.eq_none_or_eq_some nd with hn | ⟨z,hn⟩
      · have ek:AX nd (st.sl i)=st.sl i:=by rw[hn]; rfl
        rw[ek]; exact hs1.map (fun o=>hβ1 o (by rw[hn]; simp)) (fun k j t u ht _ _ hf=>by rw[hfl k j t ht]; exact hlf (.s i k j) t u ht hf) (fun k zs hz b off hq=>by rw[hflc k zs hz]; exact hcpr i k zs b off hz hq)
      · have ek:AX nd (st.sl i)=(st.sl i).kill z:=by rw[hn]; rfl
        rw[ek]; exact RV.kill (fun o ho=>hβ1 o (by rw[hn]; simpa using Ne.symm ho)) (fun k j t u ht _ _ hf=>by rw[hfl k j t ht]; exact hlf (.s i k j) t u ht hf) (fun k zs hz b off hq=>by rw[hflc k zs hz]; exact hcpr i k zs b off hz hq) hs1
  · -- an object
    have hcl':(match rV os nd o with | some oc=>(if sg.bo.hasO oc then y.ob oc else none) | none=>st.ob o)=some cells:=hcl
    cases hi:rV os nd o with
    | some oc=>
      rw[hi]at hcl'; have ho:=Rh hi; obtain⟨arr,ty,k1,k2,k3,k4⟩:=hc.obs oc cells hcl'; rw[hβ2 oc o ho]; refine⟨arr,ty,k1,k2, ?_,fun j x hx=> ?_⟩
      · rw[hback _ (by rw[k3]; rfl),k3]; simp only[LN,ho]
      · obtain⟨c,c1,c2,c3⟩:=k4 j x hx
        refine⟨c,c1,c2, ?_⟩
        have e1:(st.call d nd os sg.ext sg.bo y).fl (.oc o j)=(sg.bo.kd (.oc oc j)).back sg.ext:=by simp only[St.call,hi]
        rw[e1]; refine LF.back (l:= .oc oc j) hc.ok rfl rfl c3 (fun b hb=> ?_) (fun b hb=>(hfz b hb).1) (fun he b hb=>(hfz b hb).2 he)
        rw[hplace b _ hb rfl]; simp only[LN,ho]
    | none=>
      rw[hi]at hcl'; have hcl':st.ob o=some cells:=hcl'; obtain⟨hi1,hi2⟩:=Dr hi; obtain⟨arr,ty,k1,k2,k3,k4⟩:=hs.obs o cells hcl'; obtain⟨m1,m2⟩:=hobj o hi cells hcl'; rw[hβ1 o hi2]; refine⟨arr,ty,m2.trans k1,k2,m1,fun j x hx=> ?_⟩
      obtain⟨c,c1,c2,c3⟩:=k4 j x hx; refine⟨c,c1,c2, ?_⟩
      have e1:(st.call d nd os sg.ext sg.bo y).fl (.oc o j)=st.fl (.oc o j):=by simp only[St.call,hi]
      rw[e1]; exact hlf (.oc o j) x c (by rw[St.at_oc,hcl']; exact hx) c3
  · -- a place's part
    have hsl:(st.call d nd os sg.ext sg.bo y).sl i=if d=some i then(y.sl 0).to (wW os nd)else AX nd (st.sl i):=rfl
    rw[hsl]at hi ⊢; by_cases e:d=some i
    · rw[z17 e]at hi; exact absurd V.to_root hi
    · rw[z11 e]at hi ⊢
      rw[NA]at hi ⊢; have hfe:(st.call d nd os sg.ext sg.bo y).fl (.s i 0 0)=if tY d nd os (aI (st.sl i))=true then .D else st.fl (.s i 0 0):=by simp only[St.call,z11 e,Nc]
      rw[hfe]at hf; have hri:tY d nd os (aI (st.sl i))=false:=by
        cases h:tY d nd os (aI (st.sl i))with
        | false=>rfl
        | true=>rw[h]at hf; exact absurd rfl hf
      rw[hri]at hf; simp only[z51,if_false]at hf; obtain⟨p1,p2⟩:=hs.pls i hi hf; obtain⟨t,ht⟩:=p2.root hi; rw[pW a d v i e]; have hkill:GC (st.call d nd os sg.ext sg.bo y) (a.put d v).tmps (g.back (g.into sg xs os Fp) g' w d nd os iol).β w' (a.tmps.getD i undef) (st.sl i)∧((st.call d nd os sg.ext sg.bo y).fl (aI (st.sl i))).hold=true:=by
        have hheap:=hlf; have hpl: ∀v0 x0 p v' x',vAt a.tmps g.β w (aI (st.sl i))=some v0→st.at (aI (st.sl i))=some x0→Pl w v0 x0 p v' x'→Pl w' v0 x0 p v' x':=fun v0 x0 p v' x' e1 e2 hp=>by
          obtain⟨u,q1,_,q2⟩:=hs.get ht; rw[e1]at q1; cases q1; rw[ht]at e2; cases e2; obtain⟨r1,r2⟩:=hhold _ t p1 ht; have hown:=hkeep _ (at_isPlace ht) (fun b hb=>by rw[jU (r2 b hb),hb]; exact r1)
          generalize st.fl (aI (st.sl i))=κ at p1 q2; cases κ with
          | A n=>exact Ow.pl q2 (fun b hb=>(hZ b hb).2) (fun b hb=>(hown b hb).2) hp
          | U n=>exact Ow.pl q2 (fun b hb=>(hZ b hb).2) (fun b hb=>(hown b hb).2) hp
          | _=>simp [K.hold]at p1
        generalize hr:aI (st.sl i)=m at*; cases m with
        | s i' k j=>
          have hne:d≠some i':=by simpa [tY]using hri
          have hflr:(st.call d nd os sg.ext sg.bo y).fl (.s i' k j)=st.fl (.s i' k j):=by
            simp only[St.call,z11 hne]; rw[z11]; rintro ⟨rfl,rfl,h3⟩
            rw[uM ht]at h3; cases h3
          refine⟨p2.congr ?_ ?_ (by rw[hr]; exact hpl),by rw[hflr]; exact p1⟩
          · rw[hr]; simp only[vAt]; rw[pW a d v i' hne]
          · rw[hr]
            show((st.call d nd os sg.ext sg.bo y).sl i').leaf k j=(st.sl i').leaf k j; simp only[St.call,z11 hne,NB]
        | oc o j=>
          have hin:rV os nd o=none:=by simpa [tY]using hri
          obtain⟨_,hn2⟩:=Dr hin; have hflr:(st.call d nd os sg.ext sg.bo y).fl (.oc o j)=st.fl (.oc o j):=by simp only[St.call,hin]
          obtain⟨cells,hcl,_⟩: ∃cells,st.ob o=some cells∧True:=by
            rw[St.at_oc,z19]at ht; obtain⟨cells,hcl,_⟩:=ht; exact⟨cells,hcl,trivial⟩
          refine⟨p2.congr ?_ ?_ (by rw[hr]; exact hpl),by rw[hflr]; exact p1⟩
          · rw[hr]; simp only[vAt]; rw[hβ1 o hn2]; exact cI (hobj o hin cells hcl).2
          · rw[hr,St.at_oc,St.at_oc]; simp only[St.call,hin]
        | _=>simp [St.at,atL]at ht
      refine⟨hkill.2, ?_⟩
      cases nd with
      | none=>exact hkill.1
      | some z=>exact hkill.1.kill

def OpW(P:Program)(g0:G)(w0:World)(o:Oper)(st b:St):Prop:= ∀(Q:Exit→Act→World→Prop) (K:Act→World→Prop) a w,Sim g0 w0 st a w→(∀v w',Sim g0 w0 b (a.put o.dst v) w'→K (a.put o.dst v) w')→o.wp P a w K Q

theorem qD.w{P:Program}{g0:G}{w0:World}{o:Oper}{st b:St}(h:qD P g0 w0 o st b):OpW P g0 w0 o st b:=by
 intro Q K a w e c; obtain⟨r,w',d,h⟩:=h a w e; unfold Oper.wp; rw[d]; rcases h with⟨v,rfl,h⟩ | ⟨rfl,h⟩
 ·exact c _ _ h
 ·exact c _ _ h

theorem OpW.relax{P:Program}{g0:G}{w0:World}{o:Oper}{st s t:St}(h:OpW P g0 w0 o st s)(b: ∀a w,Sim g0 w0 s a w→Sim g0 w0 t a w):OpW P g0 w0 o st t:=fun Q K a w e d=>h Q K a w e (fun v w' c=>d v w' (b _ _ c))

def St.drop(st:St)(q:Loc→Bool):St:=st.setf q (fun m=>if q m then .D else st.fl m)

theorem bP.drop{g0:G}{w0:World}{st:St}{a:Act}{g:G}{w:World}(h:bP g0 w0 st a g w)(q:Loc→Bool)(o:q .none=false):bP g0 w0 (st.drop q) a g w:=by
 refine h.setf o (fun _=>rfl) h.ok (fun _ _=>rfl) (fun _ _ h=>h) (fun _ h=>h) (fun m x v p t c=> ?_) (fun i k xs b off j f=> ?_) (fun i r d c=> ?_)
 ·by_cases e:q m=true
  ·rw[z17 e]; exact c.lo (κ':= .D) h.ok (at_isPlace p) (Ic _)
  ·rw[z11 e]; exact c
 ·by_cases e:q (.s i k 0)=true
  ·rw[z17 e]; trivial
  ·rw[z11 e]; exact f
 ·refine⟨fun e=>c (by split; rfl; exact e),fun l=> ?_⟩
  rw[z11 (by rw[d]; simp)]; exact l

theorem DQ{st:St}{q:Loc→Bool}(a:q .none=false){m:Loc}{x:T}(b:st.at m=some x):(st.drop q).fl m=if q m=true then .D else st.fl m:=xA (f:=fun m=>if q m=true then K.D else st.fl m) a b

def Bt(sg:Sg):Bool:=sg.bi.sl.all (fun p=>p.2.all fun r=>r.all fun q=> !q.hold)&&sg.bi.ob.all (fun p=>p.2.all fun q=> !q.hold)

theorem iM{α:Type}{i:Nat}{x:α}: ∀ {l:List (Nat×α)},dL i l=some x→(i,x)∈l
 | [],h=>by cases h
 | (j,a)::r,h=>by
  simp only[dL]at h; cases e:Nat.beq i j with
  | true=>rw[e]at h; simp only[z15,z9]at h; have:=z14 e; subst this; subst h; exact z27
  | false=>rw[e]at h; exact z23 _ (iM h)

theorem HV{sg:Sg}(h:Bt sg=true)(l:Loc):(sg.bi.kd l).hold=false:=by
 simp only[Bt,z7]at h; cases l with
 | s i k j=>
  simp only[B.kd,B.get]; cases hl:dL i sg.bi.sl with
  | none=>rfl
  | some κ=>
   simp only[CI]; cases hr:κ[k]? with
   | none=>rfl
   | some r=>
    cases hq:r[j]? with
    | none=>simp [hq,K.hold]
    | some q=>
     have:=z18.1 (z18.1 (z18.1 h.1 _ (iM hl)) r (bI hr)) q (bI hq); simp only[hq]; simpa using this
 | oc o j=>
  simp only[B.kd,B.get]; cases hl:dL o sg.bi.ob with
  | none=>rfl
  | some r=>
   cases hq:r[j]? with
   | none=>simp [hq,K.hold]
   | some q=>
    have:=z18.1 (z18.1 h.2 _ (iM hl)) q (bI hq); simp only[hq]; simpa using this
 | _=>rfl

def St.pre(st:St)(sg:Sg)(xs:List Operand)(os:List Nat):St:=(if Bt sg=true then st else st.killV).drop (fun m=> !(gP (jS sg xs os m))&& !(gP m))

theorem US{P:Program}{g0:G}{w0:World}{st:St}{o:Oper}{c:Call}{x:Operand}{f:FuncId}{caps:List (Nat×Nat)}{sg:Sg}{vs:List V}{ob ob':List (List T)}{r:V}{nw:Option (List T)}{os:List Nat}{nd:Option Nat}
  (ho:o.op= .call c)(hcal:c.callee= .value x)(hx:ev st.sl x= .one (.fn f caps))(hC:TC P f sg vs ob r none ob' nw)(hsg:sg.io=none)(hd: ∀i,o.dst=some i→i<st.n)(hnd: ∀o,nd=some o→o<par∧o ∉ os)
  (hos:os.Nodup)(hnp:sg.np=vs.length)(hle:sg.np≤par)(hb0:sg.bo.has 0=true)(hno:sg.ext=false→Bt sg=true)
  (hvs:vs=c.args.toList.map (fun v=>(evR st v).to (qC os))++caps.map (fun c=>(V.one (.ptr c.1 c.2)).to (qC os)))(hob:ob.map some=os.map st.ob)
  (harg: ∀(i:Nat) v,c.args.toList[i]? =some v→LV st sg c.args.toList i v)(hobk: ∀o oc j,qC os o=some oc→(st.fl (.oc o j)).hand sg.ext (sg.bi.kd (.oc oc j))=true):
  OpW P g0 w0 o st ((st.pre sg c.args.toList os).call o.dst nd os sg.ext sg.bo (DR r none ob' nw)):=by
 intro Q K a w ⟨g,hs⟩ hK
 have he:=hs.enter (sg:=sg) (xs:=c.args.toList) (caps:=caps) (os:=os) (Fp:=fun _=>False) hos hnp hle (fun _ h=>h.elim) (fun he=>⟨HV (hno he),fun _ h=>h⟩) (fun _ _ _ _ _ _ _ _ h=>h) (fun _ _ _ _ _ _ _ h=>h) hvs hob
  (fun i v hv _=>harg i v hv) hobk (fun i v _ h=>by rw[hsg]at h; cases h)
 have hC:=hC _ _ _ he; have hfv:a.eval x= .func (.func f) #[] (caps.map fun c=>Value.pointer (some ⟨g.β c.1,c.2,none⟩)).toArray:=by
  have:=hs.ev_rv x (fun _ _=> .none)
  rw[hx]at this; exact this
 have hrun:(execOp a.eval o).run P w=(callFunc f (c.args.toList.map a.eval++caps.map fun c=>Value.pointer (some ⟨g.β c.1,c.2,none⟩)).toArray).run P w:=by
  obtain⟨dst,op,ty,pos,after,guard⟩:=o; simp only at ho; subst ho; simp only[execOp,resolve,hcal,hfv,Deferred.ofValue,Sem.run_bind,Sem.run_pure,Result.andThen_ok,invoke]; congr 2
  apply Nd
  simp
 have hq0:(fun m=> !(gP (jS sg c.args.toList os m))&& !(gP m)) Loc.none=false:=by simp [gP]
 have hs2:bP g0 w0 (st.pre sg c.args.toList os) a g w:=by
  unfold St.pre; by_cases hp:Bt sg=true
  ·rw[z17 hp]; exact hs.drop _ hq0
  ·rw[z11 hp]; exact hs.killV.drop _ hq0
 have key: ∀v w',(∃g',bP (g.into sg c.args.toList os (fun _=>False)) w (sg.bo.S 2 (DR r none ob' nw)) ⟨#[v,(c.args.toList.map a.eval++caps.map fun c=>Value.pointer (some ⟨g.β c.1,c.2,none⟩)).toArray.getD (sg.io.getD 0) undef],[]⟩ g' w')→
   Sim g0 w0 ((st.pre sg c.args.toList os).call o.dst nd os sg.ext sg.bo (DR r none ob' nw)) (a.put o.dst v) w':=by
  rintro v w' ⟨g',h1⟩
  refine⟨_,hs2.leave (iol:= .ext) hos (by unfold St.pre; split<;>exact hd) hnd (fun _ h=>h.elim) ⟨by simp,by simp⟩ h1 rfl hb0 (fun m z hh hm=>⟨?_,fun _ _ h=>h⟩) ?_⟩
  ·cases hq:gP (jS sg c.args.toList os m)with
   | true=>rfl
   | false=>
    exfalso
    have hmp:gP m=false:=by
     have:=at_isPlace hm; cases m<;>first | rfl | cases this
    have hm1:(if Bt sg=true then st else st.killV).at m=some z:=by unfold St.pre at hm; exact hm
    unfold St.pre at hh; rw[DQ hq0 hm1,hq,hmp]at hh; simp [Own.K.hold]at hh
  ·by_cases hp:Bt sg=true
   ·exact .inr ⟨HV hp,fun _ h=>h⟩
   ·left
    intro m; unfold St.pre; rw[z11 hp]; refine rW (fun m=> ?_) m
    split
    ·simp
    ·exact sS st m
 unfold Oper.wp; rw[hrun]; revert hC
 generalize (callFunc f _).run P w=r; intro hC; unfold sJ at hC; split at hC
 ·exact hK _ _ (key _ _ hC)
 ·rw[Oper.upon_enter]
  refine Calls.mono hC ?_
  rintro e w' ⟨v,rfl,h⟩
  exact hK _ _ (key _ _ h)
 ·exact hC.elim

def D.call(x:D)(d nd:Option Nat)(os:List Nat)(y:D):D:=
  { sl:=fun i=>if d=some i then(y.sl 0).to (wW os nd)else x.sl i
    ob:=fun o=>match rV os nd o with | some oc=>y.ob oc | none=>x.ob o }

def yI(os:List Nat)(nd:Option Nat):List Nat:=os++(match nd with | some o=> [o] | none=> [])
def Ku{α:Type}(f:Nat→Option α):List Nat→List (Nat×α)
  | []=> []
  | o::r=>match f o with | some a=>(o,a)::Ku f r | none=>Ku f r

theorem JD{α:Type}(f:Nat→Option α)(o:Nat): ∀l:List Nat,dL o (Ku f l)=if o∈l then f o else none
  | []=>by simp [Ku,dL]
  | z::r=>by
    have c:=JD f o r; simp only[Ku,Qq]; cases hf:f z with
    | none=>
      simp only; rw[c]; by_cases e:o=z
      · subst e; simp [hf]
      · simp [e]
    | some a=>
      simp only[dL]; by_cases e:o=z
      · subst e; simp [hf,z42]
      · rw[dO e]; simp only[z12,c,e,false_or]

theorem yJ{α:Type}(o:Nat): ∀(l r:List (Nat×α)),dL o (l++r)=match dL o l with | some a=>some a | none=>dL o r
  | [],r=>rfl
  | (j,a)::l,r=>by
    simp only[z89,dL]; cases Nat.beq o j with
    | true=>rfl
    | false=>exact yJ o l r

theorem sZ{os:List Nat}{nd:Option Nat}{o:Nat}:(rV os nd o).isSome=true↔o∈yI os nd:=by
  simp only[rV,yI,Vs]; by_cases h:o∈os
  · simp [h]
  · rw[z11 h]
    cases nd with
    | none=>simp [h]
    | some z=>
      by_cases e:z=o
      · subst e; simp
      · simp [h,e,Ne.symm e]

def DJ(sg:Sg)(os:List Nat)(nd:Option Nat)(o:Nat):Option (List K):=match rV os nd o with
  | some oc=>(dL oc sg.bo.ob).map fun r=>r.map (K.back sg.ext)
  | none=>none

def NX(F:FA)(d nd:Option Nat)(os:List Nat)(i:Nat):Bool:= !(decide (d=some i))&& !(tY d nd os (aI (F.shOf i)))&& !(match nd with | some z=>Sq z (F.shOf i) | none=>false)

def B.call(F:FA)(b:B)(d nd:Option Nat)(os:List Nat)(sg:Sg):B:=
  { sl:=(match d with | some d=> [(d,qP (F.shOf d) (fun k j=>(sg.bo.kd (.s 0 k j)).back sg.ext))] | none=> [])++b.sl.filter (fun q=>NX F d nd os q.1)
    ob:=Ku (DJ sg os nd) (yI os nd)++b.ob.filter (fun q=>(rV os nd q.1).isNone) }

theorem Dx{F:FA}{b:B}{d nd:Option Nat}{os:List Nat}{sg:Sg}(i:Nat):dL i (b.call F d nd os sg).sl=if d=some i then some (qP (F.shOf i) (fun k j=>(sg.bo.kd (.s 0 k j)).back sg.ext))else if NX F d nd os i=true then dL i b.sl else none:=by
  simp only[B.call]; rw[yJ,eQ (NX F d nd os) i b.sl]; cases d with
  | none=>simp [dL]
  | some z=>
    simp only[dL]; by_cases e:i=z
    · subst e; simp [z42]
    · rw[dO e]; simp [Ne.symm e]

theorem BZ{F:FA}{b:B}{d nd:Option Nat}{os:List Nat}{sg:Sg}(o:Nat):dL o (b.call F d nd os sg).ob=match rV os nd o with | some _=>DJ sg os nd o | none=>dL o b.ob:=by
  simp only[B.call]; rw[yJ,JD,eQ (fun o=>(rV os nd o).isNone) o b.ob]
  cases h:rV os nd o with
  | none=>
    have:o ∉ yI os nd:=fun a=>by have:=sZ.2 a; rw[h]at this; cases this
    simp [this]
  | some oc=>
    have:o∈yI os nd:=sZ.1 (by rw[h]; rfl)
    rw[z17 this]; cases DJ sg os nd o<;>simp

theorem tL{F:FA}{b:B}{d nd:Option Nat}{os:List Nat}{sg:Sg}{i:Nat}(a:d≠some i)(h:(b.call F d nd os sg).has i=true):b.has i=true∧NX F d nd os i=true:=by
  simp only[B.has,Dx,z11 a]at h; split at h
  · rename_i e; exact⟨h,e⟩
  · cases h

theorem Dy{F:FA}{b:B}{d nd:Option Nat}{os:List Nat}{sg:Sg}{o:Nat}:(b.call F d nd os sg).hasO o=match rV os nd o with | some oc=>sg.bo.hasO oc | none=>b.hasO o:=by
  simp only[B.hasO,BZ]; cases h:rV os nd o with
  | none=>rfl
  | some oc=>
    simp only[DJ,h]; cases dL oc sg.bo.ob<;>rfl

def bQ(F:FA)(x:D)(d nd:Option Nat)(os:List Nat):Bool:=(match d with | some d=>fits (x.sl d) (F.shOf d) | none=>true)&&(yI os nd).all fun o=>match x.ob o with | some cs=>iG cs (F.obOf o) | none=>false

section
variable {P:Program} {τ:TypeId→Option TI} {F:FA} {o:Oper} {b b':B} {x x':D}

theorem Ag.call(f:Ag F b x){d nd:Option Nat}{os:List Nat}{sg:Sg}{y:D}(h:bQ F (x.call d nd os y) d nd os=true):Ag F (b.call F d nd os sg) (x.call d nd os y):=by
  simp only[bQ,z7]at h; refine⟨fun i a=> ?_,fun o ho=> ?_⟩
  · by_cases e:d=some i
    · subst e
      exact .inr h.1
    · have:=f.sl i (tL e a).1
      simpa [D.call,e]using this
  · rw[Dy]at ho
    cases a:rV os nd o with
    | some oc=>
      have j:o∈yI os nd:=sZ.1 (by rw[a]; rfl)
      have:=z18.1 h.2 o j; split at this
      · rename_i cs c; exact⟨cs,c,this⟩
      · cases this
    | none=>
      rw[a]at ho; obtain⟨cs,h1,g⟩:=f.ob o ho; exact⟨cs,by simp only[D.call,a]; exact h1,g⟩

theorem MT{n:Nat}{s:St}(Q:Ag F b x)(h:Low n b x s){d nd:Option Nat}{os:List Nat}{sg:Sg}{y:D}(J: ∀i,d=some i→fits ((y.sl 0).to (wW os nd)) (F.shOf i)=true):
    Low n (b.call F d nd os sg) (x.call d nd os y) (s.call d nd os sg.ext sg.bo y):=by
  have c: ∀i,d≠some i→(b.call F d nd os sg).has i=true→tY d nd os (aI (s.sl i))=false∧AX nd (s.sl i)=s.sl i:=fun i e a=>by
    obtain⟨h1,C⟩:=tL e a; simp only[NX,z7,z35]at C; rw[h.sl i h1]; rcases Q.sl i h1 with f | f
    · rw[f]
      refine⟨rfl, ?_⟩
      cases nd<;>rfl
    · rw[eF f]
      refine⟨C.1.2, ?_⟩
      cases nd with
      | none=>rfl
      | some z=>exact Iz (JM f C.2)
  have v: ∀i k j,d≠some i→(b.call F d nd os sg).has i=true→(b.call F d nd os sg).kd (.s i k j)=b.kd (.s i k j):=fun i k j e a=>by
    simp only[B.kd,B.get,Dx,z11 e,(tL e a).2,if_true]
  have m: ∀i k j,d=some i→(b.call F d nd os sg).get (.s i k j)=CI (qP (F.shOf i) (fun k j=>(sg.bo.kd (.s 0 k j)).back sg.ext)) k j:=fun i k j e=>by
    simp only[B.get,Dx,z17 e]
  have u: ∀i k j,d≠some i→(b.call F d nd os sg).has i=true→(s.call d nd os sg.ext sg.bo y).fl (.s i k j)=s.fl (.s i k j):=fun i k j e a=>by
    simp only[St.call,z11 e]; rw[z11]; rintro ⟨_,_,I⟩
    rw[(c i e a).1]at I; cases I
  have g: ∀i k j,d=some i→(s.call d nd os sg.ext sg.bo y).fl (.s i k j)=(sg.bo.kd (.s 0 k j)).back sg.ext:=fun i k j e=>by simp only[St.call,z17 e]
  refine⟨h.n,fun i a=> ?_,fun o ho=> ?_,fun l t w E=> ?_,fun i k O a N=> ?_,fun i a M L=> ?_⟩
  · by_cases e:d=some i
    · simp only[St.call,D.call,z17 e]
    · simp only[St.call,D.call,z11 e]
      rw[(c i e a).2]; exact h.sl i (tL e a).1
  · rw[Dy]at ho
    cases a:rV os nd o with
    | some oc=>
      rw[a]at ho; have ho:sg.bo.hasO oc=true:=ho; simp only[St.call,D.call,a]; rw[z17 ho]
    | none=>
      rw[a]at ho; simp only[St.call,D.call,a]; exact h.ob o ho
  · cases l with
    | s i k j=>
      by_cases e:d=some i
      · have G:((y.sl 0).to (wW os nd)).leaf k j=some t:=by simpa [D.at,atL,D.call,e]using E
        rw[g i k j e]; simp only[B.kd,m i k j e]; rw[CC (J i e) _ G]; exact dP _
      · rw[u i k j e w,v i k j e w]
        exact h.fl (.s i k j) t (tL e w).1 (by simpa [D.at,atL,D.call,e]using E)
    | oc o j=>
      have p:(b.call F d nd os sg).hasO o=true:=w; rw[Dy]at p; cases a:rV os nd o with
      | some oc=>
        have A:(s.call d nd os sg.ext sg.bo y).fl (.oc o j)=(sg.bo.kd (.oc oc j)).back sg.ext:=by simp only[St.call,a]
        rw[A]; have f:(b.call F d nd os sg).get (.oc o j)=(sg.bo.get (.oc oc j)).map (K.back sg.ext):=by
          simp only[B.get,BZ,a,DJ]; cases dL oc sg.bo.ob with
          | none=>rfl
          | some r=>simp only[z33,z28]
        simp only[B.kd,f]; cases sg.bo.get (.oc oc j)with
        | none=>exact Ic _
        | some q=>exact dP _
      | none=>
        rw[a]at p; have A:(s.call d nd os sg.ext sg.bo y).fl (.oc o j)=s.fl (.oc o j):=by simp only[St.call,a]
        have f:(b.call F d nd os sg).kd (.oc o j)=b.kd (.oc o j):=by simp only[B.kd,B.get,BZ,a]
        rw[A,f]; exact h.fl (.oc o j) t p (by simpa [D.at,atL,D.call,a]using E)
    | _=>cases w
  · by_cases e:d=some i
    · have H:((y.sl 0).to (wW os nd)).comp k=some (.cp O):=by simpa [D.call,e]using N
      rw[g i k 0 e]; simp only[B.kd,m i k 0 e]; rw[GW (J i e) _ H]; exact dP _
    · rw[u i k 0 e a,v i k 0 e a]
      exact h.cp i k O (tL e a).1 (by simpa [D.call,e]using N)
  · by_cases e:d=some i
    · exfalso
      apply M
      simp only[D.call,z17 e]; exact V.to_root
    · rw[u i 0 0 e a]
      rw[v i 0 0 e a]at L; exact h.al i (tL e a).1 (by simpa [D.call,e]using M) L

def Mc(sg:Sg)(xs:List Operand)(os:List Nat)(m:Loc):Bool:= !(gP (jS sg xs os m))&& !(gP m)
def B.pre(F:FA)(b:B)(sg:Sg)(xs:List Operand)(os:List Nat):B:=(if Bt sg=true then b else b.killV F).setf F (Mc sg xs os) (fun m q=>if Mc sg xs os m=true then .D else q)

theorem MD{n:Nat}{m:Loc}(c:(b.killV F).hasL m=true):(b.killV F).kd m= .D∨(b.killV F).kd m=(b.S n x).killV.fl m:=by
  have e:(b.S n x).killV.fl m=if b.kd m= .V then .D else b.kd m:=by
    cases m with
    | s i k j=>simp only[St.killV,St.setf]; rw[z11 (by simp)]; rfl
    | _=>rfl
  rw[e]; have a:(b.killV F).get m=(b.get m).map fun q=>if q= .V then .D else q:=vA c
  unfold B.kd; rw[a]; cases b.get m with
  | none=>exact .inl rfl
  | some q=>exact .inr rfl

theorem Ag.pre(a:Ag F b x)(sg:Sg)(xs:List Operand)(os:List Nat):Ag F (b.pre F sg xs os) x:=by
  unfold B.pre; split
  · exact a.setf _ _
  · exact Ag.setf (a.setf _ _) _ _

theorem OX{n:Nat}(d:Ag F b x)(sg:Sg)(xs:List Operand)(os:List Nat):Low n (b.pre F sg xs os) x ((b.S n x).pre sg xs os):=by
  have h0:Mc sg xs os .none=false:=by simp [Mc,gP]
  have g:Ag F (b.killV F) x:=d.setf _ _; unfold B.pre St.pre St.drop; by_cases c:Bt sg=true
  · rw[z17 c,z17 c]
    exact kU (R:=Mc sg xs os) (f:=fun m=>if Mc sg xs os m=true then .D else(b.S n x).fl m) d (Low.self n b x) h0 (fun m _ _=>dP _) (fun i _ _ a=>a)
  · rw[z11 c,z11 c]
    refine kU (b:=b.killV F) (s:=(b.S n x).killV) (R:=Mc sg xs os) (f:=fun m=>if Mc sg xs os m=true then .D else(b.S n x).killV.fl m) g (Dq d) h0 (fun m j _=> ?_) (fun i h _ a=> ?_)
    · rcases MD (x:=x) (n:=n) j with e | e
      · rw[e]
        have:(if Mc sg xs os m=true then K.D else K.D)= .D:=by split<;>rfl
        rw[this]; exact Ic _
      · rw[e]; exact dP _
    · rcases MD (x:=x) (n:=n) (m:= .s i 0 0) h with e | e
      · rw[e]at a
        have:(if Mc sg xs os (.s i 0 0)=true then K.D else K.D)= .D:=by split<;>rfl
        exact absurd this a
      · rw[e]at a; exact a
end

def sD(ext:Bool)(f:Nat→K):Nat→List K→Bool
 | _,[]=>true
 | j,q::r=>(f j).hand ext q&&sD ext f (j+1) r
def zU(ext:Bool)(f:Nat→Nat→K):Nat→List (List K)→Bool
 | _,[]=>true
 | k,q::r=>sD ext (f k) 0 q&&zU ext f (k+1) r

theorem wH{ext:Bool}{f:Nat→K}: ∀ {l:List K} {a:Nat},sD ext f a l=true→ ∀ {j:Nat} {q:K},l[j]? =some q→(f (a+j)).hand ext q=true
 | [],_,_,j,q,h=>by simp at h
 | p::r,a,h,0,q,c=>by
  simp only[sD,z7]at h; simp only[z20,z9]at c
  subst c; exact h.1
 | p::r,a,h,j+1,q,c=>by
  simp only[sD,z7]at h; simp only[z21]at c
  have:=wH h.2 c; rwa[show a+1+j=a+(j+1)by omega]at this
theorem EO{ext:Bool}{f:Nat→Nat→K}: ∀ {l:List (List K)} {k0:Nat},zU ext f k0 l=true→ ∀ {k:Nat} {r:List K},l[k]? =some r→sD ext (f (k0+k)) 0 r=true
 | [],_,_,k,q,h=>by simp at h
 | p::r,k0,h,0,q,a=>by
  simp only[zU,z7]at h; simp only[z20,z9]at a
  subst a; exact h.1
 | p::r,k0,h,k+1,q,a=>by
  simp only[zU,z7]at h; simp only[z21]at a
  have:=EO h.2 a; rwa[show k0+1+k=k0+(k+1)by omega]at this

def LH(sg:Sg)(f:Nat→Nat→K)(i:Nat):Bool:=match dL i sg.bi.sl with | some κ=>zU sg.ext f 0 κ | none=>true
theorem Ha{sg:Sg}{f:Nat→Nat→K}{i:Nat}(h:LH sg f i=true)(k j:Nat):(f k j).hand sg.ext (sg.bi.kd (.s i k j))=true:=by
 unfold LH at h; simp only[B.kd,B.get]; cases hl:dL i sg.bi.sl with
 | none=>rfl
 | some κ=>
  rw[hl]at h; simp only[CI]; cases hr:κ[k]? with
  | none=>rfl
  | some r=>
   cases hq:r[j]? with
   | none=>simp only[hq]; rfl
   | some q=>
    have h1:=EO h hr; have a:=wH h1 hq; simp only[z30]at a; simp only[hq]; exact a

def Qk(sg:Sg)(f:Nat→K)(oc:Nat):Bool:=match dL oc sg.bi.ob with | some r=>sD sg.ext f 0 r | none=>true
theorem Rl{sg:Sg}{f:Nat→K}{oc:Nat}(h:Qk sg f oc=true)(j:Nat):(f j).hand sg.ext (sg.bi.kd (.oc oc j))=true:=by
 unfold Qk at h; simp only[B.kd,B.get]; cases hl:dL oc sg.bi.ob with
 | none=>rfl
 | some r=>
  rw[hl]at h; cases hq:r[j]? with
  | none=>simp only[hq]; rfl
  | some q=>
   have a:=wH h hq; simp only[z30]at a; simp only[hq]; exact a

def IT(sg:Sg)(i:Nat):Bool:=match dL i sg.bi.sl with | some κ=>κ.all (fun r=>r.all fun q=> !q.hold) | none=>true
theorem Ix{sg:Sg}{i:Nat}(h:IT sg i=true)(k j:Nat):(sg.bi.kd (.s i k j)).hold=false:=by
 unfold IT at h; simp only[B.kd,B.get]; cases hl:dL i sg.bi.sl with
 | none=>rfl
 | some κ=>
  rw[hl]at h; simp only[CI]; cases hr:κ[k]? with
  | none=>rfl
  | some r=>
   cases hq:r[j]? with
   | none=>simp only[hq]; rfl
   | some q=>
    have:=z18.1 (z18.1 h r (bI hr)) q (bI hq); simp only[hq]; simpa using this

def dfv:K→Bool
 | .D=>true
 | .F=>true
 | .V=>true
 | _=>false

def WJ(F:FA)(b:B)(sg:Sg)(xs:List Operand)(i:Nat):Operand→Bool
 | .tmp t=>b.has t&&(match F.shOf t with
  | .one (.al l _)=>(match l with | .none=>false | _=>true)&&b.hasL l&& !(decide (b.kd (.s t 0 0)= .D))&&K.V.hand sg.ext (sg.bi.kd (.s i 0 0))
  | .one (.pp _ _ _ _)=>true
  | .one (.cp _)=>LH sg (fun k j=>b.kd (.s t k j)) i&&dfv (sg.bi.kd (.s i 0 0))&&IT sg i
  | .one _=>LH sg (fun k j=>b.kd (.s t k j)) i&&(IT sg i||decide (FK xs t=some i))
  | .tup _=>false)
 | .const c=>LH sg (fun k j=>jD (bE c) k j) i
 | _=>true
def LO(F:FA)(b:B)(sg:Sg)(xs:List Operand):Nat→List Operand→Bool
 | _,[]=>true
 | i,v::r=>WJ F b sg xs i v&&LO F b sg xs (i+1) r

theorem Hf{F:FA}{b:B}{sg:Sg}{xs:List Operand}: ∀ {l:List Operand} {a:Nat},LO F b sg xs a l=true→ ∀ {i:Nat} {v:Operand},l[i]? =some v→WJ F b sg xs (a+i) v=true
 | [],_,_,i,v,h=>by simp at h
 | p::r,a,h,0,v,c=>by
  simp only[LO,z7]at h; simp only[z20,z9]at c
  subst c; exact h.1
 | p::r,a,h,i+1,v,c=>by
  simp only[LO,z7]at h; simp only[z21]at c
  have:=Hf h.2 c; rwa[show a+1+i=a+(i+1)by omega]at this

section
variable {P:Program} {τ:TypeId→Option TI} {F:FA} {o:Oper} {b b':B} {x x':D}

theorem PE(E:Ag F b x){n:Nat}{sg:Sg}{xs:List Operand}{i:Nat}{v:Operand}(h:WJ F b sg xs i v=true)(G:gC (ev x.sl v)=true):LV (b.S n x) sg xs i v:=by
 cases v with
 | tmp t=>
  simp only[WJ,z7]at h; obtain⟨h1,a⟩:=h; have u:(b.S n x).sl t=x.sl t:=qO h1; have m:=E.fits h1 (Io G); simp only[LV]; rw[u]
  have d:LH sg (fun k j=>b.kd (.s t k j)) i=true→(IT sg i||decide (FK xs t=some i))=true→(∀k g,(x.sl t).comp k≠some (.cp g))→
    (∀k j,((b.S n x).fl (.s t k j)).hand sg.ext (sg.bi.kd (.s i k j))=true∧((sg.bi.kd (.s i k j)).hold=true→FK xs t=some i))∧ ∀k g,(x.sl t).comp k=some (.cp g)→sg.bi.kd (.s i k 0)= .D∨sg.bi.kd (.s i k 0)= .F∨sg.bi.kd (.s i k 0)= .V:=fun z q A=>by
   refine⟨fun k j=>⟨Ha z k j,fun r=> ?_⟩,fun k g hz=>absurd hz (A k g)⟩
   simp only[z48,z36]at q; rcases q with q | q
   ·rw[Ix q]at r; cases r
   ·exact q
  have f: ∀w,(∀ys,w≠W.cp ys)→ ∀k g,(V.one w).comp k≠some (.cp g):=fun w H k g=>by
   cases k with
   | zero=>simp only[V.comp]; intro e; exact H g (z50 e)
   | succ k=>simp [V.comp]
  cases hs:F.shOf t with
  | tup J=>rw[hs]at a; cases a
  | one y=>
   rw[hs]at a m; cases hx:x.sl t with
   | tup J=>rw[hx]at m; simp [Own.fits]at m
   | one w=>
    rw[hx]at m d; cases w<;>cases y<;>simp only[Own.fits,bO,z51]at m<;>simp only at a ⊢
    case cp.cp g ys=>
     simp only[z7]at a; refine⟨fun k j=>⟨Ha a.1.1 k j,fun r=>by rw[Ix a.2]at r; cases r⟩,fun k g hz=> ?_⟩
     cases k with
     | succ k=>simp [V.comp]at hz
     | zero=>
      have:=a.1.2; cases hq:sg.bi.kd (.s i 0 0)<;>rw[hq]at this<;>simp_all [dfv]
    case nilp.cp ys=>
     simp only[z7]at a; exact d a.1.1 (by rw[a.2]; rfl) (f _ (by simp))
    case al.al l p l' p'=>
     simp only[z7,z36]at m a; obtain⟨rfl,_⟩:=m; obtain⟨⟨⟨z,q⟩,A⟩,I⟩:=a; have C: ¬ b.kd (.s t 0 0)= .D:=by simpa using A
     exact⟨fun e=>(by subst e; cases z),C,I⟩
    all_goals
     simp only[z7]at a; exact d a.1 a.2 (f _ (by simp))
 | const c=>exact fun k j=>Ha h k j
 | _=>trivial

def Ui(b:B)(sg:Sg):Nat→List Nat→Bool
 | _,[]=>true
 | i,o::r=>b.hasO o&&Qk sg (fun j=>b.kd (.oc o j)) (par+i)&&Ui b sg (i+1) r
theorem KL{sg:Sg}: ∀ {l:List Nat} {a:Nat},Ui b sg a l=true→ ∀ {i o:Nat},l[i]? =some o→b.hasO o=true∧Qk sg (fun j=>b.kd (.oc o j)) (par+(a+i))=true
 | [],_,_,i,o,h=>by simp at h
 | p::r,a,h,0,o,c=>by
  simp only[Ui,z7]at h; simp only[z20,z9]at c
  subst c; exact h.1
 | p::r,a,h,i+1,o,c=>by
  simp only[Ui,z7]at h; simp only[z21]at c
  have:=KL h.2 c; rwa[show a+1+i=a+(i+1)by omega]at this

def Kg:List Nat→Bool
 | []=>true
 | i::r=> !(mem i r)&&Kg r
theorem Nt{i:Nat}: ∀ {l:List Nat},i∈l→mem i l=true
 | [],h=>by simp at h
 | j::r,h=>by
  simp only[mem,z48]; rcases Qq.1 h with h | h
  ·left; rw[h]; exact z42 _
  ·exact .inr (Nt h)
theorem Dh: ∀ {l:List Nat},Kg l=true→l.Nodup
 | [],_=>Vr
 | i::r,h=>by
  simp only[Kg,z7]at h; rw[List.nodup_cons]; exact⟨fun a=>by rw[Nt a]at h; simp at h,Dh h.2⟩

def Qn(F:FA)(b:B)(sg:Sg)(c:Call)(v:Operand)(d nd:Option Nat)(os:List Nat):Option B:=
 bif dN b v&&c.args.toList.all (kn b F)&&LO F b sg c.args.toList 0 c.args.toList&&Ui b sg 0 os&&Kg os&&(match d with | some d=>Nat.blt d F.n | none=>true)&&
   (match nd with | some z=>Nat.blt z par&& !(mem z os) | none=>true)&&sg.bo.has 0&&(match sg.io with | none=>true | _=>false)&&(sg.ext||Bt sg)&&Nat.ble sg.np par then
  some (((b.pre F sg c.args.toList os).call F d nd os sg).nrm F)else none

def inV(x:D)(c:Call)(caps:List (Nat×Nat))(os:List Nat):List V:=c.args.toList.map (fun v=>(evD x v).to (qC os))++caps.map (fun c=>(V.one (.ptr c.1 c.2)).to (qC os))

theorem Xb(E:Ag F b x){c:Call}{v:Operand}{f:FuncId}{caps:List (Nat×Nat)}{sg:Sg}{vs:List V}{ob g:List (List T)}{r:V}{nw:Option (List T)}{os:List Nat}{nd:Option Nat}(ho:o.op= .call c)(q:c.callee= .value v)(hx:ev x.sl v= .one (.fn f caps))
  (hC:TC P f sg vs ob r none g nw)(N:vs=inV x c caps os)(K:ob.map some=os.map x.ob)(J:sg.np=vs.length)(M:c.args.toList.all (fun v=>gC (ev x.sl v))=true)
  (h1:bQ F (x.call o.dst nd os (DR r none g nw)) o.dst nd os=true)(C:Qn F b sg c v o.dst nd os=some b'):
  Ag F b' (x.call o.dst nd os (DR r none g nw))∧ ∀g0 w0,OpW P g0 w0 o (b.S F.n x) (b'.S F.n (x.call o.dst nd os (DR r none g nw))):=by
 unfold Qn at C; obtain⟨U,C⟩:=aK C; simp only[z7]at U; obtain⟨⟨⟨⟨⟨⟨⟨⟨⟨⟨W,X⟩,Y⟩,O⟩,Q⟩,R⟩,l⟩,Z⟩,c9⟩,k⟩,H⟩:=U; cases C; have p:=E.pre sg c.args.toList os; have m:=p.call (d:=o.dst) (nd:=nd) (os:=os) (sg:=sg) (y:=DR r none g nw) h1; have s: ∀i,o.dst=some i→Own.fits (((DR r none g nw).sl 0).to (wW os nd)) (F.shOf i)=true:=fun i e=>by
  simp only[bQ,z7]at h1; have h:=h1.1; rw[e]at h; simp only[D.call,if_true]at h; exact h
 refine⟨m.nrm,fun g0 w0=> ?_⟩
 have t:c.args.toList.map (fun v=>(evR (b.S F.n x) v).to (qC os))=c.args.toList.map (fun v=>(evD x v).to (qC os)):=z52 fun v G=>by rw[NZ E (z18.1 X v G)]
 have u:os.map (b.S F.n x).ob=os.map x.ob:=z52 fun o ho=>by
  obtain⟨i,hi⟩:=z71 ho
  exact Lc (KL O hi).1
 have h3:=US (g0:=g0) (w0:=w0) (st:=b.S F.n x) (nd:=nd) ho q (by rw[pU W]; exact hx) hC (by
   revert c9; cases sg.io<;>simp) (fun i e=>by rw[e]at R; exact bK R) (fun z e=>by
   rw[e]at l; simp only[z7]at l; exact⟨bK l.1,fun hm=>by rw[Nt hm]at l; simp at l⟩) (Dh Q) J (z29 H) Z (fun e=>by rw[e]at k; simpa using k) (by rw[t]; exact N) (by rw[u]; exact K)
   (fun i v G=>by
    have:=Hf Y G; rw[z30]at this; exact PE E this (z18.1 M v (bI G))) (fun o oc j I=>by
    have A:=HZ I; obtain⟨_,hp,L⟩:=Lt (Dh Q) A; have:=(KL O L).2; rw[z30,Vv hp]at this; exact Rl this j)
 refine h3.relax (fun a w hs=>hs.relax ?_)
 exact(MT p (OX (n:=F.n) E sg c.args.toList os) s).le m
end
end Go.Own
