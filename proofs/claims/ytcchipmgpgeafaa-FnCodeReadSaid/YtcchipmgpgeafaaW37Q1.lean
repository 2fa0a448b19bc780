/- Expressions that are drawn, in plain Lean. No conditions. -/
import Derived.Test.YtcchipmgpgeafaaW37Q0
set_option linter.unusedVariables false
set_option linter.unusedSimpArgs false
set_option linter.unnecessarySimpa false
namespace Go.Own.Q
open Go Go.Proofs
theorem Vz(a0 a1:Int)(a2:List UInt8)(a3:List aB)(a4:List aC)(a5 a6:Int)(a7:List UInt8)(a8:List aB)(a:List aC):cP (.mk a0 a1 a2 a3 a4 a5 a6 a7 a8 a)=3+bR (.mk a0 a1 a2 a3 a4)+bR (.mk a5 a6 a7 a8 a):=DW _
def eB:Nat→Nat
 | 0=>10
 | d+1=>200+4*eB d
theorem eB_10: ∀d,10≤eB d
 | 0=>z36 _
 | d+1=>by simp only[eB]; omega
theorem Vu{d:Nat}(h:d≤3):eB d≤4840:=by
 have:d=0∨d=1∨d=2∨d=3:=by omega
 rcases this with e | e | e | e<;>rw[e]<;>simp [eB]
def DE(B:Nat)(r:Int×Int×List UInt8×List aB×List aC×List Int×Int×Int):Prop:=bR (.mk r.1 r.2.1 r.2.2.1 r.2.2.2.1 r.2.2.2.2.1)≤B∧Cur r.2.2.2.2.2.1 r.2.2.2.2.2.2.1
theorem DE.mk{B:Nat}{k m:Int}{s:List UInt8}{l:List aB}{c:List aC}{b:List Int}{i h:Int}(d:3+s.length+dl bR l+dl cP c≤B)(a:Cur b i):DE B (k,m,s,l,c,b,i,h):=⟨by rw[Ky]; exact d,a⟩
def ES(X m:Nat)(x:Int×Int×List UInt8×List aB×List aC×List Int×Int×Int):Prop:=x.2.2.1.length≤5∧x.2.2.2.2.1=[]∧dl bR x.2.2.2.1+m*(1+X)≤1+2*(1+X)∧Cur x.2.2.2.2.2.1 x.2.2.2.2.2.2.1
def CS(X m:Nat)(x:Int×Int×List UInt8×List aB×List aC×List Int×Int×Int):Prop:=x.2.2.1=[]∧dl bR x.2.2.2.1≤2+X∧dl cP x.2.2.2.2.1+m*(53+X)≤1+2*(53+X)∧Cur x.2.2.2.2.2.1 x.2.2.2.2.2.2.1
theorem QN(n d K:Nat)(c:List (List UInt8))(E:d≤2)(w:K+10*d≤200)(x:Nm K c)(A: ∀ {K':Nat} {b:List Int} {i h:Int} {c:List (List UInt8)},K'+10*d≤200→Cur b i→Nm K' c→Gt (bU n (d:Int) c b i h) (DE (eB d)))(m:Nat)(y:m≤2)(s:Int×Int×Int×List UInt8×List aB×List aC×List Int×Int×Int)(z:s.1=(m:Int)∧ES (eB d) m s.2):Gt (mM n (bU n) ((d+1:Nat):Int) c s) (Rnd (fun m s=>m≤2∧s.1=(m:Int)∧ES (eB d) m s.2) (fun r=>ES (eB d) 0 r.2.2) m):=by
 obtain⟨v,w0,G,H,o,I,J,L,M⟩:=s; obtain⟨B,f,l,g,j⟩:=z; simp only at B f l g j; subst l; have D:=Vu (d:=d) (by omega)
 have F:=cK bR o; unfold mM; simp only; by_cases k:(0:Int)<v
 ·rw[z11 k,z16]
  obtain⟨a,rfl⟩: ∃a,m=a+1:=⟨m - 1,by omega⟩
  rw[z96]at g; have p:IntKind.wrap .i64 (((d+1:Nat):Int) - 1)=(d:Int):=by rw[wrap_i64 (by omega) (by omega)]; omega
  rw[p]; refine Gt.bind (A w j x) fun r ⟨C,t⟩=>Gt.bind (oC (by simp only[z21]; omega) (by omega)) fun q e=> ?_
  rw[wrap_i64 (n:=v - 1) (by omega) (by omega)]
  subst e; have u:dl bR (o++[.mk r.1 r.2.1 r.2.2.1 r.2.2.2.1 r.2.2.2.2.1])+a*(1+eB d)≤1+2*(1+eB d):=by rw[kG]; omega
  refine Gt.pure ⟨a,rfl,by omega,(by show v - 1=(a:Int); omega),f,rfl,u,t⟩
 ·rw[z9 k,z12]
  have:m=0:=by omega
  subst this; exact Gt.pure ⟨f,rfl,g,j⟩
theorem QM(n d K:Nat)(c:List (List UInt8))(F:d≤2)(w:K+10*d≤200)(x:Nm K c)(A: ∀ {K':Nat} {b:List Int} {i h:Int} {c:List (List UInt8)},K'+10*d≤200→Cur b i→Nm K' c→Gt (bU n (d:Int) c b i h) (DE (eB d)))(m:Nat)(y:m≤2)(s:Int×Int×Int×List UInt8×List aB×List aC×List Int×Int×Int)(z:(s.1+m=2∧0≤s.1)∧ES (eB d) m s.2):Gt (mL n (bU n) ((d+1:Nat):Int) c s) (Rnd (fun m s=>m≤2∧(s.1+m=2∧0≤s.1)∧ES (eB d) m s.2) (fun r=>ES (eB d) 0 r.2.2) m):=by
 obtain⟨v,w0,H,I,o,J,L,M,N⟩:=s; obtain⟨⟨C,B⟩,f,l,g,j⟩:=z; simp only at C f l g j B; subst l; have E:=Vu (d:=d) (by omega)
 have G:=cK bR o; unfold mL; simp only; by_cases k:v<(2:Int)
 ·rw[z11 k,z16]
  obtain⟨a,rfl⟩: ∃a,m=a+1:=⟨m - 1,by omega⟩
  rw[z96]at g; have p:IntKind.wrap .i64 (((d+1:Nat):Int) - 1)=(d:Int):=by rw[wrap_i64 (by omega) (by omega)]; omega
  rw[p]; refine Gt.bind (A w j x) fun r ⟨D,t⟩=>Gt.bind (oC (by simp only[z21]; omega) (by omega)) fun q e=> ?_
  rw[wrap_i64 (n:=v+1) (by omega) (by omega)]
  subst e; have u:dl bR (o++[.mk r.1 r.2.1 r.2.2.1 r.2.2.2.1 r.2.2.2.2.1])+a*(1+eB d)≤1+2*(1+eB d):=by rw[kG]; omega
  refine Gt.pure ⟨a,rfl,by omega,⟨(by show v+1+(a:Int)=2; omega),(by show 0≤v+1; omega)⟩,f,rfl,u,t⟩
 ·rw[z9 k,z12]
  have:m=0:=by omega
  subst this; exact Gt.pure ⟨f,rfl,g,j⟩
theorem QL(n d K:Nat)(c:List (List UInt8))(F:d≤2)(w:K+10*d≤200)(x:Nm K c)(A: ∀ {K':Nat} {b:List Int} {i h:Int} {c:List (List UInt8)},K'+10*d≤200→Cur b i→Nm K' c→Gt (bU n (d:Int) c b i h) (DE (eB d)))(m:Nat)(y:m≤2)(s:Int×Int×Int×List UInt8×List aB×List aC×List Int×Int×Int)(z:(s.1+m=1∧0≤s.1)∧ES (eB d) m s.2):Gt (mK n (bU n) ((d+1:Nat):Int) c s) (Rnd (fun m s=>m≤2∧(s.1+m=1∧0≤s.1)∧ES (eB d) m s.2) (fun r=>ES (eB d) 0 r.2.2) m):=by
 obtain⟨v,w0,H,I,o,J,L,M,N⟩:=s; obtain⟨⟨C,B⟩,f,l,g,j⟩:=z; simp only at C f l g j B; subst l; have E:=Vu (d:=d) (by omega)
 have G:=cK bR o; unfold mK; simp only; by_cases k:v<(1:Int)
 ·rw[z11 k,z16]
  obtain⟨a,rfl⟩: ∃a,m=a+1:=⟨m - 1,by omega⟩
  rw[z96]at g; have p:IntKind.wrap .i64 (((d+1:Nat):Int) - 1)=(d:Int):=by rw[wrap_i64 (by omega) (by omega)]; omega
  rw[p]; refine Gt.bind (A w j x) fun r ⟨D,t⟩=>Gt.bind (oC (by simp only[z21]; omega) (by omega)) fun q e=> ?_
  rw[wrap_i64 (n:=v+1) (by omega) (by omega)]
  subst e; have u:dl bR (o++[.mk r.1 r.2.1 r.2.2.1 r.2.2.2.1 r.2.2.2.2.1])+a*(1+eB d)≤1+2*(1+eB d):=by rw[kG]; omega
  refine Gt.pure ⟨a,rfl,by omega,⟨(by show v+1+(a:Int)=1; omega),(by show 0≤v+1; omega)⟩,f,rfl,u,t⟩
 ·rw[z9 k,z12]
  have:m=0:=by omega
  subst this; exact Gt.pure ⟨f,rfl,g,j⟩
theorem QK(n d K:Nat)(c:List (List UInt8))(L:d≤2)(hn:2010<n)(f:n≤1099511627776)(I:K+10*(d+1)≤200)(t:Nm K c)(D: ∀ {K':Nat} {b:List Int} {i h:Int} {c:List (List UInt8)},K'+10*d≤200→Cur b i→Nm K' c→Gt (bU n (d:Int) c b i h) (DE (eB d)))(m:Nat)(B:m≤2)(s:Int×Int×Int×List UInt8×List aB×List aC×List Int×Int×Int)(g:s.1=(m:Int)∧CS (eB d) m s.2):Gt (mJ n (bU n) ((d+1:Nat):Int) c s) (Rnd (fun m s=>m≤2∧s.1=(m:Int)∧CS (eB d) m s.2) (fun r=>CS (eB d) 0 r.2.2) m):=by
 obtain⟨v,w0,P,Q,R,w,S,T,U⟩:=s; obtain⟨E,u,j,k,l⟩:=g; simp only at E u j k l; subst u; have J:=Vu (d:=d) (by omega)
 have M:=cK cP w; have C:=t.1; unfold mJ; simp only; by_cases o:(0:Int)<v
 ·rw[z11 o,z16]
  obtain⟨a,rfl⟩: ∃a,m=a+1:=⟨m - 1,by omega⟩
  rw[z96]at k; have x:IntKind.wrap .i64 (((d+1:Nat):Int) - 1)=(d:Int):=by rw[wrap_i64 (by omega) (by omega)]; omega
  rw[x]; refine Gt.bind (PF 1 n (by omega) (by omega) f (K:=0) (by omega) l ⟨z36 _,fun s g=>by cases g⟩) fun r ⟨f1,f2,p⟩=> ?_
  have y:=p.1; have F:kY (1+1)=4:=rfl; have G:kX (1+1)=49:=rfl; refine Gt.bind (oC (by simp only[z53]; omega) (by omega)) fun N e=> ?_
  rw[z83]at e; subst e; refine Gt.bind (oC (by omega) (by omega)) fun O e=> ?_
  subst e; refine Gt.bind (D (K':=K+4) (by omega) f2 ((t.app p).up (by omega))) fun r2 ⟨H,z⟩=>Gt.bind (oC (by simp only[z21]; omega) (by omega)) fun q e=> ?_
  rw[wrap_i64 (n:=v - 1) (by omega) (by omega)]
  subst e; have A:dl cP (w++[.mk r.1 r.2.1 r.2.2.1 r.2.2.2.1 r.2.2.2.2.1 r2.1 r2.2.1 r2.2.2.1 r2.2.2.2.1 r2.2.2.2.2.1])+a*(53+eB d)≤1+2*(53+eB d):=by rw[kG,Vz]; omega
  exact Gt.pure ⟨a,rfl,by omega,(by show v - 1=(a:Int); omega),rfl,j,A,z⟩
 ·rw[z9 o,z12]
  have:m=0:=by omega
  subst this; exact Gt.pure ⟨rfl,j,k,l⟩
theorem Kd{n:Nat}{x:Int}:Gt (cU n x) (fun r=>r=(1,x,[],[],[])):=Gt.pure rfl
theorem XU{n:Nat}{s:List UInt8}:Gt (mG n s) (fun r=>r=(2,0,s,[],[])):=Gt.pure rfl
theorem MK: ∀(d n:Nat),d≤3→d+2100<n→n≤1099511627776→ ∀ {K:Nat} {b:List Int} {i h:Int} {z:List (List UInt8)},K+10*d≤200→Cur b i→Nm K z→Gt (bU n (d:Int) z b i h) (DE (eB d))
 | d,0,_,hn,_=>by omega
 | d,n+1,hd,hn,hn2=>fun hK A B=>by
  rename_i K b i h z; rw[AV]; unfold nE; have hX:=eB_10 d; have hml:=B.1; have H: ∀ {k m:Int} {s:List UInt8} {b:List Int} {i h:Int},s.length≤5→Cur b i→DE (eB d) (k,m,s,[],[],b,i,h):=fun C A=>DE.mk (by simp only[dl]; omega) A
  have J: ∀ {b:List Int} {i h:Int},Cur b i→Gt ((eZ n ([(0:Int),(1:Int),(2:Int),(5:Int),(40:Int)]:List Int) b i h).bind fun w=>(cU n w.1).bind fun t=>some (t.1,t.2.1,t.2.2.1,t.2.2.2.1,t.2.2.2.2,w.2.1,w.2.2.1,w.2.2.2)) (DE (eB d)):=fun A=>
   Gt.bind (Gq A (by simp) (by simp)) fun r ⟨_,v⟩=>Gt.bind Kd fun q e=>by subst e; exact Gt.pure (H (by simp) v)
  have D: ∀ {b:List Int} {i h:Int},Cur b i→Gt ((bS n ([([111,107]:List UInt8),([97]:List UInt8),([115,116,111,112]:List UInt8),([116,114,117,101]:List UInt8)]:List (List UInt8)) b i h).bind fun y=>(mG n y.1).bind fun u=>some (u.1,u.2.1,u.2.2.1,u.2.2.2.1,u.2.2.2.2,y.2.1,y.2.2.1,y.2.2.2)) (DE (eB d)):=fun A=>
   Gt.bind (DG (K:=5) A (by simp) (by simp) (by decide)) fun r ⟨h1,v⟩=>Gt.bind XU fun q e=>by subst e; exact Gt.pure (H h1 v)
  have xF: ∀ {b:List Int} {i h:Int},Cur b i→Gt (bif decide ((0:Int)<(z.length:Int))then(aM n (z.length:Int) b i h).bind fun j=>(ix z j.1).bind fun G=>some ((3:Int),(0:Int),G,([]:List aB),([]:List aC),j.2.1,j.2.2.1,j.2.2.2)else(aM n (4:Int) b i h).bind fun l=>(cU n l.1).bind fun g=>some (g.1,g.2.1,g.2.2.1,g.2.2.2.1,g.2.2.2.2,l.2.1,l.2.2.1,l.2.2.2)) (DE (eB d)):=fun A=>by
   refine Gt.cond (fun e=> ?_) fun _=> ?_
   ·have:=Qm e
    refine Gt.bind (iN A this) fun r ⟨h1,v⟩=> ?_
    obtain⟨N,E⟩:=h1 (by omega)
    exact Gt.bind (Ny N E) fun a ha=>Gt.pure (H (B.2 a ha) v)
   ·exact Gt.bind (iN A (by omega)) fun r ⟨_,v⟩=>Gt.bind Kd fun q e=>by subst e; exact Gt.pure (H (by simp) v)
  refine Gt.bind (iN A (by omega)) fun r ⟨_,v⟩=>Gt.cond (fun e0=> ?_) fun e0=> ?_
  ·refine Gt.bind (iN v (by omega)) fun r2 ⟨E,I⟩=> ?_
   obtain⟨h6,h7⟩:=E (by omega)
   refine Gt.cond (fun _=>J I) fun q0=>Gt.cond (fun _=>D I) fun O=>Gt.cond (fun _=>xF I) fun P=>Gt.cond (fun _=>xF I) fun S=> ?_
   have:=RY q0; have:=RY O; have:=RY P; have:=RY S; omega
  ·have:=RY e0
   obtain⟨p,rfl⟩: ∃p,d=p+1:=⟨d - 1,by omega⟩
   have e1:IntKind.wrap .i64 (((p+1:Nat):Int) - 1)=(p:Int):=by rw[wrap_i64 (by omega) (by omega)]; omega
   have eX:eB (p+1)=200+4*eB p:=rfl; have F: ∀ {K':Nat} {b:List Int} {i h:Int} {z:List (List UInt8)},K'+10*p≤200→Cur b i→Nm K' z→Gt (bU n (p:Int) z b i h) (DE (eB p)):=MK p n (by omega) (by omega) (by omega)
   rw[e1]; have ops: ∀ {b:List Int} {i h:Int},Cur b i→Gt ((bS n ([([43]:List UInt8),([45]:List UInt8),([42]:List UInt8),([61,61]:List UInt8),([60]:List UInt8),([43]:List UInt8)]:List (List UInt8)) b i h).bind fun o=>(bU n (p:Int) z o.2.1 o.2.2.1 o.2.2.2).bind fun c=>(bU n (p:Int) z c.2.2.2.2.2.1 c.2.2.2.2.2.2.1 c.2.2.2.2.2.2.2).bind fun f=>some ((7:Int),(0:Int),o.1,([aB.mk c.1 c.2.1 c.2.2.1 c.2.2.2.1 c.2.2.2.2.1,aB.mk f.1 f.2.1 f.2.2.1 f.2.2.2.1 f.2.2.2.2.1]:List aB),([]:List aC),f.2.2.2.2.2.1,f.2.2.2.2.2.2.1,f.2.2.2.2.2.2.2)) (DE (eB (p+1))):=fun A=>
    Gt.bind (DG (K:=5) A (by simp) (by simp) (by decide)) fun r ⟨h1,v⟩=>Gt.bind (F (by omega) v B) fun r1 ⟨f1,f2⟩=>Gt.bind (F (by omega) f2 B) fun r2 ⟨g1,R⟩=>Gt.pure (DE.mk (by simp only[dl]; omega) R)
   have L: ∀ {x:Int×Int×List UInt8×List aB×List aC×List Int×Int×Int},ES (eB p) 0 x→DE (eB (p+1)) x:=fun {x} hx=>by
    obtain⟨V,W,X,Y,U,Z,x8,x9⟩:=x; obtain⟨O,P,S,T⟩:=hx; simp only at O P S T; subst P; exact DE.mk (by simp only[dl]; omega) T
   refine Gt.cond (fun _=>J v) fun _=>Gt.cond (fun _=>D v) fun _=>Gt.cond (fun _=>xF v) fun _=>Gt.cond (fun _=>xF v) fun _=>Gt.cond (fun _=>xF v) fun _=>Gt.cond (fun _=>ops v) fun _=>Gt.cond (fun _=>ops v) fun _=>Gt.cond (fun _=> ?_) fun _=>Gt.cond (fun _=> ?_) fun _=>Gt.cond (fun _=> ?_) fun _=> ?_
   ·refine Gt.bind (Gq v (by simp) (by simp)) fun r3 ⟨_,N⟩=>Gt.bind (iN N (by omega)) fun Q ⟨E,I⟩=> ?_
    obtain⟨h6,h7⟩:=E (by omega)
    refine Gt.bind (Gt.loop _ _ (fun m s C=>QN n p K z (by omega) (by omega) B F m C.1 s C.2) (m:=Q.1.toNat) ⟨by omega,by simp only; omega,by simp,rfl, ?_,I⟩ (by omega)) fun r M=> ?_
    ·have a1:Q.1.toNat*(1+eB p)≤2*(1+eB p):=z57 _ (by omega)
     simp only[dl]; omega
    ·obtain⟨x0,x1,V,W,X,Y,U,Z,x8,x9⟩:=r
     exact Gt.pure (L M)
   ·refine Gt.bind (F (by omega) v B) fun r1 ⟨f1,f2⟩=>Gt.bind (F (by omega) f2 B) fun r2 ⟨g1,R⟩=>Gt.pure (DE.mk ?_ R)
    simp only[dl,z53]; rw[Ky 5 0]; simp only[dl,z53]; omega
   ·refine Gt.bind (DG (K:=5) v (by simp) (by simp) (by decide)) fun r3 ⟨N,E⟩=>Gt.cond (fun _=> ?_) fun _=> ?_
    ·refine Gt.bind (Gt.loop _ _ (fun m s C=>QM n p K z (by omega) (by omega) B F m C.1 s C.2) (m:=2) ⟨by omega,⟨by simp,by simp⟩,N,rfl, ?_,E⟩ (by omega)) fun r M=> ?_
     ·simp only[dl]; omega
     ·obtain⟨x0,x1,V,W,X,Y,U,Z,x8,x9⟩:=r
      exact Gt.pure (L M)
    ·refine Gt.bind (Gt.loop _ _ (fun m s C=>QL n p K z (by omega) (by omega) B F m C.1 s C.2) (m:=1) ⟨by omega,⟨by simp,by simp⟩,N,rfl, ?_,E⟩ (by omega)) fun r M=> ?_
     ·simp only[dl]; omega
     ·obtain⟨x0,x1,V,W,X,Y,U,Z,x8,x9⟩:=r
      exact Gt.pure (L M)
   ·refine Gt.bind (F (by omega) v B) fun r1 ⟨f1,f2⟩=>Gt.bind (iN f2 (by omega)) fun Q ⟨E,I⟩=> ?_
    obtain⟨h6,h7⟩:=E (by omega)
    rw[wrap_i64 (n:=1+Q.1) (by omega) (by omega)]
    refine Gt.bind (Gt.loop _ _ (fun m s C=>QK n p K z (by omega) (by omega) (by omega) (by omega) B F m C.1 s C.2) (m:=(1+Q.1).toNat) ⟨by omega,by simp only; omega,rfl, ?_, ?_,I⟩ (by omega)) fun r M=> ?_
    ·simp only[dl]; omega
    ·have a1:(1+Q.1).toNat*(53+eB p)≤2*(53+eB p):=z57 _ (by omega)
     simp only[dl]; omega
    ·obtain⟨x0,x1,V,W,X,Y,U,Z,x8,x9⟩:=r
     obtain⟨O,P,S,T⟩:=M; simp only at O P S T ⊢; subst O; have hl:=cK cP U; have hX5:=Vu (d:=p) (by omega)
     refine Gt.bind (SQ T (by omega)) fun r5 h8=>Gt.cond (fun _=> ?_) fun _=>Gt.pure (DE.mk (by simp only[z53]; omega) h8)
     refine Gt.bind (F (by omega) h8 B) fun r6 ⟨g1,R⟩=>Gt.bind (oC (by simp only[z21]; omega) (by omega)) fun q e=>Gt.pure (DE.mk ?_ R)
     subst e; rw[kG,Vz,Ky 3 0]; simp only[dl,z53,z21]; omega
theorem JR{α:Type}(w:α→Nat)(b:α): ∀(l:List α) (k:Nat),dl w (l.set k b)≤dl w l+w b
 | [],k=>by simp [dl]
 | x::r,0=>by simp only[WX,dl]; omega
 | x::r,k+1=>by have:=JR w b r k; simp only[Vl,dl]; omega
theorem JF{n K:Nat}(hn:10000<n)(a:n≤1099511627776)(l:K≤100){b:List Int}{i h:Int}{f:List (List UInt8)}(g:Cur b i)(j:Nm K f):Gt (jY n f b i h) (DE 4840):=by
 unfold jY; refine Gt.bind (MK 3 n (by omega) (by omega) a (by omega) g j) fun r ⟨h1,d⟩=> ?_
 have k:eB 3=4840:=rfl; have c:=Lp n a (.mk r.1 r.2.1 r.2.2.1 r.2.2.2.1 r.2.2.2.2.1) false 10 300 (by omega) (by omega) (by omega) (by omega)
 have c:dD n r.1 r.2.1 r.2.2.1 r.2.2.2.1 r.2.2.2.2.1 false (10:Int) 300=_:=c; unfold qF; rw[c]; simp only[z8]; refine Gt.cond (fun _=>Gt.bind Kd fun q e=> ?_) fun _=>Gt.pure ⟨z95 h1 (by omega),d⟩
 subst e; exact Gt.pure (DE.mk (by simp only[dl,z53]; omega) d)
theorem Gt.list{α σ ρ:Type}{body:σ→Option (σ⊕ρ)}(L:List α)(I:Nat→σ→Prop)(Q:ρ→Prop)(k: ∀(i:Nat) a s,L[i]? =some a→I i s→Gt (body s) (fun o=> ∃c,o= .inl c∧I (i+1) c))(f: ∀s,I L.length s→Gt (body s) (fun o=> ∃r,o= .inr r∧Q r)){n:Nat}{s:σ}(h:I 0 s)(hn:L.length<n):Gt (loopN body n s) Q:=by
 refine Gt.loop (fun m s=> ∃i,i+m=L.length∧I i s) Q (fun m s ⟨i,h1,d⟩=> ?_) (m:=L.length) ⟨0,by omega,h⟩ hn
 cases m with
 | zero=>
  have:i=L.length:=by omega
  subst this; exact(f s d).mono fun o ⟨r,e,j⟩=>by subst e; exact j
 | succ m=>
  have g:i<L.length:=by omega
  exact(k i _ s (z13 g) d).mono fun o ⟨c,e,b⟩=>by subst e; exact⟨m,rfl,i+1,by omega,b⟩
theorem vM{α:Type}(w:α→Nat){L:List α}{i:Nat}{a:α}(h:L[i]? =some a):dl w (L.take (i+1))=dl w (L.take i)+1+w a:=by
 rw[←As h,kG]
theorem Az{α:Type}(w:α→Nat)(L:List α)(i:Nat):dl w (L.take i)≤dl w L:=by
 have:=Ki w (L.take i) (L.drop i); rw[z141]at this; have:=cK w (L.drop i); omega
theorem IT{α:Type}(w:α→Nat)(L:List α):1≤dl w L:=by have:=cK w L; omega
theorem OX(k m:Int)(s:List UInt8)(l:List aA):cV (.mk k m s l)=3+s.length+dl cV l:=by
 simp only[cV,Bv]
theorem KP(a:aB):bR a=3+a.f2.length+dl bR a.f3+dl cP a.f4:=by rw[Ga,sN,qZ]
def PQ(e:aB)(b:List aG)(a:List aA)(N:Nat)(r:Int×Int×List UInt8×List aA×List aG×List aA×Int×List (List UInt8)×List Int):Prop:=
 cV (.mk r.1 r.2.1 r.2.2.1 r.2.2.2.1)≤bR e∧r.2.2.2.2.1=b∧r.2.2.2.2.2.1=a∧r.2.2.2.2.2.2.2.1.length≤r.2.2.2.2.2.2.2.2.length∧r.2.2.2.2.2.2.2.2.length≤N+bR e
def PI(L:List aB)(K:Nat)(c:List UInt8)(b:List aG)(a:List aA)(N:Nat)(i:Nat)(s:Int×Int×Int×List UInt8×List aA×List aG×List aA×Int×List (List UInt8)×List Int):Prop:=
 s.1=i∧s.2.2.2.1.length≤c.length∧dl cV s.2.2.2.2.1≤dl bR (L.take i)∧s.2.2.2.2.2.1=b∧s.2.2.2.2.2.2.1=a∧s.2.2.2.2.2.2.2.2.1.length≤s.2.2.2.2.2.2.2.2.2.length∧s.2.2.2.2.2.2.2.2.2.length≤N+K+dl bR (L.take i)
theorem NK{n:Nat}(e:aB){N K:Nat}{d:List aG}{c:List aA}(hn:e.f3.length<n)(L:N+2*bR e≤1000000)(M:K≤1)
  (D: ∀a∈e.f3, ∀(dW:List (List UInt8)) (b:List Int) (k:Int),dW.length≤b.length→b.length+2*bR a≤1000000→Gt (gB n a.f0 a.f1 a.f2 a.f3 a.f4 d c k dW b) (PQ a d c b.length))
  {s:Int×Int×Int×List UInt8×List aA×List aG×List aA×Int×List (List UInt8)×List Int}(h:PI e.f3 K e.f2 d c N 0 s):
  Gt (loopN (fA n (gB n) e.f3) n s) (fun r=>PQ e d c N r.2.2):=by
 have U:=KP e; have R:=cK bR e.f3; have O:=IT cP e.f4; refine Gt.list e.f3 (PI e.f3 K e.f2 d c N) _ (fun i a s f ⟨h1,m,o,g,j,l,p⟩=> ?_) (fun s ⟨h1,m,o,g,j,l,p⟩=> ?_) h (by omega)
 ·obtain⟨v,w0,E,F,t,G,H,u,w,x⟩:=s
  simp only at h1 m o g j l p; subst h1 g j; have P:=gI bR (z25 f); have T:=vM bR f; have C:=Az bR e.f3 (i+1); have Q:=cB f; have S:=cK cV t; unfold fA; simp only[cX f,z16,bW,f,z8]; refine Gt.bind (D a (z25 f) w x u l (by omega)) fun r ⟨I,z,A,B,J⟩=>Gt.bind (oC (by simp only[z21]; omega) (by omega)) fun q y=>Gt.pure ⟨_,rfl, ?_⟩
  subst y; refine⟨aN (by omega),m, ?_,z,A,B, ?_⟩
  ·simp only[kG]; omega
  ·simp only; omega
 ·obtain⟨v,w0,E,F,t,G,H,u,w,x⟩:=s
  simp only at h1 m o g j l p; subst h1; unfold fA; simp only[aO,z12]; rw[Vj]at o p; refine Gt.pure ⟨_,rfl, ?_,g,j,l, ?_⟩
  ·simp only[OX]; omega
  ·simp only; omega
theorem PE: ∀(n:Nat),n≤1099511627776→ ∀(e:aB) (o:List aG) (m:List aA) (dW:List (List UInt8)) (l:List Int) (k:Int),bR e<n→dW.length≤l.length→l.length+2*bR e≤1000000→
  Gt (gB n e.f0 e.f1 e.f2 e.f3 e.f4 o m k dW l) (PQ e o m l.length)
 | 0,_,e,_,_,_,_,_,h,_,_=>by omega
 | n+1,hn,e,o,m,dW,l,k,h,t,B=>by
  have M:=KP e; have J:=IT cP e.f4; have G: ∀a∈e.f3, ∀(dW:List (List UInt8)) (l:List Int) (k:Int),dW.length≤l.length→l.length+2*bR a≤1000000→Gt (gB n a.f0 a.f1 a.f2 a.f3 a.f4 o m k dW l) (PQ a o m l.length):=fun a E dW l k h1 u=>by
   have L:=gI bR E; exact PE n (by omega) a o m dW l k (by omega) h1 u
  have w:=cK bR e.f3; have u:rE=fA:=rfl; have A:rD=fA:=rfl; rw[BI]; unfold oX; rw[u,A]
  have p: ∀ {K:Nat} {s:Int×Int×Int×List UInt8×List aA×List aG×List aA×Int×List (List UInt8)×List Int},K≤1→PI e.f3 K e.f2 o m l.length 0 s→
    Gt ((loopN (fA n (gB n) e.f3) n s).bind fun(_,_,a,b,c,d,f,g,h,i,j)=>some (a,b,c,d,f,g,h,i,j)) (PQ e o m l.length):=fun D C=>
   Gt.bind (NK e (by omega) B D G C) fun r F=>by
    obtain⟨a1,a2,a3,a4,a5,a6,a7,a8,H,x,y⟩:=r; exact Gt.pure F
  have I:dl bR (e.f3.take 0)=1:=rfl; refine Gt.cond (fun _=>Gt.cond (fun _=> ?_) (fun _=> ?_)) (fun _=> ?_)
  ·refine Gt.bind (oC (by simp only[z21]; omega) (by omega)) fun q z=>Gt.bind (oC (by simp only[z21]; omega) (by omega)) fun N v=>p (K:=1) (by omega) ⟨rfl,z79 _,z36 _,rfl,rfl, ?_, ?_⟩
   ·subst z v; simp only[z19,z21]; omega
   ·subst v; simp only[z19,z21]; omega
  ·exact p (K:=0) (by omega) ⟨rfl,z79 _,z36 _,rfl,rfl,t,by simp only; omega⟩
  ·exact p (K:=0) (by omega) ⟨rfl,z36 _,z36 _,rfl,rfl,t,by simp only; omega⟩

theorem WJ{α:Type}{l:List α}{k:Nat}(h:k<l.length):Gt (ix l (k:Int)) (fun a=>l[k]? =some a):=by
 rw[bW]; exact⟨_,z13 h,z13 h⟩
theorem yJ{α:Type}{w:α→Nat}: ∀ {l:List α} {k:Nat} {a b:α},l[k]? =some a→w b=w a→dl w (l.set k b)=dl w l
 | [],k,a,b,h,_=>by simp at h
 | x::r,0,a,b,h,e=>by cases h; simp only[WX,dl,e]
 | x::r,k+1,a,b,h,e=>by simp only[Vl,dl,yJ (l:=r) (by simpa using h) e]
theorem Cz(a b d:Int)(s:List UInt8):jX (.mk a b s d)=4+s.length:=rfl
theorem zC{n:Nat}{a b d:Int}{s:List UInt8}{f:List aG}{c:List aA}{k:Int}(h:f.length≤100000000):Gt (bT n a b s d f c k) (fun r=>r.1=f++[.mk a b s d]∧r.2.1=c):=by
 unfold bT; exact Gt.bind (oC (by simp only[z21]; omega) (by omega)) fun q e=>Gt.pure ⟨e,rfl⟩
theorem NI{n:Nat}{dW:List (List UInt8)}{c:List Int}{s:List UInt8}(h:dW.length≤c.length)(g:c.length≤1000000)(hn:dW.length<n):Gt (kQ n dW c s) (fun _=>True):=by
 unfold kQ; have d:IntKind.wrap .i64 ((dW.length:Int) - 1)=(dW.length:Int) - 1:=wrap_i64 (by omega) (by omega)
 rw[d]; refine Gt.bind (P:=fun _=>True) (Gt.loop (fun m (v:Int)=>v+1=m∧m≤dW.length) (fun _=>True) (fun m v ⟨h1,f⟩=> ?_) (m:=dW.length) ⟨by omega,z36 _⟩ hn) fun q _=>by cases q<;>exact Gt.pure trivial
 unfold nZ; refine Gt.cond (fun e=> ?_) (fun _=>Gt.pure trivial)
 have e:=Qm e; refine Gt.bind (Ny e (by omega)) fun a _=>Gt.cond (fun _=>Gt.bind (Ny e (by omega)) fun b _=>Gt.pure trivial) fun _=>Gt.pure ⟨m - 1,by omega, ?_,by omega⟩
 rw[wrap_i64 (by omega) (by omega)]; omega
def MQ(w:Nat)(a:List aG)(b:List aA)(r:List aG×List aA×Int):Prop:=
 a.length≤r.1.length∧dl jX r.1≤dl jX a+50*w∧dl cV r.2.1≤dl cV b+50*w
def MHy(w N:Nat)(dW:List (List UInt8))(a:List Int)(c:List aG)(b:List aA):Prop:=
 dW.length≤a.length∧a.length+2*w≤1000000∧dl jX c+50*w≤N∧dl cV b+50*w≤N∧N≤100000000
def Nq(n:Nat):Prop:= ∀(e:aB) (dW:List (List UInt8)) (a:List Int) (c:List aG) (b:List aA) (k:Int) (N:Nat),a.length+2*bR e+1<n→MHy (bR e) N dW a c b→Gt (fW n e.f0 e.f1 e.f2 e.f3 e.f4 dW a c b k) (MQ (bR e) c b)
def UI(n:Nat):Prop:= ∀(e:aB) (dW:List (List UInt8)) (a:List Int) (c:List aG) (b:List aA) (k:Int) (N:Nat),a.length+2*bR e<n→MHy (3+dl cP e.f4) N dW a c b→dl cP e.f4+4≤bR e→a.length+2*bR e≤1000000→Gt (kW n e.f0 e.f1 e.f2 e.f3 e.f4 dW a c b k) (MQ (3+dl cP e.f4) c b)
theorem SJ{n:Nat}(E:Nq n)(D:UI n):Nq (n+1):=fun e dW g l j k N h ⟨h1,L,M,O,B⟩=>by
 have S:=KP e; have T:=IT cP e.f4; have U:=cK bR e.f3; rw[AR]; unfold nA; have p:Gt (loopN (jO n (fW n) dW g e.f3) n ((0:Int),l,j,k)) (fun r=>MQ (dl bR e.f3 - 1) l j r.2.2):=by
  refine Gt.list e.f3 (fun i s=>s.1=(i:Int)∧MQ (dl bR (e.f3.take i) - 1) l j s.2) _ (fun i a s u y=> ?_) (fun s y=> ?_) ⟨rfl,z36 _,by simp,by simp⟩ (by omega)
  ·obtain⟨v,w0,w,x⟩:=s
   obtain⟨m,q,o,t⟩:=y; simp only at m q o t; subst m; have P:=gI bR (z25 u); have R:=vM bR u; have G:=Az bR e.f3 (i+1); have H:=IT bR (e.f3.take i); have Q:=cB u; unfold jO; simp only[cX u,z16,bW,u,z8]; refine Gt.bind (E a dW g w0 w x N (by omega) ⟨h1,by omega,by omega,by omega,B⟩) fun r ⟨I,J,K⟩=>Gt.pure ⟨_,rfl,aN (by omega),by simp only; omega, ?_, ?_⟩
   ·simp only; omega
   ·simp only; omega
  ·obtain⟨v,w0,w,x⟩:=s
   obtain⟨m,q,o,t⟩:=y; simp only at m q o t; subst m; unfold jO; simp only[aO,z12]; rw[Vj]at o t; exact Gt.pure ⟨_,rfl,q,o,t⟩
 refine Gt.bind p fun r F=> ?_
 ·obtain⟨v,b,w0,w,x⟩:=r
  obtain⟨m,q,o⟩:=F; simp only at m q o; have V:=cK jX w0; have f: ∀(a b d:Int) (s:List UInt8),s.length≤e.f2.length→Gt ((bT n a b s d w0 w x).bind fun c=>some (c.1,c.2.1,c.2.2)) (MQ (bR e) l j):=fun a b d s y=>
   Gt.bind (zC (by omega)) fun r ⟨A,C⟩=>Gt.pure (by
    refine⟨?_, ?_, ?_⟩
    ·simp only[A,z19,z21]; omega
    ·simp only[A,kG,Cz]; omega
    ·simp only[C]; omega)
  have z:([]:List UInt8).length≤e.f2.length:=z79 _; refine Gt.cond (fun _=>f _ _ _ _ z) fun _=>Gt.cond (fun _=>f _ _ _ _ (z36 _)) fun _=>Gt.cond (fun _=>Gt.bind (NI h1 (by omega) (by omega)) fun c _=>f _ _ _ _ z) fun _=>Gt.cond (fun _=>f _ _ _ _ z) fun _=>Gt.cond (fun _=>f _ _ _ _ z) fun _=>Gt.cond (fun _=>f _ _ _ _ z) fun _=>Gt.cond (fun _=>f _ _ _ _ (z36 _)) fun _=>Gt.cond (fun _=>f _ _ _ _ (z36 _)) fun _=>Gt.cond (fun _=> ?_) fun _=>Gt.pure ⟨m,by simp only; omega,by simp only; omega⟩
  refine Gt.bind (D e dW g w0 w x N (by omega) ⟨h1,by omega,by omega,by omega,B⟩ (by omega) (by omega)) fun r ⟨I,J,K⟩=>Gt.pure ⟨by simp only; omega,by simp only; omega,by simp only; omega⟩

def CI(C:List aC)(a:List aG)(b:List aA)(i:Nat)(s:List Int×Int×List aG×List aA×Int):Prop:=
 s.2.1=i∧s.1.length≤i∧(∀j∈s.1,0≤j∧j<s.2.2.1.length)∧a.length≤s.2.2.1.length∧dl jX s.2.2.1+50≤dl jX a+50*dl cP (C.take i)∧dl cV s.2.2.2.1+50≤dl cV b+50*dl cP (C.take i)
theorem QI{n:Nat}(Y:Nq n)(e:aB)(dW:List (List UInt8))(d:List Int)(g:List aG)(f:List aA)(k:Int)(N:Nat)(h:d.length+2*bR e<n+1)(hn:n≤1099511627776)(T:MHy (3+dl cP e.f4) N dW d g f)(hw:dl cP e.f4+4≤bR e)(hs:d.length+2*bR e≤1000000):
  Gt (loopN (jT n (fW n) dW d e.f4) n (([]:List Int),(0:Int),g,f,k)) (fun r=>(∀j∈r.1,0≤j∧j<r.2.2.2.1.length)∧r.1.length≤e.f4.length∧g.length≤r.2.2.2.1.length∧dl jX r.2.2.2.1+50≤dl jX g+50*dl cP e.f4∧dl cV r.2.2.2.2.1+50≤dl cV f+50*dl cP e.f4):=by
 obtain⟨h1,h2,h3,h4,S⟩:=T; have hc:=cK cP e.f4; refine Gt.list e.f4 (CI e.f4 g f) _ (fun i a s E o=> ?_) (fun s o=> ?_) ⟨rfl,z36 _,(fun j l=>by cases l),z36 _,by simp [dl],by simp [dl]⟩ (by omega)
 ·obtain⟨js,v,w0,u,Q⟩:=s
  obtain⟨A,F,B,G,C,D⟩:=o; simp only at A F B G C D; subst A; have hd:=gI cP (z25 E); have ht:=vM cP E; have Z:=Az cP e.f4 (i+1); have hi:=cB E; have hwc:=DW a; have q1:=cK jX w0; have q2:=cK cV u; unfold jT; simp only[cX E,z16,bW,E,z8]; refine Gt.bind (oC (by simp only[z53]; omega) (by omega)) fun t L=>Gt.bind (oC (by simp only[z53]; omega) (by omega)) fun H M=> ?_
  rw[z83]at L M; subst L M; refine Gt.bind (PE n hn a.p w0 u t H Q (by omega) h1 (by omega)) fun p ⟨p1,p2,p3,p4,p5⟩=> ?_
  rw[p2,p3]; refine Gt.bind (zC (by omega)) fun c ⟨K,R⟩=> ?_
  rw[R]; refine Gt.bind (oC (by simp only[z21]; omega) (by omega)) fun q P=> ?_
  refine Gt.bind (WJ (by subst P; simp only[z19,z21]; omega)) fun z _=> ?_
  simp only[z8,z34]; have hp:dl cV (q.set u.length (.mk p.1 p.2.1 p.2.2.1 p.2.2.2.1))≤dl cV u+5+bR a.p:=by
   have:=JR cV (.mk p.1 p.2.1 p.2.2.1 p.2.2.2.1) q u.length; have e3:dl cV q=dl cV u+1+4:=by subst P; rw[kG,OX]; rfl
   omega
  have U:dl jX c.1=dl jX w0+5:=by rw[K,kG,Cz]; rfl
  have W:c.1.length=w0.length+1:=by rw[K,z19,z21]
  refine Gt.bind (Y a.x p.2.2.2.2.2.2.2.1 p.2.2.2.2.2.2.2.2 c.1 _ c.2.2 N (by omega) ⟨p4,by omega,by omega,by omega,S⟩) fun m ⟨m1,m2,m3⟩=> ?_
  have q3:=cK jX m.1; refine Gt.bind (oC (by simp only[z21]; omega) (by omega)) fun js' O=>Gt.bind (zC (by omega)) fun I ⟨y,J⟩=> ?_
  have X:I.1.length=m.1.length+1:=by rw[y,z19,z21]
  have V:dl jX I.1=dl jX m.1+5:=by rw[y,kG,Cz]; rfl
  refine Gt.bind (WJ (k:=w0.length) (by omega)) fun z hz=>Gt.pure ⟨_,rfl,aN (by omega), ?_, ?_, ?_, ?_, ?_⟩
  ·subst O; simp only[z19,z21]; omega
  ·intro j l
   simp only[z74]; subst O; rcases z90.1 l with l | l
   ·have:=B j l; omega
   ·have:=z68.1 l; omega
  ·simp only[z74]; omega
  ·simp only
   rw[yJ (w:=jX) (b:= .mk z.f0 z.f1 z.f2 (I.1.length:Int)) hz rfl]; omega
  ·simp only[J]; omega
 ·obtain⟨js,v,w0,u,Q⟩:=s
  obtain⟨A,F,B,G,C,D⟩:=o; simp only at A F B G C D; subst A; unfold jT; simp only[aO,z12]; rw[Vj]at C D; exact Gt.pure ⟨_,rfl,B,F,G,C,D⟩
theorem SM{n:Nat}(hn:n≤1099511627776)(O:Nq n):UI (n+1):=fun e dW o y t k N h B Q P=>by
 have W:=cK cP e.f4; have K:=IT cP e.f4; rw[AT]; unfold nC; refine Gt.bind (QI O e dW o y t k N h hn B Q P) fun r x=> ?_
 obtain⟨D,v,b,w0,w1,w2⟩:=r; obtain⟨A,G,H,I,J⟩:=x; simp only at A G H I J; obtain⟨h1,S,T,U,V⟩:=B; have q1:=cK jX w0; refine Gt.bind (zC (by omega)) fun c ⟨z,F⟩=> ?_
 have M:c.1.length=w0.length+1:=by rw[z,z19,z21]
 have L:dl jX c.1=dl jX w0+5:=by rw[z,kG,Cz]; rfl
 have f:Gt (loopN (jS n D) n ((0:Int),c.1,c.2.1,c.2.2)) (fun r=>r.2.2.1.length=c.1.length∧dl jX r.2.2.1=dl jX c.1∧r.2.2.2.1=c.2.1):=by
  refine Gt.list D (fun i s=>s.1=(i:Int)∧s.2.1.length=c.1.length∧dl jX s.2.1=dl jX c.1∧s.2.2.1=c.2.1) _ (fun i a s u g=> ?_) (fun s g=> ?_) ⟨rfl,rfl,rfl,rfl⟩ (by omega)
  ·obtain⟨v,p,u1,E⟩:=s
   obtain⟨l,m,d,q⟩:=g; simp only at l m d q; subst l; have X:=cB u; obtain⟨Y,Z⟩:=A a (z25 u); obtain⟨j,rfl⟩: ∃j:Nat,a=j:=⟨a.toNat,by omega⟩
   unfold jS; simp only[cX u,z16,bW,u,z8,z34]; have C:j<p.length:=by omega
   simp only[z13 C,z8]
   refine Gt.pure ⟨_,rfl,aN (by omega),by simp only[z74]; exact m, ?_,q⟩
   simp only; rw[yJ (w:=jX) (b:= .mk p[j].f0 p[j].f1 p[j].f2 (p.length:Int)) (z13 C) rfl]; exact d
  ·obtain⟨v,p,u1,E⟩:=s
   obtain⟨l,m,d,q⟩:=g; simp only at l m d q; subst l; unfold jS; simp only[aO,z12]; exact Gt.pure ⟨_,rfl,m,d,q⟩
 refine Gt.bind f fun r x=> ?_
 obtain⟨v',R,p,u1,E⟩:=r; obtain⟨l,m,d⟩:=x; simp only at l m d; exact Gt.pure ⟨by simp only; omega,by simp only; omega,by simp only[d,F]; omega⟩
theorem Ix: ∀n,n≤1099511627776→Nq n∧UI n
 | 0,_=>⟨fun _ _ _ _ _ _ _ h _=>by omega,fun _ _ _ _ _ _ _ h _ _ _=>by omega⟩
 | n+1,hn=>by
  obtain⟨h1,a⟩:=Ix n (by omega)
  exact⟨SJ h1 a,SM (by omega) h1⟩
theorem QA{α:Type}(L M:List α)(g:L.length=M.length){body:Int→Option (Int⊕(Bool⊕(Int×Bool)))}{n:Nat}
  (j: ∀(i:Nat) x y,L[i]? =some x→M[i]? =some y→ ∃s:Bool,body (i:Int)=some (bif !s then .inr (.inl false)else .inl ((i+1:Nat):Int))∧(s=true↔x=y))
  (e:body (L.length:Int)=some (.inr (.inr ((L.length:Int),false))))(hn:L.length<n):
  ∃s:Bool,loopN body n (0:Int)=some (bif s then .inr ((L.length:Int),false)else .inl false)∧(s=true↔L=M):=by
 have d: ∀(m i n:Nat),i+m=L.length→m<n→ ∃s:Bool,loopN body n (i:Int)=some (bif s then .inr ((L.length:Int),false)else .inl false)∧(s=true↔L.drop i=M.drop i):=by
  intro m; induction m with
  | zero=>
   intro i n f hn; obtain⟨n,rfl⟩: ∃k,n=k+1:=⟨n - 1,by omega⟩
   have:i=L.length:=by omega
   subst this; refine⟨true, ?_, ?_⟩
   ·unfold loopN; rw[e]; rfl
   ·rw[Vh,g,Vh]; simp
  | succ m l=>
   intro i n f hn; obtain⟨n,rfl⟩: ∃k,n=k+1:=⟨n - 1,by omega⟩
   have a:i<L.length:=by omega
   have b:i<M.length:=by omega
   obtain⟨s,h1,c⟩:=j i L[i] M[i] (z13 a) (z13 b)
   rw[z88 a,z88 b]; unfold loopN; rw[h1]; cases s with
   | false=>
    refine⟨false,rfl, ?_⟩
    simp only[Tg]; exact⟨(fun h=>nomatch h),fun h=>by have:=c.2 h.1; cases this⟩
   | true=>
    obtain⟨t,o,p⟩:=l (i+1) n (by omega) (by omega)
    refine⟨t,o, ?_⟩
    rw[p]; simp only[Tg,c.1 rfl,Ns]
 obtain⟨s,h1,c⟩:=d L.length 0 n (by omega) hn
 exact⟨s,h1,by simpa using c⟩
def FC(o:Option Bool)(p:Prop):Prop:= ∃s:Bool,o=some s∧(s=true↔p)
theorem FC.iff{o:Option Bool}{p q:Prop}(h:FC o p)(e:p↔q):FC o q:=by
 obtain⟨s,h1,a⟩:=h; exact⟨s,h1,a.trans e⟩
theorem Mr{α:Type}(L M:List α){body:Int→Option (Int⊕(Bool⊕(Int×Bool)))}{n:Nat}(d:L.length=M.length)
  (g: ∀(i:Nat) x y,L[i]? =some x→M[i]? =some y→ ∃s:Bool,body (i:Int)=some (bif !s then .inr (.inl false)else .inl ((i+1:Nat):Int))∧(s=true↔x=y))
  (b:body (L.length:Int)=some (.inr (.inr ((L.length:Int),false))))(hn:L.length<n){f:Bool⊕(Int×Bool)→Option Bool}{o:Option Bool}{p:Prop}(c:f (.inl false)=some false)(e:f (.inr ((L.length:Int),false))=o)(ho:FC o p):
  FC ((loopN body n (0:Int)).bind f) (L=M∧p):=by
 obtain⟨s,h1,a⟩:=QA L M d g b hn; rw[h1,z8]; cases s with
 | false=>exact⟨false,c,⟨(fun h=>nomatch h),fun h=>a.2 h.1⟩⟩
 | true=>
  rw[z16,e]; exact ho.iff ⟨fun h=>⟨a.1 rfl,h⟩,fun h=>h.2⟩
theorem Mq:FC (some true) True:=⟨true,rfl,by simp⟩
theorem Ut{α:Type}{a b:List α}:(decide ((a.length:Int)=(b.length:Int)))=true↔a.length=b.length:=by
 rw[z26]; omega
theorem Po{α:Type}{a b:List α}{o:Option Bool}{q:Prop}(h:a.length=b.length→FC o (a=b∧q)):FC (bif !decide ((a.length:Int)=(b.length:Int))then some false else o) (a=b∧q):=by
 by_cases e:a.length=b.length
 ·rw[Ut.2 e]; exact h e
 ·rw[z9 (by omega)]
  exact⟨false,rfl,⟨(fun h=>nomatch h),fun h=>absurd (congrArg List.length h.1) e⟩⟩
theorem Jk{n:Nat}(hn:n≤1099511627776){a b:List Int}(h:a.length<n):FC (gX n a b) (a=b):=by
 unfold gX; refine(Po fun d=>Mr a b d (fun i x y c e=>⟨_, ?_,decide_eq_true_iff⟩) ?_ h rfl rfl Mq).iff (by simp)
 ·have:=cB c
  simp only[jH,cX c,z16,bW,c,e,z8,aN (show i<4611686018427387904 by omega)]
  exact(Me _ _ _)
 ·simp only[jH,aO,z12]
theorem JG{n:Nat}{t:Int}{b:List Int}{i h:Int}(f:Cur b i)(g:0<t):Gt (aM n t b i h) (fun r=>(0≤r.1∧r.1<t)∧Cur r.2.1 r.2.2.1):=by
 unfold aM; have d:(!decide (t=0))=true:=by rw[z9 (by omega)]; rfl
 refine Gt.cond (fun e=> ?_) (fun _=>Gt.cond (fun e=> ?_) (fun e=> ?_))
 ·have:=Qm e; omega
 ·refine Gt.bind (rL f) fun r ⟨h1,c⟩=>Gt.bind (Wq d) fun _ _=>Gt.pure ⟨⟨z178 _ h1.1,z154 _ g⟩,c⟩
 ·refine Gt.bind (rL f) fun r ⟨h1,c⟩=>Gt.bind (rL c) fun r2 ⟨l,j⟩=>Gt.bind (rL j) fun o ⟨m,k⟩=>Gt.bind (Wq d) fun _ _=>Gt.pure ⟨⟨z178 _ ?_,z154 _ g⟩,k⟩
  rw[wrap_i64 (n:=r.1*65536) (by omega) (by omega),wrap_i64 (n:=r2.1*256) (by omega) (by omega),wrap_i64 (n:=r.1*65536+r2.1*256) (by omega) (by omega),wrap_i64 (by omega) (by omega)]
  omega
structure Vx (a:bM):Prop where
 f0:a.f0.length≤1
 f1:a.f1.length≤2
 f2:bR (.mk a.f2 a.f3 a.f4 a.f5 a.f6)≤4840
theorem Mf{α:Type}{P:α→Prop}{l:List α}{a:α}(h: ∀x∈l,P x)(b:P a): ∀x∈l++[a],P x:=fun x c=>by
 rcases z90.1 c with h1 | h1
 ·exact h x h1
 ·rw[z68.1 h1]; exact b
theorem SN{n:Nat}(hn:20000<n)(d:n≤1099511627776){b:List Int}{i h:Int}(y:Cur b i):Gt (nJ n b i h) (fun r=>(∀a∈r.1,Vx a)∧r.1.length≤3∧Cur r.2.1 r.2.2.1):=by
 unfold nJ; have f: ∀x∈([([102]:List UInt8),([103]:List UInt8),([104]:List UInt8)]:List (List UInt8)),x.length≤1:=by decide
 refine Gt.bind (P:=fun r=>(∀a∈r.2.2.1,Vx a)∧r.2.2.1.length≤3∧Cur r.2.2.2.1 r.2.2.2.2.1) (Gt.loop (fun(m:Nat) (s:Int×(List bM)×(List Int)×Int×Int)=>s.1+m=3∧0≤s.1∧(∀a∈s.2.1,Vx a)∧s.2.1.length+m≤3∧Cur s.2.2.1 s.2.2.2.1) _ (fun m s z=> ?_) (m:=3) ⟨rfl,Vd _,(fun a g=>nomatch g),z36 _,y⟩ (by omega)) fun r p=> ?_
 ·obtain⟨v,w0,D,E,F⟩:=s
  obtain⟨A,u,k,B,l⟩:=z; simp only at A u k B l; unfold pK; refine Gt.cond (fun e=> ?_) (fun e=> ?_)
  ·have e:=Qm e
   obtain⟨j,rfl⟩: ∃j,m=j+1:=⟨m - 1,by omega⟩
   refine Gt.bind (P:=fun r=>(∀a∈r.1,Vx a)∧r.1.length≤w0.length+1∧Cur r.2.2.2.2.2.2.2.2.1 r.2.2.2.2.2.2.2.2.2.1) (Gt.bind (Ny u (by simpa using e)) fun a g=>Gt.cond (fun _=> ?_) (fun _=> ?_)) fun r p=> ?_
   ·refine Gt.bind (JF (K:=2) (by omega) d (by omega) l ⟨by simp,by decide⟩) fun r ⟨h1,c⟩=>Gt.bind (oC (by simp only[z21]; omega) (by omega)) fun q o=>Gt.pure ?_
    subst o; exact⟨Mf k ⟨f a g,by simp,h1⟩,by simp,c⟩
   ·refine Gt.bind (JF (K:=2) (by omega) d (by omega) l ⟨by simp,by decide⟩) fun r ⟨h1,c⟩=>Gt.bind (oC (by simp only[z21]; omega) (by omega)) fun q o=>Gt.pure ?_
    subst o; exact⟨Mf k ⟨f a g,by simp,h1⟩,by simp,c⟩
   ·obtain⟨a0,a1,a2,a3,a4,a5,a6,a7,a8,C,w⟩:=r
    obtain⟨h1,c,t⟩:=p; simp only at h1 c t; refine Gt.pure ⟨j,rfl, ?_, ?_,h1,by simp only; omega,t⟩
    ·show IntKind.wrap .i64 (v+1)+(j:Int)=3
     rw[wrap_i64 (by omega) (by omega)]; omega
    ·show 0≤IntKind.wrap .i64 (v+1)
     rw[wrap_i64 (by omega) (by omega)]; omega
  ·exact Gt.pure ⟨k,by simp only; omega,l⟩
 ·obtain⟨a0,a1,a2,a3,a4,a5⟩:=r
  exact Gt.pure p
def CB(B C:Nat)(r:List aF×List aA):Prop:=r.1.length≤3∧dl wFn r.1≤B∧dl cV r.2≤C
theorem UT{n:Nat}{a:bM}(h:a.f1.length≤2)(hn:10<n):Gt (loopN (gJ n a) n (([]:List Int),(0:Int))) (fun r=>r.1.length=a.f1.length):=by
 refine Gt.list a.f1 (fun i s=>s.2=(i:Int)∧s.1.length=i) _ (fun i x s d c=> ?_) (fun s c=> ?_) ⟨rfl,rfl⟩ (by omega)
 ·obtain⟨w,v⟩:=s
  obtain⟨h1,b⟩:=c; simp only at h1 b; subst h1; have f:=cB d; simp only[gJ,cX d,z16]; refine Gt.bind (oC (by simp only[z21]; omega) (by omega)) fun q e=>Gt.pure ⟨_,rfl,aN (by omega), ?_⟩
  subst e; simp only[z19,z21]; omega
 ·obtain⟨w,v⟩:=s
  obtain⟨h1,b⟩:=c; simp only at h1 b; subst h1; simp only[gJ,aO,z12]; exact Gt.pure ⟨_,rfl,b⟩
theorem LO{n:Nat}(hn:20000<n)(j:n≤1099511627776){fs:List bM}(h: ∀a∈fs,Vx a)(J:fs.length≤3):Gt (jR n fs) (CB 800000 800000):=by
 unfold jR; obtain⟨B,_⟩:=Ix n j; refine Gt.bind (P:=fun r=>CB 800000 800000 (r.2.2.1,r.2.2.2)) (Gt.list fs (fun i s=>s.1=(i:Int)∧s.2.1.length=i∧dl wFn s.2.1≤1+i*250000∧dl cV s.2.2≤1+i*250000) _ (fun i a s b k=> ?_) (fun s k=> ?_) ⟨rfl,rfl,by simp [dl],by simp [dl]⟩ (by omega)) fun r D=> ?_
 ·obtain⟨v,w0,m⟩:=s
  obtain⟨h1,c,d,e⟩:=k; simp only at h1 c d e; subst h1; have I:=cB b; have f:=h a (z25 b); have p:=f.f0; have g:=f.f1; have A:=f.f2; simp only[jG,cX b,z16,bW,b,z8]; have H:dl jX ([]:List aG)=1:=rfl; refine Gt.bind (UT g (by omega)) fun q C=> ?_
  obtain⟨E,L,M⟩:=q; simp only at C; refine Gt.bind (B (.mk a.f2 a.f3 a.f4 a.f5 a.f6) a.f1 E [] m _ 2000000 (by omega) ⟨by omega,by omega,by omega,by omega,by omega⟩) fun r ⟨r1,r2,N⟩=> ?_
  have K:=cK jX r.1; refine Gt.bind (zC (by omega)) fun t ⟨F,G⟩=>Gt.bind (oC (by simp only[z21]; omega) (by omega)) fun u l=>Gt.pure ⟨_,rfl,aN (by omega), ?_, ?_, ?_⟩
  ·subst l; simp only[z19,z21]; omega
  ·subst l
   have o: ∀x y z w,wFn (.mk x y z w)=3+x.length+dl jX w:=fun _ _ _ _=>rfl
   simp only[kG,o,F,Cz,z53]; omega
  ·simp only[G]; omega
 ·obtain⟨v,w0,m⟩:=s
  obtain⟨h1,c,d,e⟩:=k; simp only at h1 c d e; subst h1; simp only[jG,aO,z12]; exact Gt.pure ⟨_,rfl,by simp only; omega,by simp only; omega,by simp only; omega⟩
 ·obtain⟨a0,a1,a2,a3⟩:=r
  exact Gt.pure D
def CD(B C:Nat)(r:List aF×List aA×List Int×Int×Int):Prop:=CB B C (r.1,r.2.1)∧Cur r.2.2.1 r.2.2.2.1
theorem SL{n:Nat}(hn:20000<n)(c:n≤1099511627776){b:List Int}{i h:Int}(f:Cur b i):Gt (nI n b i h) (CD 800000 800000):=by
 unfold nI; exact Gt.bind (SN hn c f) fun r ⟨h1,d,e⟩=>Gt.bind (LO hn c h1 d) fun q g=>Gt.pure ⟨g,e⟩
theorem Hj{n:Nat}(hn:1000000<n)(a:n≤1099511627776){code:List Int}(z:code.length≤1048576):Gt (iC n code) (fun r=>r.length≤100000000∧ ∀x∈r,0≤x∧x<256):=by
 unfold iC; refine Gt.bind (Uw (by omega) code z) fun r B=>Gt.bind (SL (by omega) a B) fun q ⟨⟨u,w,y⟩,m⟩=> ?_
 obtain⟨fs,ps,c,i,h⟩:=q; simp only at u w y m ⊢; obtain⟨b,b1,b2,E⟩:=Mb n a fs ps (by omega) (by omega) (by omega)
 have s:cL n fs ps=some (tY fs ps):=CH n a fs ps (by omega) (by omega) (by omega)
 rw[b1]at s; have d: ∀x∈b,0≤x∧x<256:=by
  rw[z47 s]; exact zL fs ps
 have F:([]:List Int).length=0:=rfl; have f:b.length≤100000000:=by omega
 rw[b2,z8]; refine Gt.cond (fun _=>Gt.pure ⟨f,d⟩) fun e=> ?_
 have e:=RY e; refine Gt.bind (iN m (by omega)) fun r2 ⟨_,o⟩=>Gt.cond (fun _=> ?_) fun _=>Gt.cond (fun _=> ?_) fun _=>Gt.pure ⟨f,d⟩
 ·refine Gt.bind (JG o (by omega)) fun l ⟨⟨t,j⟩,p⟩=>Gt.bind (Gq p (by simp) (by simp)) fun H ⟨D,G⟩=>Gt.bind (Ny t j) fun _ _=>Gt.pure ⟨by rw[z74]; exact f,fun x g=> ?_⟩
  rcases List.mem_or_eq_of_mem_set g with h | rfl
  ·exact d x h
  ·have: ∀v∈([0,1,2,4,24,128]:List Int),0≤IntKind.wrap .u8 v∧IntKind.wrap .u8 v<256:=by decide
   exact this _ D
 ·refine Gt.bind (JG o (by omega)) fun l ⟨⟨t,j⟩,p⟩=> ?_
  obtain⟨k,A⟩: ∃k:Nat,l.1=k:=⟨l.1.toNat,by omega⟩
  rw[A]at j ⊢; have C:sub b none (some (k:Int))=some (b.take k):=TD (by omega)
  rw[C]; exact Gt.pure ⟨by rw[z62]; omega,fun x g=>d x (List.mem_of_mem_take g)⟩
theorem NT(l:List Int):((FN l).2.2=false∧(FN l).1=[])∨((FN l).2.2=true∧wS (FN l).1 (FN l).2.1=true∧tY (FN l).1 (FN l).2.1=l):=by
 unfold FN; cases BW l with
 | none=>exact .inl ⟨rfl,rfl⟩
 | some q=>
  obtain⟨⟨fs,ps⟩,_⟩:=q; simp only; by_cases h1:tY fs ps=[]
  ·rw[z11 h1]; exact .inl ⟨rfl,rfl⟩
  ·by_cases a:tY fs ps=l
   ·rw[z9 h1,z11 a]
    refine .inr ⟨rfl, ?_,a⟩
    simp only[z65,z84,z16]; unfold tY at h1; cases hc:wS fs ps with
    | true=>rfl
    | false=>rw[hc]at h1; exact absurd rfl h1
   ·rw[z9 h1,z9 a]; exact .inl ⟨rfl,rfl⟩
theorem law(a:List Int)(ho:a.length≤maxLen∧ ∀x∈a,IntKind.u8.min≤x∧x≤IntKind.u8.max): ∃n,lL n a=some true:=by
 refine⟨1000000000000, ?_⟩
 generalize q:(1000000000000:Nat)=n; unfold lL wC; by_cases hz:(1048576:Int)<(a.length:Int)
 ·rw[z11 hz]; rfl
 ·rw[z9 hz]
  have hn:n≤1099511627776:=by omega
  obtain⟨l,e,r,j⟩:=Hj (n:=n) (by omega) hn (code:=a) (by omega)
  rw[z8,z12,e,z8]; have H:Hy n l:=⟨by omega,by omega,j⟩
  obtain⟨f,i⟩:=XX H (by omega) hn (by omega)
  have h:=ER H (by omega) hn (by omega)
  have c:=NT l; rw[f,z8,h,z8]; generalize FN l=g at*; obtain⟨fs,ps,s⟩:=g; simp only at c i ⊢; rcases c with⟨rfl,rfl⟩ | ⟨rfl,h1,h2⟩
  ·rfl
  ·have m:=sM n hn fs ps (by omega) (by omega)
   have d:cL n fs ps=some (tY fs ps):=CH n hn fs ps (by omega) (by omega) (by omega)
   obtain⟨t,o,p⟩:=Jk (n:=n) hn (a:=l) (b:=l) (by omega)
   have k:t=true:=p.2 rfl; subst k; rw[h2]at d; simp only[m,h1,d,o,z8,beq_self_eq_true,z38,z12,z16]
end Go.Own.Q
