/- Code out of bytes: what was written is read again. No conditions. -/
import Derived.Test.YtjfgchodolnmcaaGreatW25Q0
set_option linter.unusedVariables false
set_option linter.unusedSimpArgs false
set_option linter.unnecessarySimpa false
namespace Go.Own.Q
open Go Go.Proofs
theorem Mb: ∀(k i acc y:Nat) (rest:List Int),y<128 ^ (k+1)→(i=0∨0<y)→RT (k+1) i acc (Bn k y++rest)=some (acc+y*2 ^ (7*i),(Bn k y).length)
 | k,i,acc,y,rest,hy,hi=>by
  by_cases c:y<128
  ·rw[tN k y c]
   simp only[z84,z76,RT]; have e:(decide ((y:Int)=0)&&decide (0<i))=false:=by
    rcases hi with h | h
    ·subst h; simp
    ·rw[z9 (by omega)]; rfl
   rw[z9 (show ¬ (128:Int)≤(y:Int)by omega),z11,e,z11,z35,z97 c]
   rfl
  ·cases k with
   | zero=>simp only[z28,Nat.pow_one]at hy; omega
   | succ k=>
    rw[Hh k y c]; simp only[z84]; unfold RT; have hy2:y<128 ^ (k+1)*128:=hy; have e:(128+y % 128) % 128=y % 128:=by omega
    rw[z13 (show(128:Int)≤((128+y % 128:Nat):Int)by omega),z15,z35,e,Mb k (i+1) _ (y / 128) rest (Xl (by rw[Ta]; exact hy2)) (.inr (by omega))]
    simp only[z36,z51,z10,z41,Vg]; have p:2 ^ (7*(i+1))=2 ^ (7*i)*128:=by rw[Nat.mul_add,Nat.pow_add]
    rw[p]; generalize 2 ^ (7*i)=q; have h1:y / 128*(q*128)=y / 128*q*128:=(Nat.mul_assoc _ _ _).symm; have h2:(128*(y / 128)+y % 128)*q=128*(y / 128)*q+y % 128*q:=z99 _ _ _; have h3:128*(y / 128)*q=128*(y / 128*q):=Nat.mul_assoc _ _ _; rw[Nat.div_add_mod]at h2; omega
theorem Pw{v:Int}(h:sm v):rQ (zig v).toNat=v:=by
 have e:=WB h; obtain⟨h1,h2⟩:=h; unfold rQ; split at e<;>split<;>omega
theorem YV{v:Int}(h:sm v):mP v=Bn 5 (zig v).toNat∧(zig v).toNat<128 ^ 6:=by
 have e:=WB h; have hx:(zig v).toNat<128 ^ 6:=by
  obtain⟨h1,h2⟩:=h; split at e<;>omega
 unfold mP; rw[Sk h,PV 5 _ hx]; exact⟨rfl,hx⟩
def Nx(l:List Int)(p:Nat)(e:List Int):Prop:= ∃r,l.drop p=e++r
theorem Nx.app{l e f:List Int}{p:Nat}(h:Nx l p (e++f)):Nx l p e∧Nx l (p+e.length) f:=by
 obtain⟨r,h⟩:=h; refine⟨⟨f++r,by rw[h,z56]⟩,r, ?_⟩
 rw[←Td,h,z56,List.drop_left]
theorem Nx.le{l e:List Int}{p:Nat}(h:Nx l p e)(h0:0<e.length):p+e.length≤l.length:=by
 obtain⟨r,h⟩:=h; have:=congrArg List.length h; rw[z77,z17]at this; omega
theorem Ma{l:List Int}{p:Nat}{v:Int}(h:sm v)(hx:Nx l p (mP v)):Xz l p=(v,((p+(mP v).length:Nat):Int),true):=by
 obtain⟨r,hx⟩:=hx; obtain⟨h5,h6⟩:=YV h; unfold Xz; rw[hx,h5,Mb 5 0 0 _ r h6 (.inl rfl)]; have e:0+(zig v).toNat*2 ^ (7*0)=(zig v).toNat:=by simp
 rw[e]; unfold Qk; have hk:okR v=true:=by
  unfold okR; rw[z13 h.1,z13 h.2]; rfl
 simp only[Pw h,hk,z15]
theorem Rn{k m:Int}{s:List UInt8}{ne:Int}(h:KP k m s ne=true):ne≤20:=by
 unfold KP at h; refine pick h (fun _ h=> ?_) fun h=>pick h (fun _ h=> ?_) fun h=>pick h (fun _ h=> ?_) fun h=>pick h (fun _ h=> ?_) fun h=>pick h (fun _ h=> ?_) fun h=>pick h (fun _ h=> ?_) fun h=>pick h (fun _ h=> ?_) fun h=>pick h (fun _ h=> ?_) fun h=>pick h (fun _ h=> ?_) fun h=>by cases h
 all_goals simp only[z7,z23]at h; omega
theorem Rv{sl k m:Int}{s:List UInt8}{ne:Int}(h:Hp sl k m s ne=true):ne≤20:=by
 unfold Hp at h; refine pick h (fun e h=> ?_) (fun h=> ?_)
 ·simp only[z7,z23]at h; omega
 ·simp only[z7]at h
  exact Rn h.2
theorem BP{l:List Int}(hl:l.length<1099511627776)(hb: ∀x∈l,0≤x∧x<256){n:Nat}(hn:10<n){p:Nat}{v:Int}(h:sm v)(hx:Nx l p (mP v)):bU n l (p:Int) false=some (v,l,((p+(mP v).length:Nat):Int),false):=by
 have h0:=dD v; have h1:=hx.le h0.1; unfold bU; rw[yQ n l hn hl hb p (by omega),Ma h hx]
 rfl
theorem OL{l:List Int}(hl:l.length<1099511627776)(hb: ∀x∈l,0≤x∧x<256){n:Nat}(hn:10<n){p:Nat}{s:List UInt8}(h:s.length≤1000000000000)(hx:Nx l p (uJ s)):dV n l (p:Int) false=some (s,l,((p+(uJ s).length:Nat):Int),false):=by
 have h0:=rH s; have h1:=hx.le (by omega)
 obtain⟨x1,x2⟩:=hx.app; have k0:=dD (s.length:Int); have e0:(uJ s).length=(mP (s.length:Int)).length+s.length:=by simp only[uJ,z17,z66]
 unfold dV pJ; rw[yQ n l hn hl hb p (by omega),Ma ⟨by omega,by omega⟩ x1,z8]
 generalize hc:p+(mP (s.length:Int)).length=c at*; have hw:IntKind.wrap .i64 ((l.length:Int) - (c:Int))=(l.length:Int) - (c:Int):=wrap_i64 (by omega) (by omega)
 have hw2:IntKind.wrap .i64 ((c:Int)+(s.length:Int))=((c+s.length:Nat):Int):=by
  rw[wrap_i64 (by omega) (by omega)]; omega
 have hs:=YL l c (c+s.length) (by omega) (by omega)
 have hd:(l.drop c).take (c+s.length - c)=s.map fun c=>((c.toNat:Nat):Int):=by
  obtain⟨r,x2⟩:=x2; rw[x2,show c+s.length - c=(s.map fun c=>((c.toNat:Nat):Int)).length by simp,List.take_left]
 obtain⟨s',s1,s2⟩:=Cj (l:=s.map fun c=>((c.toNat:Nat):Int)) (fun x hx=>by
  obtain⟨c,_,rfl⟩:=z50.1 hx; have:=c.toNat_lt; omega)
 have es:s'=s:=Jc s2; subst es; simp only[hw,hw2,hs,hd,s1,z37,z11,z9 (show ¬ (s'.length:Int)<0 by omega),z9 (show ¬ (l.length:Int) - (c:Int)<(s'.length:Int)by omega),z8]
 rw[e0, ←hc,z81]
theorem LG{l:List Int}(hl:l.length<1099511627776)(hb: ∀x∈l,0≤x∧x<256){n:Nat}(hn:10<n){p k m:Nat}(hk:m≤k)(hm:k≤1000000)(hx:Nx l p (mP (m:Int))):bD n (k:Int) l (p:Int) false=some ((m:Int),l,((p+(mP (m:Int)).length:Nat):Int),false):=by
 unfold bD; rw[BP hl hb hn ⟨by omega,by omega⟩ hx,z8]
 simp only[iR,z8,z13 (show(0:Int)≤(m:Int)by omega),z13 (show(m:Int)≤(k:Int)by omega),z87,z37,z11]
theorem Qu{l:List Int}{α:Type}{e:α→List Int}{xs:List α}{i p:Nat}{a:α}(ha:xs[i]? =some a)(h:Nx l p (xs.flatMap e)):Nx l (p+((xs.take i).flatMap e).length) (e a)∧((xs.take (i+1)).flatMap e).length=((xs.take i).flatMap e).length+(e a).length:=by
 have hi:=bK ha; have e1:xs.flatMap e=(xs.take i).flatMap e++(e a++(xs.drop (i+1)).flatMap e):=by
  have e2:xs=xs.take i++a::xs.drop (i+1):=by
   have e3:a=xs[i]:=by rw[z12 hi]at ha; exact(z46 ha).symm
   rw[e3, ←z89 hi,Xn]
  conv=>lhs; rw[e2]
  rw[List.flatMap_append,Vq]
 rw[e1]at h; refine⟨h.app.2.app.1, ?_⟩
 rw[←tL ha,List.flatMap_append,z17]; simp only[Vq,List.flatMap_nil,z92]
theorem Yj{l:List Int}(hl:l.length<1099511627776)(hb: ∀x∈l,0≤x∧x<256){n:Nat}(hn:10<n){p:Nat}{x:aD}(h:smF x)(hc:x.f3.length≤1500)(hnc:1500<n)(hx:Nx l p (zJ x)):kD n l (p:Int) false=some (x.f0,x.f1,x.f2,x.f3,l,((p+(zJ x).length:Nat):Int),false):=by
 unfold zJ at hx ⊢; obtain⟨h1,hx⟩:=hx.app; obtain⟨h2,hx⟩:=hx.app; obtain⟨h3,hx⟩:=hx.app; obtain⟨h4,h5⟩:=hx.app; unfold kD; rw[OL hl hb hn h.f0 h1,z8]; simp only; rw[BP hl hb hn h.f1 h2,z8]; simp only; rw[BP hl hb hn h.f2 h3,z8]; simp only; have hct:=LG hl hb hn hc (by omega) h4
 have hct:bD n (1500:Int) l _ false=_:=hct; rw[hct,z8]; simp only; generalize hP:p+(uJ x.f0).length+(mP x.f1).length+(mP x.f2).length+(mP (x.f3.length:Int)).length=P at*; obtain⟨r,e,hr⟩:=Gt.list (body:=eW n ((x.f3.length:Int),l,(P:Int),false)) x.f3 (fun i s=>s=((i:Int),x.f0,x.f1,x.f2,x.f3.take i,l,((P+((x.f3.take i).flatMap sK).length:Nat):Int),false)) (fun r=>r=((x.f3.length:Int),x.f0,x.f1,x.f2,x.f3,l,((P+(x.f3.flatMap sK).length:Nat):Int),false)) (fun i a s ha hs=>by
  subst hs; have hi:=bK ha; obtain⟨ha1,ha2⟩:=Qu ha h5; have hI:=h.is a (z20 ha); have ha1:Nx l (P+((x.f3.take i).flatMap sK).length) (mP a.f0++(mP a.f1++(uJ a.f2++mP a.f3))):=ha1; have eI:(sK a).length=(mP a.f0).length+((mP a.f1).length+((uJ a.f2).length+(mP a.f3).length)):=by simp only[sK,z17]
  obtain⟨k1,ha1⟩:=ha1.app; obtain⟨k2,ha1⟩:=ha1.app; obtain⟨k3,k4⟩:=ha1.app; refine⟨.inl (((i+1:Nat):Int),x.f0,x.f1,x.f2,x.f3.take (i+1),l,((P+((x.f3.take (i+1)).flatMap sK).length:Nat):Int),false), ?_,_,rfl,rfl⟩
  simp only[eW,bW ha,z15,z11]; rw[BP hl hb hn hI.f0 k1,z8]; simp only; rw[BP hl hb hn hI.f1 k2,z8]; simp only; rw[OL hl hb hn hI.f2 k3,z8]; simp only; rw[BP hl hb hn hI.f3 k4,z8]; simp only[rI 40 ha (by omega) (by omega),z8,aP (show i<4611686018427387904 by omega),ha2,eI,z81]) (fun s hs=>by
  subst hs; refine⟨_, ?_,_,rfl,rfl⟩
  simp only[eW,aN,z11,z72]) (n:=n) (s:=((0:Int),x.f0,x.f1,x.f2,([]:List aE),l,(P:Int),false)) (by simp) (by omega)
 have e:loopN (eW n ((x.f3.length:Int),l,(P:Int),false)) n ((0:Int),x.f0,x.f1,x.f2,([]:List aE),l,(P:Int),false)=some r:=e; rw[e,hr]; simp only[z8,z17, ←hP,z81]
theorem Ot{l:List Int}(hl:l.length<1099511627776)(hb: ∀x∈l,0≤x∧x<256){n:Nat}(hn:10<n)(hn2:n≤1099511627776): ∀(m:Nat),10<m→m≤n→ ∀(d:Nat) {sl:Int} {x:aA} {p:Nat},d≤10→sl≤400→pok d sl x=true→cB x+20<m→cB x≤1000000000000→Nx l p (kU x)→
  dL m ((11 - d:Nat):Int) l (p:Int) false=some (x.f0,x.f1,x.f2,x.f3,l,((p+(kU x).length:Nat):Int),false)
 | 0,h,_=>by omega
 | m+1,hm,hmn=>by
  intro d sl x p hd q h hw hw1 hx; cases d with
  | zero=>cases h
  | succ d=>
   simp only[pok,z7]at h; obtain⟨x0,x1⟩:=Ud q h.1; have hc:=Rv h.1; rw[yS]at hw hw1; have lx:=bO cB x.f3; rw[Mi]at hx ⊢; obtain⟨h1,hx⟩:=hx.app; obtain⟨h2,hx⟩:=hx.app; obtain⟨h3,hx⟩:=hx.app; obtain⟨h4,h5⟩:=hx.app; have hm2:10<m:=by omega
   rw[vR]; unfold iU; rw[BP hl hb hm2 x0 h1,z8]; simp only; rw[BP hl hb hm2 x1 h2,z8]; simp only; rw[OL hl hb hm2 (by omega) h3,z8,z9 (by omega),z11]
   simp only; have hct:=LG hl hb hm2 (show x.f3.length≤20 by omega) (by omega) h4
   have hct:bD m (20:Int) l _ false=_:=hct; rw[hct,z8]; simp only; generalize hP:p+(mP x.f0).length+(mP x.f1).length+(uJ x.f2).length+(mP (x.f3.length:Int)).length=P at*; have hwr:IntKind.wrap .i64 (((11 - (d+1):Nat):Int)+1)=((11 - d:Nat):Int):=by rw[wrap_i64 (by omega) (by omega)]; omega
   obtain⟨r,e,hr⟩:=Gt.list (body:=fZ m (dL m) ((11 - (d+1):Nat):Int) ((x.f3.length:Int),l,(P:Int),false)) x.f3 (fun i s=>s=((i:Int),x.f0,x.f1,x.f2,x.f3.take i,l,((P+((x.f3.take i).flatMap kU).length:Nat):Int),false)) (fun r=>r=((x.f3.length:Int),x.f0,x.f1,x.f2,x.f3,l,((P+(x.f3.flatMap kU).length:Nat):Int),false)) (fun i a s ha hs=>by
    subst hs; have hi:=bK ha; obtain⟨ha1,ha2⟩:=Qu ha h5; have hd2:=dE cB (z20 ha); have ih:=Ot hl hb hn hn2 m hm2 (by omega) d (by omega) q (z18.1 h.2 a (z20 ha)) (by omega) (by omega) ha1
    refine⟨.inl (((i+1:Nat):Int),x.f0,x.f1,x.f2,x.f3.take (i+1),l,((P+((x.f3.take (i+1)).flatMap kU).length:Nat):Int),false), ?_,_,rfl,rfl⟩
    simp only[fZ,bW ha,z15,z11,hwr,ih,z8,HG,rI 56 ha (by omega) (by omega),aP (show i<4611686018427387904 by omega),ha2,z81]) (fun s hs=>by
    subst hs; refine⟨_, ?_,_,rfl,rfl⟩
    simp only[fZ,aN,z11,z72]) (n:=m) (s:=((0:Int),x.f0,x.f1,x.f2,([]:List aA),l,(P:Int),false)) (by simp) (by omega)
   rw[e,hr]; simp only[z8,z17, ←hP,z81]
theorem Ln{n:Nat}(hn:n≤1099511627776){fs:List aD}{ps:List aA}(hr:(xT fs ps&&ps.all (wG 400))=true)(hF: ∀f∈fs,smF f∧f.f3.length≤1500)(l1:fs.length≤12)(l2:ps.length≤2000)(w1:dl wFn fs+4000<n)(w2:dl cB ps+4000<n)(hs:40*dl wFn fs+40*dl cB ps≤300000000000)(hP: ∀x∈ps,pok 10 400 x=true∧cB x≤1000000000000)(hl:(nD fs ps).length<1099511627776):
  mM n (nD fs ps)=some (fs,ps,true):=by
 have hput:=Ml n hn fs ps (by omega) (by omega) hs
 rw[hr,z15]at hput; have hbyte:=Ps fs ps; have hb: ∀x∈nD fs ps,0≤x∧x<256:=by
  unfold putB at hbyte; rw[hr,z15]at hbyte; exact hbyte
 have hpos:0<(nD fs ps).length:=by
  have:=dD (fs.length:Int); simp only[nD,z17]; omega
 obtain⟨l,hL⟩: ∃l,l=nD fs ps:=⟨_,rfl⟩; have hx:Nx l 0 (nD fs ps):=⟨[],by rw[hL]; simp⟩
 rw[←hL]at hput hb hpos hl ⊢; unfold nD at hx; obtain⟨h1,hx⟩:=hx.app; obtain⟨h2,hx⟩:=hx.app; obtain⟨h3,h4⟩:=hx.app; have hn1:10<n:=by omega
 unfold mM; have c1:=LG hl hb hn1 l1 (by omega) h1
 have c1:bD n (12:Int) l (0:Int) false=_:=c1; rw[c1,z8]; simp only; generalize hA:0+(mP (fs.length:Int)).length=A at*; obtain⟨r,e,hr1⟩:=Gt.list (body:=jD n ((fs.length:Int),l,(A:Int),false)) fs (fun i s=>s=((i:Int),l,((A+((fs.take i).flatMap zJ).length:Nat):Int),false,fs.take i,[])) (fun r=>r=((fs.length:Int),false,l,((A+(fs.flatMap zJ).length:Nat):Int),false,fs,[])) (fun i a s ha hs=>by
  subst hs; have hi:=bK ha; obtain⟨ha1,ha2⟩:=Qu ha h2; obtain⟨f1,f2⟩:=hF a (z20 ha); have ih:=Yj hl hb hn1 f1 f2 (by omega) ha1
  refine⟨.inl (((i+1:Nat):Int),l,((A+((fs.take (i+1)).flatMap zJ).length:Nat):Int),false,fs.take (i+1),[]), ?_,_,rfl,rfl⟩
  simp only[jD,bW ha,z15,ih,z8,TU,rI 56 ha (by omega) (by omega),aP (show i<4611686018427387904 by omega),ha2,z81]) (fun s hs=>by
  subst hs; refine⟨_, ?_,_,rfl,rfl⟩
  simp only[jD,aN,z11,z72]) (n:=n) (s:=((0:Int),l,(A:Int),false,([]:List aD),([]:List aA))) (by simp) (by omega)
 rw[e,hr1]; simp only[z8]; have c2:=LG hl hb hn1 l2 (by omega) h3
 have c2:bD n (2000:Int) l _ false=_:=c2; rw[c2,z8]; simp only; generalize hB:A+(fs.flatMap zJ).length+(mP (ps.length:Int)).length=B at*; obtain⟨r,e,hr2⟩:=Gt.list (body:=jC n ((ps.length:Int),l,(B:Int),false)) ps (fun i s=>s=((i:Int),l,((B+((ps.take i).flatMap kU).length:Nat):Int),false,fs,ps.take i)) (fun r=>r=((ps.length:Int),l,((B+(ps.flatMap kU).length:Nat):Int),false,fs,ps)) (fun i a s ha hs=>by
  subst hs; have hi:=bK ha; obtain⟨ha1,ha2⟩:=Qu ha h4; obtain⟨f1,f2⟩:=hP a (z20 ha); have hd2:=dE cB (z20 ha); have ih:=Ot hl hb hn1 hn n hn1 (z39 _) 10 (sl:=400) (by omega) (by omega) f1 (by omega) f2 ha1
  have ih:dL n (1:Int) l _ false=_:=ih; refine⟨.inl (((i+1:Nat):Int),l,((B+((ps.take (i+1)).flatMap kU).length:Nat):Int),false,fs,ps.take (i+1)), ?_,_,rfl,rfl⟩
  simp only[jC,bW ha,z15,z11,ih,z8,HG,rI 56 ha (by omega) (by omega),aP (show i<4611686018427387904 by omega),ha2,z81]) (fun s hs=>by
  subst hs; refine⟨_, ?_,_,rfl,rfl⟩
  simp only[jC,aN,z11,z72]) (n:=n) (s:=((0:Int),l,(B:Int),false,fs,([]:List aA))) (by simp) (by omega)
 rw[e,hr2]; have hq:oA n l l=some true:=by
  unfold oA; rw[Yn l l hb hb,z13 rfl]
 simp only[z8,z11,hput,hq,z9 (show ¬ (l.length:Int)=0 by omega),z37]
theorem Sj{fs:List aD}{ps:List aA}(h:xT fs ps=true)(hw:dl wFn fs≤1000000000000):fs.length≤12∧ps.length≤2000∧ ∀f∈fs,smF f∧f.f3.length≤1500:=by
 unfold xT at h; simp only[z7,z38,z43,z48]at h; obtain⟨⟨h1,h2⟩,h3⟩:=h; refine⟨by omega,by omega,fun f hm=> ?_⟩
 have key: ∀f∈fs,fnI fs ps f=true:=fun f hm=>by
  obtain⟨k,hk⟩:=z60 hm
  have:=(oV _ fs 0).1 h3 k f hk; simp only[z7]at this; exact this.2
 have hm2:=dE wFn hm; rw[Dt]at hm2; have hl:=bO iP f.f3; have hk:=key f hm; unfold fnI zF at hk; simp only[z7,z23]at hk; obtain⟨⟨_,⟨p1,p2⟩,⟨p3,p4⟩,p5,p6⟩,p7,_⟩:=hk; refine⟨⟨by omega,sW (by omega) (by omega),sW (by omega) (by omega),by omega,fun i hi=> ?_⟩,by omega⟩
 have hi2:=dE iP hi; rw[CW]at hi2; refine VE (fun f hf=>Mc (key f hf)) (by omega) p4 (by omega) (fun e=> ?_) (by omega) (z18.1 p7 i hi)
 unfold toI at e; simp only[z7,z23]at e; have:=e.2; rw[wrap_i64 (by omega) (by omega)]at this
 exact sW (by omega) (by omega)
theorem VL{ps:List aA}(h:ps.all (wG 400)=true)(hw:dl cB ps≤1000000000000): ∀x∈ps,pok 10 400 x=true∧cB x≤1000000000000:=fun x hx=>by
 have h1:=z18.1 h x hx; unfold wG at h1; simp only[z7]at h1; have:=dE cB hx; exact⟨h1.2.1.1,by omega⟩
theorem law(a:List Int)(ho:a.length≤maxLen∧ ∀x∈a,IntKind.u8.min≤x∧x≤IntKind.u8.max): ∃n,kN n a=some true:=by
 refine⟨1000000000000, ?_⟩
 generalize hN:(1000000000000:Nat)=n; unfold kN xA; by_cases hz:(1048576:Int)<(a.length:Int)
 ·rw[z13 hz]; rfl
 ·rw[z9 hz]
  have hn:n≤1099511627776:=by omega
  have hd:Gt (iH n a) (CB 2400010 2400010):=by
   unfold iH; exact Gt.bind (Uy (by omega) a (by omega)) fun r hr=>Gt.bind (Ux (by omega) hn hr) fun r2 ⟨h1,_⟩=>Gt.pure h1
  obtain⟨r,e,h1,h2,h3⟩:=hd; rw[z8,z11,e,z8]; obtain⟨fs,ps⟩:=r; simp only at h1 h2 h3 ⊢; obtain⟨b,b1,b2,b3⟩:=Si n hn fs ps (by omega) (by omega) (by omega)
  have k1:=Ml n hn fs ps (by omega) (by omega) (by omega)
  rw[b1]at k1; have k1:=z46 k1; have s1:=yN n hn fs ps (by omega) (by omega)
  have i1:=sZ n hn fs ps (by omega) (by omega)
  obtain⟨t,t1,t2⟩:=DD (n:=n) hn (fs:=fs) (gs:=fs) (ps:=ps) (qs:=ps) (by omega) (by omega)
  have ht:t=true:=t2.2 ⟨rfl,rfl⟩; subst ht; have e0:([]:List Int).length=0:=rfl; simp only[b1,b2,z8,decide_true,z37,z11]; cases c1:xT fs ps&&ps.all (wG 400)with
  | false=>
   rw[c1,z11]at k1; subst k1; rw[z13 (by simp),z15,s1]
   cases c2:xT fs ps with
   | false=>rfl
   | true=>
    rw[c2,z32]at c1; cases ps with
    | nil=>cases c1
    | cons x r=>
     simp only[z8,z37,z11,z51]; rw[z13 (by omega)]
  | true=>
   rw[c1,z15]at k1; have c3:=c1; simp only[z7]at c3; obtain⟨m1,m2,m3⟩:=Sj c3.1 (by omega)
   have hl:(nD fs ps).length<1099511627776:=by rw[←k1]; omega
   have hg:=Ln (n:=n) hn c1 m3 m1 m2 (by omega) (by omega) (by omega) (VL c3.2 (by omega)) hl
   have hpos:0<(nD fs ps).length:=by
    have:=dD (fs.length:Int); simp only[nD,z17]; omega
   rw[←k1]at hg hpos; rw[z9 (by omega),z11,hg]
   simp only[z8,z15,t1,i1,c3.1]
end Go.Own.Q
