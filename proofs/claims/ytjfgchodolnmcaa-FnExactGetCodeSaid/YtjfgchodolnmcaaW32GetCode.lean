/- Code out of bytes: both sides answer alike. No conditions. -/
import Derived.Test.YtjfgchodolnmcaaW32GetPat
set_option linter.unusedVariables false
set_option linter.unusedSimpArgs false
set_option linter.unnecessarySimpa false
namespace Go.Own.Q
open Go Go.Proofs

def Al(l:List Int):Option ((List aB×List aA)×Nat):=(ctX l 12 0).bind fun n=>(many (fnX l) n.1.toNat n.2).bind fun fs=>(ctX l 2000 fs.2).bind fun m=>(many (qD l 10) m.1.toNat m.2).map fun ps=>((fs.1,ps.1),ps.2)
theorem OB{l:List Int}(hl:l.length<1099511627776)(hb: ∀x∈l,0≤x∧x<256){fs:List aB}{ps:List aA}{a:Nat}(h:Al l=some ((fs,ps),a)):Seg l 0 a (Ab fs ps)∧fs.length≤12∧ps.length≤2000:=by
 unfold Al at h
 rw[qK]at h
 obtain⟨q1,h1,h⟩:=Option.bind_eq_some_iff.1 h
 split at h
 ·rename_i hr
  obtain⟨q2,h2,h⟩:=Option.bind_eq_some_iff.1 h
  rw[qK]at h
  obtain⟨q3,h3,h⟩:=Option.bind_eq_some_iff.1 h
  split at h
  ·rename_i hr2
   obtain⟨q4,h4,h⟩:=Option.map_eq_some_iff.1 h
   cases h
   have g1:=qY hl hb (Nat.zero_le _) h1
   obtain⟨g2,k2⟩:=Seg.many (TU hl hb) _ _ _ _ g1.2.1 h2
   have g3:=qY hl hb g2.2.1 h3
   obtain⟨g4,k4⟩:=Seg.many (LA hl hb 10) _ _ _ _ g3.2.1 h4
   have e1:(q2.1.length:Int)=q1.1:=by omega
   have e2:(q4.1.length:Int)=q3.1:=by omega
   have:=g1.app (g2.app (g3.app g4))
   rw[←e1, ←e2]at this
   exact⟨this,by omega,by omega⟩
  ·cases h
 ·cases h
theorem MO{n:Nat}{l:List Int}(H:Hy n l)(c:Nat)(hc:c≤12)(a4:Int)(b4:Bool)(p:Nat)(hp:p≤l.length)(bad:Bool):
  ∃(j:Int) (j':Bool) (xs:List aB) (a:Nat) (b:Bool),loopN (cR n ((c:Int),l,a4,b4)) n ((0:Int),l,(p:Int),bad,([]:List aB),([]:List aA))=some (j,j',l,(a:Int),b,xs,[])∧Ans (many (fnX l) c p) p l.length bad False (a - p) xs a b∧(b=false→dl wFn xs≤1+2*(a - p)):=by
 have hn:=H.n0
 have step: ∀(i:Nat) (acc:List aB) (q:Nat) (bad:Bool),i<c→acc.length=i→q≤l.length→ ∃(x:aB) (a:Nat) (b:Bool) (m:Nat),cR n ((c:Int),l,a4,b4) ((i:Int),l,(q:Int),bad,acc,([]:List aA))=some (.inl (((i+1:Nat):Int),l,(a:Int),b,acc++[x],[]))∧Ans (fnX l q) q l.length bad False m x a b∧(b=false→wFn x+1≤2*m):=fun i acc q bad hi hl hq=>by
  obtain⟨x,a,b,m,k,hx,hw⟩:=QV H q hq bad
  refine⟨x,a,b,m, ?_,hx,hw⟩
  have hd:decide ((i:Int)<(c:Int))=true:=decide_eq_true (by omega)
  simp only[cR,hd,cond_true,k,Option.bind_some,qS,xM 56 acc _ (by omega) (by omega),aI (show i<4611686018427387904 by omega)]
 obtain⟨r,xs,a,b,e5,o5,h5,w5⟩:=kX (body:=cR n ((c:Int),l,a4,b4)) (fun i acc q b=>((i:Int),l,(q:Int),b,acc,([]:List aA))) (fun acc a b r=> ∃j j',r=(j,j',l,(a:Int),b,acc,([]:List aA))) (fnX l) wFn (fun _=>False) (c:=c) (L:=l.length)
  (fun i acc q hi hl hq=>step i acc q false hi hl hq)
  (fun i acc q hi hl hq=>by
   by_cases hd:i<c
   ·obtain⟨x,a,b,m,k,hx,hw⟩:=step i acc q true hd hl hq
    obtain rfl:=hx.2.2.1 rfl
    exact .inr ⟨hd,x,a,hx.1,hx.2.1,k⟩
   ·refine .inl ?_
    simp only[cR,decide_eq_false (show ¬ (i:Int)<(c:Int)by omega),cond_false]
    exact⟨_,rfl,_,_,rfl⟩)
  (fun acc q hl hq=>by
   simp only[cR,aK,cond_false]
   exact⟨_,rfl,_,_,rfl⟩) p bad n hp (by omega)
 obtain⟨j,j',rfl⟩:=o5
 exact⟨j,j',xs,a,b,e5,h5.ill fun⟨_,_,h⟩=>h,fun h=>(w5 h).2⟩
theorem Jb{n:Nat}{l:List Int}(H:Hy n l)(h2:2200<n)(fs:List aB)(c:Nat)(hc:c≤2000)(a4:Int)(b4:Bool)(p:Nat)(hp:p≤l.length)(bad:Bool):
  ∃(j:Int) (xs:List aA) (a:Nat) (b:Bool),loopN (dL n ((c:Int),l,a4,b4)) n ((0:Int),l,(p:Int),bad,fs,([]:List aA))=some (j,l,(a:Int),b,fs,xs)∧Ans (many (qD l 10) c p) p l.length bad False (a - p) xs a b∧(b=false→dl bV xs≤1+2*(a - p)):=by
 have hn:=H.n0
 obtain⟨r,xs,a,b,e5,o5,h5,w5⟩:=kX (body:=dL n ((c:Int),l,a4,b4)) (fun i acc q b=>((i:Int),l,(q:Int),b,fs,acc)) (fun acc a b r=> ∃j,r=(j,l,(a:Int),b,fs,acc)) (qD l 10) bV (fun _=>False) (c:=c) (L:=l.length)
  (fun i acc q hi hl hq=>by
   obtain⟨x,a,b,m,k,hx,hw⟩:=Ih 10 n l H (by omega) (by omega) q hq false
   refine⟨x,a,b,m, ?_,hx,hw⟩
   have hd:decide ((i:Int)<(c:Int))=true:=decide_eq_true (by omega)
   have k:bB n (1:Int) l (q:Int) false=_:=k
   simp only[dL,hd,cond_true,cond_false,k,Option.bind_some,kK,xM 56 acc _ (by omega) (by omega),aI (show i<4611686018427387904 by omega)])
  (fun i acc q hi hl hq=> .inl (by
   simp only[dL]
   cases decide ((i:Int)<(c:Int))<;>exact⟨_,rfl,_,rfl⟩))
  (fun acc q hl hq=>by
   simp only[dL,aK,cond_false]
   exact⟨_,rfl,_,rfl⟩) p bad n hp (by omega)
 obtain⟨j,rfl⟩:=o5
 exact⟨j,xs,a,b,e5,h5.ill fun⟨_,_,h⟩=>h,fun h=>(w5 h).2⟩
theorem MN{n:Nat}{l:List Int}(H:Hy n l)(v:Int)(c:Nat)(hc:c=(min v 13).toNat)(a4:Int)(b4:Bool)(p:Nat)(hp:p≤l.length)(bad:Bool):
  ∃(j:Int) (j':Bool) (xs:List aB) (a:Nat) (b:Bool),loopN (dJ n (v,l,a4,b4)) n ((0:Int),([]:List aB),([]:List aA),l,(p:Int),bad)=some (j,j',xs,[],l,(a:Int),b)∧Ans (many (fnX l) c p) p l.length bad (∃x∈xs,PG x) (a - p) xs a b∧(b=false→xs.length=c∧dl wFn xs≤1+2*(a - p)):=by
 have hn:=H.n0
 obtain⟨r,xs,a,b,e5,o5,h5,w5⟩:=kX (body:=dJ n (v,l,a4,b4)) (fun i acc q b=>((i:Int),acc,([]:List aA),l,(q:Int),b)) (fun acc a b r=> ∃j j',r=(j,j',acc,([]:List aA),l,(a:Int),b)) (fnX l) wFn PG (c:=c) (L:=l.length)
  (fun i acc q hi hl hq=>by
   obtain⟨x,a,b,m,k,hx,hw⟩:=QT H q hq false
   refine⟨x,a,b,m, ?_,hx,hw⟩
   have hd:decide ((i:Int)<v)=true:=decide_eq_true (by omega)
   have hd2:decide ((i:Int)<13)=true:=decide_eq_true (by omega)
   simp only[dJ,hd,hd2,cond_true,Bool.not_false,k,Option.bind_some,qS,xM 56 acc _ (by omega) (by omega),aI (show i<4611686018427387904 by omega)])
  (fun i acc q hi hl hq=> .inl (by
   simp only[dJ]
   cases decide ((i:Int)<v)<;>cases decide ((i:Int)<13)<;>exact⟨_,rfl,_,_,rfl⟩))
  (fun acc q hl hq=>by
   simp only[dJ]
   by_cases hd:(c:Int)<v
   ·rw[decide_eq_false (show ¬ (c:Int)<13 by omega)]
    cases decide ((c:Int)<v)<;>exact⟨_,rfl,_,_,rfl⟩
   ·rw[decide_eq_false hd]
    exact⟨_,rfl,_,_,rfl⟩) p bad n hp (by omega)
 obtain⟨j,j',rfl⟩:=o5
 exact⟨j,j',xs,a,b,e5,h5,w5⟩
theorem Ja{n:Nat}{l:List Int}(H:Hy n l)(h2:2200<n)(fs:List aB)(v:Int)(c:Nat)(hc:c=(min v 2001).toNat)(a4:Int)(b4:Bool)(p:Nat)(hp:p≤l.length)(bad:Bool):
  ∃(j:Int) (j':Bool) (xs:List aA) (a:Nat) (b:Bool),loopN (dI n (v,l,a4,b4)) n ((0:Int),fs,([]:List aA),l,(p:Int),bad)=some (j,j',fs,xs,l,(a:Int),b)∧Ans (many (qD l 10) c p) p l.length bad False (a - p) xs a b∧(b=false→xs.length=c∧dl bV xs≤1+2*(a - p)):=by
 have hn:=H.n0
 obtain⟨r,xs,a,b,e5,o5,h5,w5⟩:=kX (body:=dI n (v,l,a4,b4)) (fun i acc q b=>((i:Int),fs,acc,l,(q:Int),b)) (fun acc a b r=> ∃j j',r=(j,j',fs,acc,l,(a:Int),b)) (qD l 10) bV (fun _=>False) (c:=c) (L:=l.length)
  (fun i acc q hi hl hq=>by
   obtain⟨x,a,b,m,k,hx,hw⟩:=Ig 10 n l H (by omega) (by omega) q hq false
   refine⟨x,a,b,m, ?_,hx,hw⟩
   have hd:decide ((i:Int)<v)=true:=decide_eq_true (by omega)
   have hd2:decide ((i:Int)<2001)=true:=decide_eq_true (by omega)
   have k:bU n (10:Int) l (q:Int) false=_:=k
   simp only[dI,hd,hd2,cond_true,Bool.not_false,k,Option.bind_some,kK,xM 56 acc _ (by omega) (by omega),aI (show i<4611686018427387904 by omega)])
  (fun i acc q hi hl hq=> .inl (by
   simp only[dI]
   cases decide ((i:Int)<v)<;>cases decide ((i:Int)<2001)<;>exact⟨_,rfl,_,_,rfl⟩))
  (fun acc q hl hq=>by
   simp only[dI]
   by_cases hd:(c:Int)<v
   ·rw[decide_eq_false (show ¬ (c:Int)<2001 by omega)]
    cases decide ((c:Int)<v)<;>exact⟨_,rfl,_,_,rfl⟩
   ·rw[decide_eq_false hd]
    exact⟨_,rfl,_,_,rfl⟩) p bad n hp (by omega)
 obtain⟨j,j',rfl⟩:=o5
 exact⟨j,j',xs,a,b,e5,h5.ill fun⟨_,_,h⟩=>h,w5⟩
/-- The bytes that code which is right has. -/
def uT(fs:List aB)(ps:List aA):List Int:=bif wK fs ps&&ps.all (uV 400)then Ab fs ps else []
theorem Fi: ∀ {a b:List Int} {s:List UInt8},lU a=some s→lU b=some s→a=b
 | [],[],s,_,_=>rfl
 | [],y::b,s,h1,h2=>by
  cases h1
  simp only[lU]at h2
  split at h2
  ·obtain⟨t,_,ht⟩:=Option.map_eq_some_iff.1 h2
   cases ht
  ·cases h2
 | x::a,[],s,h1,h2=>by
  cases h2
  simp only[lU]at h1
  split at h1
  ·obtain⟨t,_,ht⟩:=Option.map_eq_some_iff.1 h1
   cases ht
  ·cases h1
 | x::a,y::b,s,h1,h2=>by
  simp only[lU]at h1 h2
  split at h1
  ·rename_i hx
   split at h2
   ·rename_i hy
    obtain⟨t,ht,rfl⟩:=Option.map_eq_some_iff.1 h1
    obtain⟨u,hu,he⟩:=Option.map_eq_some_iff.1 h2
    simp only[List.cons.injEq]at he
    obtain⟨he,rfl⟩:=he
    have:=Fi ht hu
    subst this
    have:=congrArg UInt8.toNat he
    simp only[UInt8.toNat_ofNat']at this
    congr 1; omega
   ·cases h2
  ·cases h1
theorem GT: ∀(k x:Nat),x<128 ^ (k+1)→ ∀e∈AU k x,0≤e∧e<256
 | 0,x,h,e,he=>by
  simp only[AU,List.mem_singleton]at he
  subst he
  simp only[Nat.zero_add,Nat.pow_one]at h; omega
 | k+1,x,h,e,he=>by
  unfold AU at he
  split at he
  ·simp only[List.mem_singleton]at he; omega
  ·rcases List.mem_cons.1 he with rfl | he
   ·have:=Nat.mod_lt x (show 0<128 by omega); omega
   ·refine GT k (x / 128) ?_ e he
    rw[Nat.pow_succ]at h
    exact Nat.div_lt_of_lt_mul (by rw[Nat.mul_comm]; exact h)
theorem iC(v:Int): ∀e∈qE v,0≤e∧e<256:=by
 have hc:=BK v
 have hz:=KP hc.1 hc.2
 exact GT 6 _ (by omega)
theorem xO(s:List UInt8): ∀e∈yN s,0≤e∧e<256:=fun e he=>by
 rcases List.mem_append.1 he with h | h
 ·exact iC _ e h
 ·obtain⟨c,_,rfl⟩:=List.mem_map.1 h
  have:=c.toNat_lt; omega
theorem hH{a b:List Int}(ha: ∀e∈a,0≤e∧e<256)(hb: ∀e∈b,0≤e∧e<256): ∀e∈a++b,0≤e∧e<256:=fun e he=>(List.mem_append.1 he).elim (ha e) (hb e)
theorem HW{α:Type}{f:α→List Int}(l:List α)(h: ∀a, ∀e∈f a,0≤e∧e<256): ∀e∈l.flatMap f,0≤e∧e<256:=fun e he=>by
 obtain⟨a,_,h2⟩:=List.mem_flatMap.1 he
 exact h a e h2
mutual
theorem Bg: ∀(a:aA), ∀e∈nZ a,0≤e∧e<256
 | .mk a b s l=>hH (iC _) (hH (iC _) (hH (xO _) (hH (iC _) (yV l))))
theorem yV: ∀(l:List aA), ∀e∈qA l,0≤e∧e<256
 | []=>fun e he=>by cases he
 | x::r=>hH (Bg x) (yV r)
end
theorem Ap(fs:List aB)(ps:List aA): ∀e∈uT fs ps,0≤e∧e<256:=by
 unfold uT
 cases wK fs ps&&ps.all (uV 400)with
 | false=>intro e he; cases he
 | true=>exact hH (iC _) (hH (HW _ fun f=>hH (xO _) (hH (iC _) (hH (iC _) (hH (iC _) (HW _ fun x=>hH (iC _) (hH (iC _) (hH (xO _) (iC _)))))))) (hH (iC _) (HW _ Bg)))
theorem NU{fs:List aB}{ps:List aA}(h:12<fs.length∨2000<ps.length∨ ∃f∈fs,PG f):uT fs ps=[]:=by
 have hc:wK fs ps=false:=by
  unfold wK
  rcases h with h | h | ⟨f,hf,h⟩
  ·rw[decide_eq_true (show(12:Int)<(fs.length:Int)by omega)]; rfl
  ·rw[decide_eq_true (show(2000:Int)<(ps.length:Int)by omega),Bool.or_true]; rfl
  ·cases hA:rE (fun j f=>decide (mE fs f.f0=(j:Int))&&fnI fs ps f) 0 fs with
   | false=>rw[Bool.and_false]
   | true=>
    obtain⟨j,hj⟩:=List.mem_iff_getElem?.1 hf
    have:=(lX _ _ _).1 hA j f hj
    simp only[Bool.and_eq_true,fnI,uJ,decide_eq_true_eq]at this
    exact absurd ⟨by omega,by omega⟩ h
 unfold uT
 rw[hc]; rfl
/-- The bytes are compared. -/
theorem Om(a b:List Int)(ha: ∀e∈a,0≤e∧e<256)(hb: ∀e∈b,0≤e∧e<256):((lU a).bind fun v=>(lU b).bind fun w=>some (decide (v=w)))=some (decide (a=b)):=by
 obtain⟨s,s1,s2⟩:=rX ha
 obtain⟨t,t1,t2⟩:=rX hb
 rw[s1,t1,Option.bind_some,Option.bind_some]
 congr 1
 refine decide_eq_decide.2 ⟨fun h=> ?_,fun h=> ?_⟩
 ·subst h; exact Fi s1 t1
 ·subst h; rw[s1]at t1; cases t1; rfl
/-- What both answer. -/
def Mc(l:List Int):List aB×List aA×Bool:=match Al l with
 | some (c,_)=>bif !decide (uT c.1 c.2=[])&&decide (uT c.1 c.2=l)then(c.1,c.2,true)else([],[],false)
 | none=>([],[],false)
theorem TR{n:Nat}{l:List Int}(H:Hy n l)(h2:2*l.length+3000<n)(h3:n≤1099511627776)(h4:l.length≤1048576):iV n l=some (Mc l)∧(dl wFn (Mc l).1+dl bV (Mc l).2.1≤2*l.length+2):=by
 obtain⟨v1,a1,b1,e1,h1,_,c1⟩:=rT H 12 0 (Nat.zero_le _) false
 obtain⟨j,j',fs,a2,b2,e2,k2,w2⟩:=MO H v1 c1 (a1:Int) b1 a1 h1.2.1 b1
 obtain⟨v3,a3,b3,e3,k3,_,c3⟩:=rT H 2000 a2 k2.2.1 b2
 obtain⟨i,ps,a4,b4,e4,k4,w4⟩:=Jb H (by omega) fs v3 c3 (a3:Int) b3 a3 k3.2.1 b3
 have e1:aT n (12:Int) l (0:Int) false=some ((v1:Int),l,(a1:Int),b1):=e1
 have e3:aT n (2000:Int) l (a2:Int) b2=some ((v3:Int),l,(a3:Int),b3):=e3
 have g4:=k4.map (fun e=>(fs,e))
 have g3:=Ans.bind (Y:=fun(m:Int) q=>(many (qD l 10) m.toNat q).map fun ps=>((fs,ps.1),ps.2)) k3 g4
 have g2:=Ans.bind (Y:=fun fs q=>(ctX l 2000 q).bind fun m=>(many (qD l 10) m.1.toNat m.2).map fun ps=>((fs,ps.1),ps.2)) k2 g3
 have g1:Ans (Al l) 0 l.length false False _ (fs,ps) a4 b4:=Ans.bind (β:=List aB×List aA) (Y:=fun(n:Int) q=>(many (fnX l) n.toNat q).bind fun(fs:List aB×Nat)=>(ctX l 2000 fs.2).bind fun m=>(many (qD l 10) m.1.toNat m.2).map fun(ps:List aA×Nat)=>((fs.1,ps.1),ps.2)) h1 g2
 unfold iV
 simp only[e1,e2,e3,e4,Option.bind_some]
 unfold Mc
 cases hX:Al l with
 | none=>
  have hb:b4=true:=by
   rcases g1.2.2.2.2.2 rfl hX with h | h
   ·exact h
   ·exact h.elim
  subst hb
  exact⟨rfl,by simp only[dl]; omega⟩
 | some q=>
  obtain⟨⟨fs',ps'⟩,a'⟩:=q
  obtain⟨r1,rfl,rfl⟩:=g1.2.2.2.2.1 _ rfl hX
  cases r1
  have hb3:b3=false:=by
   cases hb:b3 with
   | false=>rfl
   | true=>exact absurd (k4.2.2.1 hb) (by simp)
  have hb2:b2=false:=by
   cases hb:b2 with
   | false=>rfl
   | true=>rw[k3.2.2.1 hb]at hb3; cases hb3
  have w2:=w2 hb2
  have w4:=w4 rfl
  have u1:=h1.1
  have u2:=k2.1
  have u3:=k3.1
  have u4:=k4.1
  have u5:=k4.2.1
  have hp:=JE n h3 fs ps (by omega) (by omega) (by omega)
  have hp:dU n fs ps=some (uT fs ps):=hp
  simp only[hp,Option.bind_some,cond_false]
  have hcmp:nN n (uT fs ps) l=some (decide (uT fs ps=l)):=Om _ _ (Ap fs ps) H.hb
  rw[hcmp]
  by_cases hz:uT fs ps=[]
  ·rw[decide_eq_true (show((uT fs ps).length:Int)=0 by rw[hz]; rfl),decide_eq_true hz]
   exact⟨rfl,by simp only[cond_true,Option.bind_some,Bool.not_true,Bool.false_and,cond_false,dl]; omega⟩
  ·have hz2: ¬ ((uT fs ps).length:Int)=0:=fun h=>hz (List.length_eq_zero_iff.1 (by omega))
   rw[decide_eq_false hz2,decide_eq_false hz]
   cases decide (uT fs ps=l)with
   | false=>exact⟨rfl,by simp only[Bool.not_false,Bool.and_false,cond_false,dl]; omega⟩
   | true=>exact⟨rfl,by simp only[Bool.not_false,Bool.and_true,cond_true]; omega⟩
theorem Bq{n:Nat}{l:List Int}(H:Hy n l)(h2:2*l.length+3000<n)(h3:n≤1099511627776)(h4:l.length≤1048576):kE n l=some (Mc l):=by
 obtain⟨v1,a1,b1,_,e1,h1,_⟩:=fE H 0 (Nat.zero_le _) false
 obtain⟨j,j',fs,a2,b2,e2,k2,w2⟩:=MN H v1 _ rfl (a1:Int) b1 a1 h1.2.1 b1
 obtain⟨v3,a3,b3,_,e3,k3,_⟩:=fE H a2 k2.2.1 b2
 obtain⟨i,i',ps,a4,b4,e4,k4,w4⟩:=Ja H (by omega) fs v3 _ rfl (a3:Int) b3 a3 k3.2.1 b3
 have e1:aX n l (0:Int) false=some (v1,l,(a1:Int),b1):=e1
 have back: ∀ {x y:Bool},(x=true→y=true)→y=false→x=false:=fun {x y} h hy=>by
  cases x with
  | false=>rfl
  | true=>rw[h rfl]at hy; cases hy
 /- what is not right -/
 let ill:Prop:=v1≠(fs.length:Int)∨v3≠(ps.length:Int)∨12<fs.length∨2000<ps.length∨ ∃f∈fs,PG f
 have g4:Ans (if 0≤v3∧v3≤((2000:Nat):Int)then(many (qD l 10) v3.toNat a3).map fun ps=>((fs,ps.1),ps.2)else none) a3 l.length b3 ill (a4 - a3) (fs,ps) a4 b4:=by
  by_cases hv:0≤v3∧v3≤((2000:Nat):Int)
  ·rw[if_pos hv]
   have e:v3.toNat=(min v3 2001).toNat:=by omega
   rw[e]
   exact(k4.map (fun e=>(fs,e))).ill (fun h=>h.elim)
  ·rw[if_neg hv]
   obtain⟨p1,p2,p3,p4,p5,p6⟩:=k4
   refine⟨p1,p2,p3,p4,(fun q _ h=>by cases h),fun _ _=> ?_⟩
   cases hb:b4 with
   | true=>exact .inl rfl
   | false=>
    have:=(w4 hb).1
    refine .inr (.inr ?_)
    by_cases h:v3<0
    ·exact .inl (by omega)
    ·exact .inr (.inr (.inl (by omega)))
 have g3:=Ans.bind (Y:=fun(m:Int) q=>if 0≤m∧m≤((2000:Nat):Int)then(many (qD l 10) m.toNat q).map fun ps=>((fs,ps.1),ps.2)else none) k3 g4
 have g2:Ans (if 0≤v1∧v1≤((12:Nat):Int)then(many (fnX l) v1.toNat a1).bind fun fs=>(nmX l fs.2).bind fun m=>if 0≤m.1∧m.1≤((2000:Nat):Int)then(many (qD l 10) m.1.toNat m.2).map fun ps=>((fs.1,ps.1),ps.2)else none else none) a1 l.length b1 ill (a4 - a1) (fs,ps) a4 b4:=by
  have hle:a1≤a4:=by have:=k2.1; have:=k3.1; have:=k4.1; omega
  have hto:b4=true∨ ∀h:b2=true,False:=by
   cases hb:b4 with
   | true=>exact .inl rfl
   | false=>exact .inr fun h=>by rw[back k3.2.2.1 (back k4.2.2.1 hb)]at h; cases h
  by_cases hv:0≤v1∧v1≤((12:Nat):Int)
  ·rw[if_pos hv]
   have e:v1.toNat=(min v1 13).toNat:=by omega
   rw[e]
   refine⟨hle,k4.2.1,fun h=>k4.2.2.1 (k3.2.2.1 (k2.2.2.1 h)),fun _=>by omega,fun q hb hq=> ?_,fun hb hq=> ?_⟩
   ·obtain⟨x,hx,hy⟩:=Option.bind_eq_some_iff.1 hq
    obtain⟨r1,r2,r3⟩:=k2.2.2.2.2.1 x hb hx
    subst r2 r3
    rw[←r1]at hy
    exact g3.2.2.2.2.1 q rfl hy
   ·cases hx:many (fnX l) (min v1 13).toNat a1 with
    | none=>
     rcases k2.2.2.2.2.2 hb hx with h | h
     ·exact .inl (k4.2.2.1 (k3.2.2.1 h))
     ·exact .inr (.inr (.inr (.inr (.inr h))))
    | some x=>
     obtain⟨r1,r2,r3⟩:=k2.2.2.2.2.1 x hb hx
     subst r2 r3
     rw[hx,Option.bind_some, ←r1]at hq
     exact g3.2.2.2.2.2 rfl hq
  ·rw[if_neg hv]
   refine⟨hle,k4.2.1,fun h=>k4.2.2.1 (k3.2.2.1 (k2.2.2.1 h)),fun _=>by omega,(fun q _ h=>by cases h),fun _ _=> ?_⟩
   rcases hto with h | h
   ·exact .inl h
   ·have hb2:b2=false:=by
     cases hb:b2 with
     | false=>rfl
     | true=>exact(h hb).elim
    have:=(w2 hb2).1
    by_cases h:v1<0
    ·exact .inr (.inl (by omega))
    ·exact .inr (.inr (.inr (.inl (by omega))))
 have g1:=Ans.bind (Y:=fun(n:Int) q=>if 0≤n∧n≤((12:Nat):Int)then(many (fnX l) n.toNat q).bind fun fs=>(nmX l fs.2).bind fun m=>if 0≤m.1∧m.1≤((2000:Nat):Int)then(many (qD l 10) m.1.toNat m.2).map fun ps=>((fs.1,ps.1),ps.2)else none else none) h1 g2
 have eX:Al l=(nmX l 0).bind fun n=>if 0≤n.1∧n.1≤((12:Nat):Int)then(many (fnX l) n.1.toNat n.2).bind fun fs=>(nmX l fs.2).bind fun m=>if 0≤m.1∧m.1≤((2000:Nat):Int)then(many (qD l 10) m.1.toNat m.2).map fun ps=>((fs.1,ps.1),ps.2)else none else none:=by
  unfold Al
  simp only[qK]
 have g1:Ans (Al l) 0 l.length false ill _ (fs,ps) a4 b4:=eX ▸ g1
 unfold kE
 simp only[e1,e2,e3,e4,Option.bind_some]
 cases b4 with
 | true=>
  unfold Mc
  cases hX:Al l with
  | none=>rfl
  | some q=>exact absurd (g1.2.2.2.2.1 _ rfl hX).2.2 (by simp)
 | false=>
  have hb3:=back k4.2.2.1 rfl
  have hb2:=back k3.2.2.1 hb3
  have hb1:=back k2.2.2.1 hb2
  have w2:=w2 hb2
  have w4:=w4 rfl
  have u1:=h1.2.2.2.1 hb1
  have u2:=k2.1
  have u3:=k3.1
  have u4:=k4.1
  have u5:=k4.2.1
  obtain⟨r,r1,r2,_⟩:=OC n h3 fs ps (by omega) (by omega) (by omega)
  have hp:dU n fs ps=some (uT fs ps):=JE n h3 fs ps (by omega) (by omega) (by omega)
  have hs:iQ n fs ps=some (uT fs ps):=by rw[r2, ←r1,hp]
  have hcmp:=Om (uT fs ps) l (Ap fs ps) H.hb
  have hcm:((lU (uT fs ps)).bind fun v94=>(lU l).bind fun v96=>some (!decide (v94=v96)))=some (!decide (uT fs ps=l)):=by
   obtain⟨s,s1,_⟩:=rX (Ap fs ps)
   obtain⟨t,t1,_⟩:=rX H.hb
   rw[s1,t1,Option.bind_some,Option.bind_some]at hcmp ⊢
   simp only[Option.some.injEq]at hcmp
   rw[hcmp]
  have hne: ∀q:List Int,q=[]→decide (q=l)=false:=fun q hq=>by
   subst hq
   refine decide_eq_false fun h=> ?_
   subst h
   simp only[List.length_nil]at u5
   omega
  simp only[hs,Option.bind_some,hcm,cond_false]
  have fin: ∀(x y z w:Bool),((bif x then some true else bif y then some true else bif z then some true else some w).bind fun v98=>bif v98 then some (([]:List aB),([]:List aA),false)else some (fs,ps,true))=some (bif !(x||(y||(z||w)))then(fs,ps,true)else([],[],false)):=fun x y z w=>by cases x<;>cases y<;>cases z<;>cases w<;>rfl
  rw[fin]
  unfold Mc
  cases hX:Al l with
  | none=>
   have hi:ill:=by
    rcases g1.2.2.2.2.2 rfl hX with h | h
    ·cases h
    ·exact h
   have:(!(!decide ((a4:Int)=(l.length:Int))||(!decide (v1=(fs.length:Int))||(!decide (v3=(ps.length:Int))|| !decide (uT fs ps=l)))))=false:=by
    rcases hi with h | h | h
    ·rw[decide_eq_false h]; cases decide ((a4:Int)=(l.length:Int))<;>rfl
    ·rw[decide_eq_false h]; cases decide ((a4:Int)=(l.length:Int))<;>cases decide (v1=(fs.length:Int))<;>rfl
    ·rw[hne _ (NU h)]; cases decide ((a4:Int)=(l.length:Int))<;>cases decide (v1=(fs.length:Int))<;>cases decide (v3=(ps.length:Int))<;>rfl
   rw[this]; rfl
  | some q=>
   obtain⟨⟨fs',ps'⟩,a'⟩:=q
   obtain⟨s1,s2,s3⟩:=g1.2.2.2.2.1 _ rfl hX
   cases s1
   simp only at s2
   subst s2
   have hsg:=OB H.hl H.hb hX
   have hv1:v1=(fs.length:Int):=by
    have hX':=hX
    rw[eX]at hX'
    obtain⟨q1,t1,hX'⟩:=Option.bind_eq_some_iff.1 hX'
    obtain⟨t2,t3,t4⟩:=h1.2.2.2.2.1 q1 rfl t1
    split at hX'
    ·rename_i hr
     rw[←t2]at hr; omega
    ·cases hX'
   have hv3:v3=(ps.length:Int):=by
    have hX':=hX
    rw[eX]at hX'
    obtain⟨q1,t1,hX'⟩:=Option.bind_eq_some_iff.1 hX'
    obtain⟨t2,t3,t4⟩:=h1.2.2.2.2.1 q1 rfl t1
    split at hX'
    ·obtain⟨q2,y1,hX'⟩:=Option.bind_eq_some_iff.1 hX'
     rw[←t2, ←t3,show v1.toNat=(min v1 13).toNat by omega]at y1
     obtain⟨y2,y3,y4⟩:=k2.2.2.2.2.1 q2 hb1 y1
     rw[←y3]at hX'
     obtain⟨q3,z1,hX'⟩:=Option.bind_eq_some_iff.1 hX'
     obtain⟨z2,z3,z4⟩:=k3.2.2.2.2.1 q3 hb2 z1
     split at hX'
     ·rename_i hr
      rw[←z2]at hr; omega
     ·cases hX'
    ·cases hX'
   rw[decide_eq_true hv1,decide_eq_true hv3]
   simp only[Bool.not_true,Bool.false_or]
   by_cases hz:uT fs ps=[]
   ·rw[hne _ hz,decide_eq_true hz,Bool.not_false,Bool.or_true]; rfl
   ·rw[decide_eq_false hz]
    by_cases he:uT fs ps=l
    ·have ha:a4=l.length:=by
      have h5:uT fs ps=Ab fs ps:=by
       unfold uT at hz ⊢
       cases hc:wK fs ps&&ps.all (uV 400)with
       | true=>rfl
       | false=>rw[hc]at hz; exact absurd rfl hz
      have h6:=HG hsg.1
      rw[←h5,he]at h6
      omega
     rw[decide_eq_true (show(a4:Int)=(l.length:Int)by omega),decide_eq_true he]; rfl
    ·rw[decide_eq_false he,Bool.not_false,Bool.or_true]; rfl
end Go.Own.Q
