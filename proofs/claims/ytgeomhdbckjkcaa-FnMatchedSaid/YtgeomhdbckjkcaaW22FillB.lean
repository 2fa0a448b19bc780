/- Lemmas. No conditions. -/
import Derived.Test.YtgeomhdbckjkcaaW22FillA
set_option linter.unusedVariables false
set_option linter.unusedSimpArgs false
set_option linter.unnecessarySimpa false
namespace Go.Own.Q
open Go Go.Proofs
theorem tU: ∀(n:Nat),n≤1099511627776→(∀(a:aB),aT a<n→cM n a.f0 a.f1 a.f2 a.f3 a.f0 a.f1 a.f2 a.f3=some true)∧ ∀(l:List aB),dl aT l<n→cI n l l=some true
 | 0,_=>⟨fun a h=>by omega,fun l h=>by omega⟩
 | n+1,hn=>by
  obtain⟨ih1,ih2⟩:=tU n (by omega)
  refine⟨fun a h=> ?_,fun l h=> ?_⟩
  ·rw[vO]
   unfold jB
   rw[rJ,fF]at h
   simp only[ih2 a.f3 (by omega),Option.bind_some,decide_true,cond_true]
  ·rw[pB]
   unfold dD
   have h2:=aX aT l
   simp only[decide_true,Bool.not_true,cond_false]
   rw[NM l (fun i a ha=>by
    have hd:=fK aT (List.mem_of_getElem? ha)
    have hi:=gY ha
    simp only[dI,fJ ha,cond_true,eC,ha,Option.bind_some,ih1 a (by omega),Bool.not_true,cond_false,bE (show i<4611686018427387904 by omega)]) (by simp only[dI,bB,cond_false]) (by omega)]
   simp only[Option.bind_some]
theorem vV: ∀(n:Nat),n≤1099511627776→ ∀(a:aA),aN a<n→fW n a.f0 a.f1 a.f2 a.f3 a.f4=some (jJ a)
 | 0,_,a,h=>by omega
 | n+1,hn,a,h=>by
  have ih:=vV n (by omega)
  rw[zH,Iy]
  unfold lX
  rw[nF,eO,dH]at h
  have h2:=aX aN a.f3
  cases decide (a.f0=3)with
  | true=>cases decide (a.f2=[95])<;>rfl
  | false=>
   simp only[cond_false,Option.bind_some]
   generalize a.f3=l at h h2
   have hl:=pV (body:=iH n (fW n) l) (fun i=>(eS (l.take i),(i:Int))) (len:=l.length) (r:=(eS l,(l.length:Int),false)) (fun i hi=>by
    have ha:l[i]? =some l[i]:=List.getElem?_eq_getElem hi
    generalize l[i]=b at ha
    have hd:=fK aN (List.mem_of_getElem? ha)
    have e:eS (l.take (i+1))=eS (l.take i)++jJ b:=by rw[←lC ha,xO,By]
    have hb:=xN (l.take (i+1))
    have hb2:vY (l.take (i+1))≤dl aN l:=by
     rw[eO]; exact iX aN l (i+1)
    rw[e,List.length_append]at hb
    have hap:gA 16 (eS (l.take i)) (jJ b)=some (eS (l.take (i+1))):=by
     rw[e]
     exact mQ (by omega) (by simp only[maxLen]; omega)
    simp only[iH,fJ ha,cond_true,eC,ha,Option.bind_some,ih b (by omega),hap,bE (show i<4611686018427387904 by omega)]) (by simp only[iH,bB,cond_false,List.take_length]) (n:=n) (by omega)
   refine(congrArg (fun q=>Option.bind q _) hl).trans ?_
   rfl
theorem NT{α:Type}(p:α→Bool): ∀(l:List α) (k:Nat) (a:α),l[k]? =some a→p a=true→(∀(j:Nat) b,j<k→l[j]? =some b→p b=false)→l.find? p=some a
 | [],k,a,h,_,_=>by simp at h
 | x::r,0,a,h,hp,_=>by
  simp only[List.getElem?_cons_zero,Option.some.injEq]at h
  subst h
  simp only[List.find?_cons,hp]
 | x::r,k+1,a,h,hp,hj=>by
  have h0:=hj 0 x (by omega) rfl
  simp only[List.find?_cons,h0]
  exact NT p r k a (by simpa using h) hp fun j b hjk hb=>hj (j+1) b (by omega) (by simpa using hb)
def fnd(l:List aG)(s:List UInt8):Option aB:=(l.find? fun b=>decide (b.f0=s)).map sP
def OX:Option aB→Int×Int×List UInt8×List aB×Bool
 | some t=>(t.f0,t.f1,t.f2,t.f3,true)
 | none=>(0,0,[],[],false)
theorem If(a:aG):mU a=3+a.f0.length+aT (sP a):=by cases a; rfl
theorem Hh(n:Nat)(l:List aG)(s:List UInt8)(h:dl mU l<n)(hn:n≤1099511627776):gQ n l s=some (OX (fnd l s)):=by
 unfold gQ
 have hl:=aX mU l
 have hg: ∀ {i:Nat} {a:aG},l[i]? =some a→l.getD i ⟨[],0,0,[],[]⟩=a:=fun ha=>by rw[List.getD_eq_getElem?_getD,ha]; rfl
 have e:=CI (body:=fR n l s) l (fun b=>decide (b.f0=s)) (fun i=>((i:Int),(0:Int),(0:Int),([]:List UInt8),([]:List aB))) (fun i=> .inl (true,(l.getD i ⟨[],0,0,[],[]⟩).f1,(l.getD i ⟨[],0,0,[],[]⟩).f2,(l.getD i ⟨[],0,0,[],[]⟩).f3,(l.getD i ⟨[],0,0,[],[]⟩).f4)) (.inr ((l.length:Int),false,0,0,[],[])) (fun i a ha=>by
  have hi:=gY ha
  have hd:=fK mU (List.mem_of_getElem? ha)
  rw[If]at hd
  have hcp:bZ n a.f1 a.f2 a.f3 a.f4=some (a.f1,a.f2,a.f3,a.f4):=Cm n (a:=sP a) (by omega) (by omega)
  simp only[fR,fJ ha,cond_true,eC,ha,Option.bind_some,hcp,hg ha,bE (show i<4611686018427387904 by omega)]
  cases decide (a.f0=s)<;>rfl) (by simp only[fR,bB,cond_false]) (n:=n) (by omega)
 have e:loopN (fR n l s) n ((0:Int),(0:Int),(0:Int),([]:List UInt8),([]:List aB))=_:=e
 rw[e]
 unfold fnd
 rcases xI (fun b:aG=>decide (b.f0=s)) l 0 with⟨h1,h2⟩ | ⟨k,a,h1,h2,h3,h4⟩
 ·rw[h1,List.find?_eq_none.2 (fun b hb=>by rw[h2 b hb]; simp)]; rfl
 ·rw[h1,NT _ l k a h2 h3 h4,decide_eq_false (by omega)]
  simp only[cond_false,Option.bind_some,Nat.zero_add,Int.toNat_natCast,hg h2]
  rfl
theorem OM(n:Nat)(A B:List aB)(hn:5<n)(h:A.length+B.length≤1000000):eD n [A,B]=some (A++B):=by
 have i0:ix [A,B] (0:Int)=some A:=rfl
 have i1:ix [A,B] (1:Int)=some B:=rfl
 have d0:decide ((0:Int)<(([A,B]:List (List aB)).length:Int))=true:=by simp
 have d1:decide ((1:Int)<(([A,B]:List (List aB)).length:Int))=true:=by simp
 have d2:decide ((2:Int)<(([A,B]:List (List aB)).length:Int))=false:=by simp
 have w1:IntKind.wrap .i64 ((0:Int)+1)=1:=by rw[wrap_i64 (by omega) (by omega)]; rfl
 have w2:IntKind.wrap .i64 ((1:Int)+1)=2:=by rw[wrap_i64 (by omega) (by omega)]; rfl
 have w3:IntKind.wrap .i64 ((0:Int)+(A.length:Int))=(A.length:Int):=by rw[wrap_i64 (by omega) (by omega)]; omega
 have w4:IntKind.wrap .i64 ((A.length:Int)+(B.length:Int))=((A.length+B.length:Nat):Int):=by rw[wrap_i64 (by omega) (by omega)]; omega
 have r0:bL n [A,B] ((0:Int),(0:Int))=some (.inl ((A.length:Int),(1:Int))):=by
  simp only[bL,d0,cond_true,i0,Option.bind_some,w3,w1,decide_eq_false (show ¬ (A.length:Int)<0 by omega),cond_false]
 have r1:bL n [A,B] ((A.length:Int),(1:Int))=some (.inl (((A.length+B.length:Nat):Int),(2:Int))):=by
  simp only[bL,d1,cond_true,i1,Option.bind_some,w4,w2,decide_eq_false (show ¬ ((A.length+B.length:Nat):Int)<0 by omega),cond_false]
 have r2:bL n [A,B] (((A.length+B.length:Nat):Int),(2:Int))=some (.inr (((A.length+B.length:Nat):Int),(2:Int),false)):=by
  simp only[bL,d2,cond_false]
 have a1:gA 56 ([]:List aB) A=some A:=mQ (by simp only[List.length_nil]; omega) (by simp only[List.length_nil,maxLen]; omega)
 have a2:gA 56 A B=some (A++B):=mQ (by omega) (by simp only[maxLen]; omega)
 have q0:bK n [A,B] (([]:List aB),(0:Int))=some (.inl (A,(1:Int))):=by
  simp only[bK,d0,cond_true,i0,Option.bind_some,a1,w1]
 have q1:bK n [A,B] (A,(1:Int))=some (.inl (A++B,(2:Int))):=by
  simp only[bK,d1,cond_true,i1,Option.bind_some,a2,w2]
 have q2:bK n [A,B] (A++B,(2:Int))=some (.inr (A++B,(2:Int),false)):=by
  simp only[bK,d2,cond_false]
 have g1:fX n ([]:List aB) ((A.length+B.length:Nat):Int)=some []:=by
  unfold fX
  rw[decide_eq_true (show(0:Int)≤((A.length+B.length:Nat):Int)by omega),decide_eq_true (by omega)]; rfl
 have L: ∀ {σ ρ:Type} {body:σ→Option (σ⊕ρ)} {s0 s1 s2:σ} {r:ρ} (_:body s0=some (.inl s1)) (_:body s1=some (.inl s2)) (_:body s2=some (.inr r)),loopN body n s0=some r:=fun h0 h1 h2=>by
  obtain⟨k,rfl⟩: ∃k,n=k+3:=⟨n - 3,by omega⟩
  simp only[loopN,h0,h1,h2]
 unfold eD
 rw[L r0 r1 r2]
 simp only[Option.bind_some,g1]
 rw[L q0 q1 q2]
 rfl
end Go.Own.Q
