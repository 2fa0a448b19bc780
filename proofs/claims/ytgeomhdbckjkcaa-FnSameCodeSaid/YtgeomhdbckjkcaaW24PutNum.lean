/- Numbers and texts in bytes: the program's and the reference's, in plain Lean. No conditions. -/
import Derived.Test.YtgeomhdbckjkcaaW24CodeOk
set_option linter.unusedVariables false
set_option linter.unusedSimpArgs false
set_option linter.unnecessarySimpa false
namespace Go.Own.Q
open Go Go.Proofs

theorem Qu(a b:Int):bits .or .i64 a b=bits .or .i64 b a:=by
 simp only[bits,BitVec.or_comm]
/-- Both come to the same, no longer than so. -/
def Uc(o1 o2:Option (List Int))(b:List Int)(m:Nat):Prop:= ∃r,o1=some r∧o2=some r∧r.length≤b.length+m
theorem Uc.bind{o1 o2:Option (List Int)}{f1 f2:List Int→Option (List Int)}{b:List Int}{m k j:Nat}(h:Uc o1 o2 b m)(hf: ∀r,r.length≤b.length+m→Uc (f1 r) (f2 r) r k)(hj:m+k≤j):Uc (o1.bind f1) (o2.bind f2) b j:=by
 obtain⟨r,h1,h2,h3⟩:=h
 obtain⟨q,k1,k2,k3⟩:=hf r h3
 exact⟨q,by rw[h1]; exact k1,by rw[h2]; exact k2,by omega⟩
theorem Eu(b:List Int)(x:Int)(h:b.length<1099511627776):fQ 1 b [x]=some (b++[x]):=vA (by simp only[List.length_singleton]; omega) (by simp only[List.length_singleton,maxLen]; omega)
theorem Kh{x:Int}{k:Nat}(h0:0≤x)(h:x<128 ^ (k+2)):0≤Int.fdiv x (2 ^ 7)∧Int.fdiv x (2 ^ 7)<128 ^ (k+1):=by
 have e:(2:Int) ^ 7=128:=by decide
 rw[e,Int.fdiv_eq_ediv_of_nonneg x (by omega)]
 refine⟨Int.ediv_nonneg h0 (by omega), ?_⟩
 refine Int.ediv_lt_of_lt_mul (by omega) ?_
 rwa[Int.pow_succ]at h
theorem MF: ∀(k:Nat) (x:Int) (b:List Int) (n m:Nat),0≤x→x<128 ^ (k+1)→k<m→b.length+k<1099511627776→ ∃r y,loopN (cL n) m (b,x)=some (r,y,false)∧r.length≤b.length+k
 | k,x,b,n,m,h0,h1,hm,hb=>by
  obtain⟨m,rfl⟩: ∃q,m=q+1:=⟨m - 1,by omega⟩
  by_cases h:127<x
  ·cases k with
   | zero=>simp at h1; omega
   | succ k=>
    have ha:=Eu b (IntKind.wrap .u8 (bits .or .i64 (128:Int) (bits .and .i64 x (127:Int)))) (by omega)
    obtain⟨d0,d1⟩:=Kh h0 h1
    obtain⟨r,y,r1,r2⟩:=MF k (Int.fdiv x (2 ^ 7)) (b++[IntKind.wrap .u8 (bits .or .i64 (128:Int) (bits .and .i64 x (127:Int)))]) n m d0 d1 (by omega) (by simp only[List.length_append,List.length_singleton]; omega)
    refine⟨r,y, ?_,by simp only[List.length_append,List.length_singleton]at r2; omega⟩
    simp only[loopN,cL,decide_eq_true h,cond_true,ha,Option.bind_some]
    exact r1
  ·exact⟨b,x,by simp only[loopN,cL,decide_eq_false h,cond_false],by omega⟩
def oV(v:Int):Int:=if(if(1000000000000:Int)<v then(1000000000000:Int)else v) > ((-1000000000000):Int)then(if(1000000000000:Int)<v then(1000000000000:Int)else v)else((-1000000000000):Int)
theorem HE(v:Int): -1000000000000≤oV v∧oV v≤1000000000000:=by
 unfold oV
 by_cases h:(1000000000000:Int)<v
 ·simp only[if_pos h]; simp
 ·simp only[if_neg h]
  by_cases h2:v > -1000000000000
  ·rw[if_pos h2]; omega
  ·rw[if_neg h2]; omega
def zig(v:Int):Int:=bif decide (v<0)then IntKind.wrap .i64 (IntKind.wrap .i64 ((-2)*v) - 1)else IntKind.wrap .i64 (2*v)
theorem IT{v:Int}(h0: -1000000000000≤v)(h1:v≤1000000000000):0≤zig v∧zig v<128 ^ 7:=by
 unfold zig
 by_cases h:v<0
 ·rw[decide_eq_true h,cond_true,wrap_i64 (n:=(-2)*v) (by omega) (by omega),wrap_i64 (by omega) (by omega)]; omega
 ·rw[decide_eq_false h,cond_false,wrap_i64 (by omega) (by omega)]; omega
def Ku(n:Nat)(b:List Int)(x:Int):Option (List Int):=(loopN (cL n) n (b,x)).bind fun q=>fQ 1 q.1 [IntKind.wrap .u8 q.2.1]
theorem RA(o:Option (List Int×Int×Bool)):(o.bind fun(a,y,_)=>(fQ 1 a ([IntKind.wrap .u8 y]:List Int)).bind fun v=>some v)=o.bind fun q=>fQ 1 q.1 [IntKind.wrap .u8 q.2.1]:=by
 cases o with
 | none=>rfl
 | some q=>
  obtain⟨a,y,z⟩:=q
  simp only[Option.bind_some]
  cases fQ 1 a [IntKind.wrap .u8 y]<;>rfl
theorem tailN_ok(n:Nat)(b:List Int)(v:Int)(hn:20<n)(hb:b.length<549755813888): ∃r,Ku n b (zig (oV v))=some r∧r.length≤b.length+8:=by
 have hc:=HE v
 have hz:=IT hc.1 hc.2
 obtain⟨r,y,r1,r2⟩:=MF 6 (zig (oV v)) b n n hz.1 hz.2 (by omega) (by omega)
 unfold Ku
 rw[r1]
 exact⟨r++[IntKind.wrap .u8 y],Eu r _ (by omega),by simp only[List.length_append,List.length_singleton]; omega⟩
theorem Pb(n:Nat)(b:List Int)(v:Int):bL n b v=Ku n b (zig (oV v)):=by
 have e2:nY n=cL n:=rfl
 unfold bL Ku zig
 rw[e2]
 show(bif decide (oV v<0)then _ else _)=_
 cases decide (oV v<0)<;>exact RA _
/-- Two loops over a list that come to the same. -/
theorem loop_two{α:Type}{b1 b2:List Int×Int→Option ((List Int×Int)⊕(List Int×Int×Bool))}(l:List α)(w:α→Nat)(B:Nat)(hs: ∀(i:Nat) a t,l[i]? =some a→t.length+40*(1+w a)≤B→ ∃t',b1 (t,(i:Int))=some (.inl (t',((i+1:Nat):Int)))∧b2 (t,(i:Int))=some (.inl (t',((i+1:Nat):Int)))∧t'.length≤t.length+40*(1+w a))
  (he1: ∀t,b1 (t,(l.length:Int))=some (.inr (t,(l.length:Int),false)))(he2: ∀t,b2 (t,(l.length:Int))=some (.inr (t,(l.length:Int),false))){n:Nat}(hn:l.length<n)(b:List Int)(hB:b.length+40*dl w l≤B):
  ∃r,loopN b1 n (b,(0:Int))=some (r,(l.length:Int),false)∧loopN b2 n (b,(0:Int))=some (r,(l.length:Int),false)∧r.length≤b.length+40*dl w l:=by
 have key: ∀(r:List α) (i:Nat) (t:List Int) (n:Nat),l.drop i=r→i≤l.length→r.length<n→t.length+40*dl w r≤B→ ∃q,loopN b1 n (t,(i:Int))=some (q,(l.length:Int),false)∧loopN b2 n (t,(i:Int))=some (q,(l.length:Int),false)∧q.length≤t.length+40*dl w r:=by
  intro r
  induction r with
  | nil=>
   intro i t n hr hi hn ht
   obtain⟨n,rfl⟩: ∃k,n=k+1:=⟨n - 1,by simp at hn; omega⟩
   have:i=l.length:=by
    have:=congrArg List.length hr
    simp at this; omega
   subst this
   exact⟨t,by simp only[loopN,he1],by simp only[loopN,he2],by omega⟩
  | cons a r ih=>
   intro i t n hr hi hn ht
   obtain⟨n,rfl⟩: ∃k,n=k+1:=⟨n - 1,by simp at hn; omega⟩
   have ha:l[i]? =some a:=by
    have:=congrArg (fun l=>l[0]?) hr
    simpa [List.getElem?_drop]using this
   have hr2:l.drop (i+1)=r:=by
    have:=congrArg (List.drop 1) hr
    simpa [List.drop_drop]using this
   have hlt:=cH ha
   have hd:dl w (a::r)=1+w a+dl w r:=rfl
   obtain⟨t',h1,h2,h3⟩:=hs i a t ha (by omega)
   obtain⟨q,q1,q2,q3⟩:=ih (i+1) t' n hr2 (by omega) (by simp at hn; omega) (by omega)
   exact⟨q,by simp only[loopN,h1,q1],by simp only[loopN,h2,q2],by omega⟩
 exact key l 0 b n rfl (Nat.zero_le _) hn hB
end Go.Own.Q
