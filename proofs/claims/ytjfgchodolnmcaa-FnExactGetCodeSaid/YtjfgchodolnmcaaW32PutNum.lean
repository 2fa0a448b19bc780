/- Numbers and texts in bytes: the program's and the reference's, in plain Lean. No conditions. -/
import Derived.Test.YtjfgchodolnmcaaW32CodeOk
set_option linter.unusedVariables false
set_option linter.unusedSimpArgs false
set_option linter.unnecessarySimpa false
namespace Go.Own.Q
open Go Go.Proofs

theorem Gt(a b:Int):bits .or .i64 a b=bits .or .i64 b a:=by
 simp only[bits,BitVec.or_comm]
/-- Both come to the same, no longer than so. -/
def JS(o1 o2:Option (List Int))(b:List Int)(m:Nat):Prop:= ∃r,o1=some r∧o2=some r∧r.length≤b.length+m
theorem JS.bind{o1 o2:Option (List Int)}{f1 f2:List Int→Option (List Int)}{b:List Int}{m k j:Nat}(h:JS o1 o2 b m)(hf: ∀r,r.length≤b.length+m→JS (f1 r) (f2 r) r k)(hj:m+k≤j):JS (o1.bind f1) (o2.bind f2) b j:=by
 obtain⟨r,h1,h2,h3⟩:=h
 obtain⟨q,k1,k2,k3⟩:=hf r h3
 exact⟨q,by rw[h1]; exact k1,by rw[h2]; exact k2,by omega⟩
theorem EH(b:List Int)(x:Int)(h:b.length<1099511627776):iI 1 b [x]=some (b++[x]):=rQ (by simp only[List.length_singleton]; omega) (by simp only[List.length_singleton,maxLen]; omega)
theorem Jp{x:Int}{k:Nat}(h0:0≤x)(h:x<128 ^ (k+2)):0≤Int.fdiv x (2 ^ 7)∧Int.fdiv x (2 ^ 7)<128 ^ (k+1):=by
 have e:(2:Int) ^ 7=128:=by decide
 rw[e,Int.fdiv_eq_ediv_of_nonneg x (by omega)]
 refine⟨Int.ediv_nonneg h0 (by omega), ?_⟩
 refine Int.ediv_lt_of_lt_mul (by omega) ?_
 rwa[Int.pow_succ]at h
theorem LH: ∀(k:Nat) (x:Int) (b:List Int) (n m:Nat),0≤x→x<128 ^ (k+1)→k<m→b.length+k<1099511627776→ ∃r y,loopN (bJ n) m (b,x)=some (r,y,false)∧r.length≤b.length+k
 | k,x,b,n,m,h0,h1,hm,hb=>by
  obtain⟨m,rfl⟩: ∃q,m=q+1:=⟨m - 1,by omega⟩
  by_cases h:127<x
  ·cases k with
   | zero=>simp at h1; omega
   | succ k=>
    have ha:=EH b (IntKind.wrap .u8 (bits .or .i64 (128:Int) (bits .and .i64 x (127:Int)))) (by omega)
    obtain⟨d0,d1⟩:=Jp h0 h1
    obtain⟨r,y,r1,r2⟩:=LH k (Int.fdiv x (2 ^ 7)) (b++[IntKind.wrap .u8 (bits .or .i64 (128:Int) (bits .and .i64 x (127:Int)))]) n m d0 d1 (by omega) (by simp only[List.length_append,List.length_singleton]; omega)
    refine⟨r,y, ?_,by simp only[List.length_append,List.length_singleton]at r2; omega⟩
    simp only[loopN,bJ,decide_eq_true h,cond_true,ha,Option.bind_some]
    exact r1
  ·exact⟨b,x,by simp only[loopN,bJ,decide_eq_false h,cond_false],by omega⟩
def iZ(v:Int):Int:=if(if(1000000000000:Int)<v then(1000000000000:Int)else v) > ((-1000000000000):Int)then(if(1000000000000:Int)<v then(1000000000000:Int)else v)else((-1000000000000):Int)
theorem BK(v:Int): -1000000000000≤iZ v∧iZ v≤1000000000000:=by
 unfold iZ
 by_cases h:(1000000000000:Int)<v
 ·simp only[if_pos h]; simp
 ·simp only[if_neg h]
  by_cases h2:v > -1000000000000
  ·rw[if_pos h2]; omega
  ·rw[if_neg h2]; omega
def zig(v:Int):Int:=bif decide (v<0)then IntKind.wrap .i64 (IntKind.wrap .i64 ((-2)*v) - 1)else IntKind.wrap .i64 (2*v)
theorem KP{v:Int}(h0: -1000000000000≤v)(h1:v≤1000000000000):0≤zig v∧zig v<128 ^ 7:=by
 unfold zig
 by_cases h:v<0
 ·rw[decide_eq_true h,cond_true,wrap_i64 (n:=(-2)*v) (by omega) (by omega),wrap_i64 (by omega) (by omega)]; omega
 ·rw[decide_eq_false h,cond_false,wrap_i64 (by omega) (by omega)]; omega
def GZ(n:Nat)(b:List Int)(x:Int):Option (List Int):=(loopN (bJ n) n (b,x)).bind fun q=>iI 1 q.1 [IntKind.wrap .u8 q.2.1]
theorem Dy(o:Option (List Int×Int×Bool)):(o.bind fun(a,y,_)=>(iI 1 a ([IntKind.wrap .u8 y]:List Int)).bind fun v=>some v)=o.bind fun q=>iI 1 q.1 [IntKind.wrap .u8 q.2.1]:=by
 cases o with
 | none=>rfl
 | some q=>
  obtain⟨a,y,z⟩:=q
  simp only[Option.bind_some]
  cases iI 1 a [IntKind.wrap .u8 y]<;>rfl
theorem NG(n:Nat)(b:List Int)(v:Int)(hn:20<n)(hb:b.length<549755813888): ∃r,GZ n b (zig (iZ v))=some r∧r.length≤b.length+8:=by
 have hc:=BK v
 have hz:=KP hc.1 hc.2
 obtain⟨r,y,r1,r2⟩:=LH 6 (zig (iZ v)) b n n hz.1 hz.2 (by omega) (by omega)
 unfold GZ
 rw[r1]
 exact⟨r++[IntKind.wrap .u8 y],EH r _ (by omega),by simp only[List.length_append,List.length_singleton]; omega⟩
theorem EW(n:Nat)(b:List Int)(v:Int):bA n b v=GZ n b (zig (iZ v)):=by
 have e2:nD n=bJ n:=rfl
 unfold bA GZ zig
 rw[e2]
 show(bif decide (iZ v<0)then _ else _)=_
 cases decide (iZ v<0)<;>exact Dy _
theorem Lv(n:Nat):bR n=bJ n:=by
 funext t
 obtain⟨b,x⟩:=t
 simp only[bR,bJ,Gt (bits .and .i64 x 127) 128]
theorem IZ(n:Nat)(b:List Int)(v:Int)(hb:b.length<549755813888):aZ n b v=GZ n b (zig (iZ v)):=by
 have ha:iI 1 ([]:List Int) b=some b:=rQ (by simp only[List.length_nil]; omega) (by simp only[List.length_nil,maxLen]; omega)
 have e2:nC n=bR n:=rfl
 have e3:nB n=bR n:=rfl
 have e4:nA n=bR n:=rfl
 have e5:mZ n=bR n:=rfl
 have e6:mY n=bR n:=rfl
 have e7:mX n=bR n:=rfl
 have e8:mW n=bR n:=rfl
 unfold aZ
 rw[e2,e3,e4,e5,e6,e7,e8,Lv,ha,Option.bind_some]
 by_cases h1:(1000000000000:Int)<v
 ·have hc:iZ v=1000000000000:=by
   unfold iZ; simp only[if_pos h1]; rfl
  rw[decide_eq_true h1,hc]; exact Dy _
 ·rw[decide_eq_false h1]
  by_cases h2:v< -1000000000000
  ·have hc:iZ v= -1000000000000:=by
    unfold iZ; simp only[if_neg h1]; rw[if_neg (by omega)]
   rw[decide_eq_true h2,hc]; exact Dy _
  ·have hc:iZ v=v:=by
    unfold iZ; simp only[if_neg h1]
    by_cases h3:v > -1000000000000
    ·rw[if_pos h3]
    ·rw[if_neg h3]; omega
   rw[decide_eq_false h2,hc]
   unfold GZ zig
   cases decide (v<0)<;>exact Dy _
theorem mF(n:Nat)(b:List Int)(v:Int)(hn:20<n)(hb:b.length<549755813888):JS (bA n b v) (aZ n b v) b 8:=by
 obtain⟨r,h1,h2⟩:=NG n b v hn hb
 exact⟨r,by rw[EW,h1],by rw[IZ n b v hb,h1],h2⟩
theorem EJ(n:Nat)(b:List Int)(s:List UInt8)(hn:20<n)(hb:b.length+s.length+8<549755813888):JS (dT n b s) (gD n b s) b (8+s.length):=by
 unfold dT gD
 refine(mF n b (s.length:Int) hn (by omega)).bind (k:=s.length) (fun r hr=> ?_) (Nat.le_refl _)
 have ha:iI 1 r (s.map fun c=>((c.toNat:Nat):Int))=some (r++s.map fun c=>((c.toNat:Nat):Int)):=rQ (by rw[List.length_map]; omega) (by rw[List.length_map]; simp only[maxLen]; omega)
 exact⟨_,by rw[ha]; rfl,by rw[ha]; rfl,by rw[List.length_append,List.length_map]; exact Nat.le_refl _⟩
/-- Two loops over a list that come to the same. -/
theorem zQ{α:Type}{b1 b2:List Int×Int→Option ((List Int×Int)⊕(List Int×Int×Bool))}(l:List α)(w:α→Nat)(B:Nat)(hs: ∀(i:Nat) a t,l[i]? =some a→t.length+40*(1+w a)≤B→ ∃t',b1 (t,(i:Int))=some (.inl (t',((i+1:Nat):Int)))∧b2 (t,(i:Int))=some (.inl (t',((i+1:Nat):Int)))∧t'.length≤t.length+40*(1+w a))
  (he1: ∀t,b1 (t,(l.length:Int))=some (.inr (t,(l.length:Int),false)))(he2: ∀t,b2 (t,(l.length:Int))=some (.inr (t,(l.length:Int),false))){n:Nat}(hn:l.length<n)(b:List Int)(hB:b.length+40*dl w l≤B):
  ∃r,loopN b1 n (b,(0:Int))=some (r,(l.length:Int),false)∧loopN b2 n (b,(0:Int))=some (r,(l.length:Int),false)∧r.length≤b.length+40*dl w l:=by
 have key: ∀(r:List α) (i:Nat) (t:List Int) (n:Nat),l.drop i=r→i≤l.length→r.length<n→t.length+40*dl w r≤B→ ∃q,loopN b1 n (t,(i:Int))=some (q,(l.length:Int),false)∧loopN b2 n (t,(i:Int))=some (q,(l.length:Int),false)∧q.length≤t.length+40*dl w r:=by
  intro r
  induction r with
  | nil=>
   intro i t n hr hi hn ht
   obtain⟨n,rfl⟩: ∃k,n=k+1:=⟨n - 1,by simp at hn; omega⟩
   have:i=l.length:=by
    have:=congrArg List.length hr
    simp at this; omega
   subst this
   exact⟨t,by simp only[loopN,he1],by simp only[loopN,he2],by omega⟩
  | cons a r ih=>
   intro i t n hr hi hn ht
   obtain⟨n,rfl⟩: ∃k,n=k+1:=⟨n - 1,by simp at hn; omega⟩
   have ha:l[i]? =some a:=by
    have:=congrArg (fun l=>l[0]?) hr
    simpa [List.getElem?_drop]using this
   have hr2:l.drop (i+1)=r:=by
    have:=congrArg (List.drop 1) hr
    simpa [List.drop_drop]using this
   have hlt:=bL ha
   have hd:dl w (a::r)=1+w a+dl w r:=rfl
   obtain⟨t',h1,h2,h3⟩:=hs i a t ha (by omega)
   obtain⟨q,q1,q2,q3⟩:=ih (i+1) t' n hr2 (by omega) (by simp at hn; omega) (by omega)
   exact⟨q,by simp only[loopN,h1,q1],by simp only[loopN,h2,q2],by omega⟩
 exact key l 0 b n rfl (Nat.zero_le _) hn hB
end Go.Own.Q
