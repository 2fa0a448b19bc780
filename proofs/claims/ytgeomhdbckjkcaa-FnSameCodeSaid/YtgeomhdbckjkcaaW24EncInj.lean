/- Code that is written: no two right codes have the same bytes. No conditions. -/
import Derived.Test.YtgeomhdbckjkcaaW24DrawCode
set_option linter.unusedVariables false
set_option linter.unusedSimpArgs false
set_option linter.unnecessarySimpa false
namespace Go.Own.Q
open Go Go.Proofs
theorem Jz: ∀(k x y:Nat) {r s:List Int},GU k x++r=GU k y++s→x<128 ^ (k+1)→y<128 ^ (k+1)→x=y∧r=s
 | 0,x,y,r,s,h,_,_=>by
  simp only[GU,List.cons_append,List.nil_append,List.cons.injEq]at h
  exact⟨by omega,h.2⟩
 | k+1,x,y,r,s,h,hx,hy=>by
  have hx2:x<128 ^ (k+1)*128:=hx
  have hy2:y<128 ^ (k+1)*128:=hy
  simp only[GU]at h
  by_cases c:x<128<;>by_cases d:y<128
  ·rw[if_pos c,if_pos d]at h
   simp only[List.cons_append,List.nil_append,List.cons.injEq]at h
   exact⟨by omega,h.2⟩
  ·rw[if_pos c,if_neg d]at h
   simp only[List.cons_append,List.nil_append,List.cons.injEq]at h
   omega
  ·rw[if_neg c,if_pos d]at h
   simp only[List.cons_append,List.nil_append,List.cons.injEq]at h
   omega
  ·rw[if_neg c,if_neg d]at h
   simp only[List.cons_append,List.cons.injEq]at h
   obtain⟨h1,h2⟩:=h
   obtain⟨h3,h4⟩:=Jz k (x / 128) (y / 128) h2 (Nat.div_lt_of_lt_mul (by rw[Nat.mul_comm]; exact hx2)) (Nat.div_lt_of_lt_mul (by rw[Nat.mul_comm]; exact hy2))
   exact⟨by omega,h4⟩
/-- A number that is written as it is. -/
def sm(v:Int):Prop:= -1000000000000≤v∧v≤1000000000000
theorem KB{v:Int}(h:sm v):oV v=v:=by
 obtain⟨h1,h2⟩:=h
 have e:(if(1000000000000:Int)<v then(1000000000000:Int)else v)=v:=if_neg (by omega)
 unfold oV
 rw[e]
 by_cases c:v > -1000000000000
 ·rw[if_pos c]
 ·rw[if_neg c]; omega
theorem Sf{v:Int}(h:sm v):zig v=if v<0 then -2*v - 1 else 2*v:=by
 obtain⟨h1,h2⟩:=h
 unfold zig
 by_cases h:v<0
 ·rw[decide_eq_true h,cond_true,if_pos h,wrap_i64 (n:=(-2)*v) (by omega) (by omega),wrap_i64 (by omega) (by omega)]
 ·rw[decide_eq_false h,cond_false,if_neg h,wrap_i64 (by omega) (by omega)]
theorem kC{a b:Int}{r s:List Int}(ha:sm a)(hb:sm b)(h:uQ a++r=uQ b++s):a=b∧r=s:=by
 unfold uQ at h
 rw[KB ha,KB hb]at h
 have ka:=IT ha.1 ha.2
 have kb:=IT hb.1 hb.2
 have ea:=Sf ha
 have eb:=Sf hb
 obtain⟨h1,h2⟩:=Jz 6 _ _ h (by omega) (by omega)
 refine⟨?_,h2⟩
 split at ea<;>split at eb<;>omega
theorem Cc{α:Type}: ∀ {a b r s:List α},a.length=b.length→a++r=b++s→a=b∧r=s
 | [],[],_,_,_,h=>⟨rfl,h⟩
 | x::a,y::b,r,s,hl,h=>by
  simp only[List.cons_append,List.cons.injEq]at h
  obtain⟨h1,h2⟩:=Cc (by simpa using hl) h.2
  exact⟨by rw[h.1,h1],h2⟩
theorem HG: ∀ {a b:List UInt8},(a.map fun c=>((c.toNat:Nat):Int))=(b.map fun c=>((c.toNat:Nat):Int))→a=b
 | [],[],_=>rfl
 | [],_::_,h=>by simp at h
 | _::_,[],h=>by simp at h
 | x::a,y::b,h=>by
  simp only[List.map_cons,List.cons.injEq]at h
  rw[UInt8.toNat_inj.1 (show x.toNat=y.toNat by omega),HG h.2]
theorem Bc{a b:List UInt8}{r s:List Int}(ha:a.length≤1000000000000)(hb:b.length≤1000000000000)(h:zZ a++r=zZ b++s):a=b∧r=s:=by
 simp only[zZ,List.append_assoc]at h
 obtain⟨h1,h2⟩:=kC ⟨by omega,by omega⟩ ⟨by omega,by omega⟩ h
 obtain⟨h3,h4⟩:=Cc (by simp only[List.length_map]; omega) h2
 exact⟨HG h3,h4⟩
theorem GM{α:Type}{e:α→List Int}{ok ok':α→Prop}(he: ∀ {x y r s},ok x→ok' y→e x++r=e y++s→x=y∧r=s): ∀ {l m:List α} {r s:List Int},l.length=m.length→(∀x∈l,ok x)→(∀x∈m,ok' x)→l.flatMap e++r=m.flatMap e++s→l=m∧r=s
 | [],[],_,_,_,_,_,h=>⟨rfl,by simpa using h⟩
 | x::l,y::m,r,s,hl,h1,h2,h=>by
  simp only[List.flatMap_cons,List.append_assoc]at h
  obtain⟨k1,k2⟩:=he (h1 x List.mem_cons_self) (h2 y List.mem_cons_self) h
  obtain⟨k3,k4⟩:=GM he (by simpa using hl) (fun x hx=>h1 x (List.mem_cons_of_mem _ hx)) (fun x hx=>h2 x (List.mem_cons_of_mem _ hx)) k2
  exact⟨by rw[k1,k3],k4⟩
/-- An instruction whose numbers are written as they are. -/
structure smI (x:aF):Prop where
 f0:sm x.f0
 f1:sm x.f1
 f2:x.f2.length≤1000000000000
 f3:sm x.f3
theorem Kl{x y:aF}{r s:List Int}(hx:smI x)(hy:smI y)(h:tO x++r=tO y++s):x=y∧r=s:=by
 simp only[tO,List.append_assoc]at h
 obtain⟨h0,h⟩:=kC hx.f0 hy.f0 h
 obtain⟨h1,h⟩:=kC hx.f1 hy.f1 h
 obtain⟨h2,h⟩:=Bc hx.f2 hy.f2 h
 obtain⟨h3,h⟩:=kC hx.f3 hy.f3 h
 refine⟨?_,h⟩
 cases x; cases y
 simp only[aF.f0,aF.f1,aF.f2,aF.f3]at h0 h1 h2 h3
 rw[h0,h1,h2,h3]
structure smF (x:aG):Prop where
 f0:x.f0.length≤1000000000000
 f1:sm x.f1
 f2:sm x.f2
 f3:x.f3.length≤1000000000000
 is: ∀i∈x.f3,smI i
theorem Na{x y:aG}{r s:List Int}(hx:smF x)(hy:smF y)(h:BW x++r=BW y++s):x=y∧r=s:=by
 simp only[BW,List.append_assoc]at h
 have e1:=hx.f3
 have e2:=hy.f3
 obtain⟨h0,h⟩:=Bc hx.f0 hy.f0 h
 obtain⟨h1,h⟩:=kC hx.f1 hy.f1 h
 obtain⟨h2,h⟩:=kC hx.f2 hy.f2 h
 obtain⟨h3,h⟩:=kC ⟨by omega,by omega⟩ ⟨by omega,by omega⟩ h
 obtain⟨h4,h⟩:=GM Kl (by omega) hx.is hy.is h
 refine⟨?_,h⟩
 cases x; cases y
 simp only[aG.f0,aG.f1,aG.f2,aG.f3]at h0 h1 h2 h4
 rw[h0,h1,h2,h4]
theorem pick{k c:Int}{a b:Bool}{P:Prop}(h:(bif decide (k=c)then a else b)=true)(h1:k=c→a=true→P)(h2:b=true→P):P:=by
 by_cases e:k=c
 ·rw[decide_eq_true e,cond_true]at h; exact h1 e h
 ·rw[decide_eq_false e,cond_false]at h; exact h2 h
theorem qE{v:Int}(h1: -1000000000000≤v)(h2:v≤1000000000000):sm v:=⟨h1,h2⟩
theorem RF{k m:Int}{s:List UInt8}{ne:Int}(h:BG k m s ne=true):sm k∧sm m:=by
 unfold BG at h
 have z: ∀ {c:Int} {b:Bool},k=c→ -20≤c→c≤20→(decide (m=0)&&b)=true→sm k∧sm m:=fun e h1 h2 h=>by
  simp only[Bool.and_eq_true,decide_eq_true_eq]at h
  exact⟨qE (by omega) (by omega),qE (by omega) (by omega)⟩
 refine pick h (fun e h=> ?_) fun h=>pick h (fun e h=>z e (by omega) (by omega) h) fun h=>pick h (fun e h=>z e (by omega) (by omega) h) fun h=>pick h (fun e h=>z e (by omega) (by omega) h) fun h=>pick h (fun e h=>z e (by omega) (by omega) h) fun h=>pick h (fun e h=>z e (by omega) (by omega) h) fun h=>pick h (fun e h=>z e (by omega) (by omega) h) fun h=>pick h (fun e h=>z e (by omega) (by omega) h) fun h=>pick h (fun e h=>z e (by omega) (by omega) h) fun h=>by cases h
 simp only[Bool.and_eq_true,decide_eq_true_eq]at h
 exact⟨qE (by omega) (by omega),qE (by omega) (by omega)⟩
theorem Ly{sl k m:Int}{s:List UInt8}{ne:Int}(hs:sl≤400)(h:Nl sl k m s ne=true):sm k∧sm m:=by
 unfold Nl at h
 refine pick h (fun e h=> ?_) (fun h=> ?_)
 ·simp only[Bool.and_eq_true,decide_eq_true_eq]at h
  exact⟨qE (by omega) (by omega),qE (by omega) (by omega)⟩
 ·simp only[Bool.and_eq_true]at h
  exact RF h.2
theorem EY: ∀(d:Nat) {sl sl':Int} {x y:aB} {r s:List Int},sl≤400→sl'≤400→(pok d sl x=true∧cS x≤1000000000000)→(pok d sl' y=true∧cS y≤1000000000000)→mQ x++r=mQ y++s→x=y∧r=s
 | 0,_,_,_,_,_,_,_,_,h,_,_=>by cases h.1
 | d+1,sl,sl',x,y,r,s,q1,q2,⟨hx,wx⟩,⟨hy,wy⟩,h=>by
  simp only[pok,Bool.and_eq_true]at hx hy
  obtain⟨x0,x1⟩:=Ly q1 hx.1
  obtain⟨y0,y1⟩:=Ly q2 hy.1
  rw[AQ]at wx wy
  have lx:=bM cS x.f3
  have ly:=bM cS y.f3
  rw[FO x,FO y]at h
  simp only[List.append_assoc]at h
  obtain⟨h0,h⟩:=kC x0 y0 h
  obtain⟨h1,h⟩:=kC x1 y1 h
  obtain⟨h2,h⟩:=Bc (by omega) (by omega) h
  obtain⟨h3,h⟩:=kC ⟨by omega,by omega⟩ ⟨by omega,by omega⟩ h
  obtain⟨h4,h⟩:=GM (EY d q1 q2) (by omega) (fun z hz=>⟨List.all_eq_true.1 hx.2 z hz,by have:=eA cS hz; omega⟩) (fun z hz=>⟨List.all_eq_true.1 hy.2 z hz,by have:=eA cS hz; omega⟩) h
  refine⟨?_,h⟩
  cases x; cases y
  simp only[aB.f0,aB.f1,aB.f2,aB.f3]at h0 h1 h2 h4
  rw[h0,h1,h2,h4]
theorem Kf{fs:List aG}{i:aF}(ha: ∀f∈fs,0≤f.f1∧f.f1≤4)(h:sR fs i=true):sm i.f1∧i.f3=0:=by
 unfold sR at h
 split at h
 ·rename_i f e
  simp only[Bool.and_eq_true,decide_eq_true_eq]at h
  have:=ha f (List.mem_of_getElem? e)
  exact⟨qE (by omega) (by omega),h.2.2⟩
 ·cases h
/-- The numbers of a right instruction. -/
theorem Rs{fs:List aG}{ps:List aB}{sl:Int}{to:Bool}{i:aF}(ha: ∀f∈fs,0≤f.f1∧f.f1≤4)(hs0:0≤sl)(hs:sl≤400)(hp:ps.length≤2000)(ht:to=true→sm i.f3)(hw:i.f2.length≤1000000000000)(h:sB fs ps sl to i=true):smI i:=by
 obtain⟨o1,o2⟩:=IM h
 have o0:sm i.f0:=qE (by omega) (by omega)
 have z:sm 0:=qE (by omega) (by omega)
 have hz: ∀ {v:Int},v=0→sm v:=fun e=>by rw[e]; exact z
 unfold sB at h
 refine pick h (fun _ h=> ?_) fun h=>pick h (fun _ h=> ?_) fun h=>pick h (fun _ h=> ?_) fun h=>pick h (fun _ h=> ?_) fun h=>pick h (fun _ h=> ?_) fun h=>pick h (fun _ h=> ?_) fun h=>pick h (fun _ h=> ?_) fun h=>pick h (fun _ h=> ?_) fun h=>pick h (fun _ h=> ?_) fun h=>pick h (fun _ h=> ?_) fun h=> ?_
 ·simp only[Bool.and_eq_true,decide_eq_true_eq]at h
  exact⟨o0,qE (by omega) (by omega),hw,hz h.1.2⟩
 ·simp only[Bool.and_eq_true,decide_eq_true_eq]at h
  exact⟨o0,hz h.1,hw,hz h.2.2⟩
 ·simp only[Bool.and_eq_true,decide_eq_true_eq]at h
  have:=h.2.2
  rw[wrap_i64 (by omega) (by omega)]at this
  exact⟨o0,qE (by omega) (by omega),hw,hz h.1.2⟩
 ·simp only[Bool.and_eq_true,decide_eq_true_eq]at h
  exact⟨o0,qE (by omega) (by omega),hw,hz h.1.2⟩
 ·simp only[Bool.and_eq_true,decide_eq_true_eq]at h
  exact⟨o0,qE (by omega) (by omega),hw,hz h.1.2⟩
 ·simp only[Bool.and_eq_true,decide_eq_true_eq]at h
  exact⟨o0,qE (by omega) (by omega),hw,hz h.1.2⟩
 ·simp only[Bool.and_eq_true,decide_eq_true_eq]at h
  exact⟨o0,hz h.1,hw,hz h.2.2⟩
 ·obtain⟨h1,h2⟩:=Kf ha h
  exact⟨o0,h1,hw,hz h2⟩
 ·simp only[Bool.and_eq_true]at h
  have h2:=h.2
  unfold GJ at h2
  simp only[Bool.and_eq_true,decide_eq_true_eq]at h2
  have:=h2.1.2
  rw[wrap_i64 (by omega) (by omega)]at this
  exact⟨o0,qE (by omega) (by omega),hw,ht h.1.2⟩
 ·simp only[Bool.and_eq_true,decide_eq_true_eq]at h
  exact⟨o0,hz h.2,hw,ht h.1.2⟩
 ·simp only[Bool.and_eq_true,decide_eq_true_eq]at h
  exact⟨o0,hz h.2.1,hw,hz h.1.2⟩
/-- Right code. -/
theorem Pp{fs gs:List aG}{ps qs:List aB}(hf:BZ fs ps=true)(hp:ps.all (Cd 400)=true)(hg:BZ gs qs=true)(hq:qs.all (Cd 400)=true)(w1:dl wFn fs≤1000000000000)(w2:dl cS ps≤1000000000000)(w3:dl wFn gs≤1000000000000)(w4:dl cS qs≤1000000000000)
  (h:lG fs ps=lG gs qs):fs=gs∧ps=qs:=by
 have one: ∀ {fs:List aG} {ps:List aB},BZ fs ps=true→dl wFn fs≤1000000000000→ ∀f∈fs,smF f:=fun {fs ps} h hw f hm=>by
  unfold BZ at h
  simp only[Bool.and_eq_true,Bool.not_eq_true',Bool.or_eq_false_iff,decide_eq_false_iff_not]at h
  obtain⟨⟨h1,h2⟩,h3⟩:=h
  have key: ∀f∈fs,fnI fs ps f=true:=fun f hm=>by
   obtain⟨k,hk⟩:=List.getElem?_of_mem hm
   have:=(lL _ fs 0).1 h3 k f hk
   simp only[Bool.and_eq_true]at this
   exact this.2
  have hm2:=eA wFn hm
  rw[FU]at hm2
  have hl:=bM iX f.f3
  have hk:=key f hm
  unfold fnI AC at hk
  simp only[Bool.and_eq_true,decide_eq_true_eq]at hk
  obtain⟨⟨_,⟨p1,p2⟩,⟨p3,p4⟩,p5,p6⟩,p7,_⟩:=hk
  refine⟨by omega,qE (by omega) (by omega),qE (by omega) (by omega),by omega,fun i hi=> ?_⟩
  have hi2:=eA iX hi
  rw[GA]at hi2
  refine Rs (fun f hf=>Js (key f hf)) (by omega) p4 (by omega) (fun e=> ?_) (by omega) (List.all_eq_true.1 p7 i hi)
  unfold toI at e
  simp only[Bool.and_eq_true,decide_eq_true_eq]at e
  have:=e.2
  rw[wrap_i64 (by omega) (by omega)]at this
  exact qE (by omega) (by omega)
 have pat: ∀ {ps:List aB},ps.all (Cd 400)=true→dl cS ps≤1000000000000→ ∀x∈ps,pok 10 400 x=true∧cS x≤1000000000000:=fun {ps} h hw x hx=>by
  have h1:=List.all_eq_true.1 h x hx
  unfold Cd at h1
  simp only[Bool.and_eq_true]at h1
  have:=eA cS hx
  exact⟨h1.2.1.1,by omega⟩
 have l1:=bM wFn fs
 have l2:=bM wFn gs
 have l3:=bM cS ps
 have l4:=bM cS qs
 simp only[lG]at h
 obtain⟨h1,h⟩:=kC ⟨by omega,by omega⟩ ⟨by omega,by omega⟩ h
 obtain⟨h2,h⟩:=GM Na (by omega) (one hf w1) (one hg w3) h
 obtain⟨h3,h⟩:=kC ⟨by omega,by omega⟩ ⟨by omega,by omega⟩ h
 have h:ps.flatMap mQ++[]=qs.flatMap mQ++[]:=by rw[List.append_nil,List.append_nil]; exact h
 obtain⟨h4,_⟩:=GM (EY 10 (sl:=400) (sl':=400) (by omega) (by omega)) (by omega) (pat hp w2) (pat hq w4) h
 exact⟨h2,h4⟩
end Go.Own.Q
