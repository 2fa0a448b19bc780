/- Copies of code and of tables; where an entry is. No conditions. -/
import Derived.Test.YtjfgchodolnmcaaW33TableOk
set_option linter.unusedVariables false
set_option linter.unusedSimpArgs false
set_option linter.unnecessarySimpa false
namespace Go.Own.Q
open Go Go.Proofs

theorem sE{α:Type}{l:List α}{i:Nat}{a:α}(b:Nat)(ha:l[i]? =some a)(hl:l.length<1099511627776)(hb:b≤127):tP b (l.take i) [a]=some (l.take (i+1)):=by
 have hi:=bI ha
 rw[←tB ha]
 refine wX ?_ (by simp only[List.length_take,List.length_singleton,maxLen]; omega)
 have:((l.take i).length+[a].length)*b≤1099511627776*127:=Nat.mul_le_mul (by simp only[List.length_take,List.length_singleton]; omega) hb
 omega
theorem wK: ∀(n:Nat),n≤1099511627776→ ∀(a0 a1:Int) (a2:List UInt8) (a3:List aA),cO (.mk a0 a1 a2 a3)<n→dL n a0 a1 a2 a3=some (a0,a1,a2,a3)
 | 0,_=>fun a0 a1 a2 a3 h=>by omega
 | n+1,hn=>fun a0 a1 a2 l h=>by
  have ih1:=wK n (by omega)
  rw[tH]
  unfold gW
  simp only[cO,mD]at h
  have h2:=bK cO l
  have hl:=iQ (body:=eA n (dL n) l) (fun i=>((i:Int),a0,a1,a2,l.take i)) (len:=l.length) (r:=((l.length:Int),false,a0,a1,a2,l)) (fun i hi=>by
   have ha:l[i]? =some l[i]:=List.getElem?_eq_getElem hi
   generalize l[i]=a at ha
   have hd:=cU cO (List.mem_of_getElem? ha)
   simp only[eA,bT ha,cond_true,bB,ha,Option.bind_some,ih1 a.f0 a.f1 a.f2 a.f3 (by rw[dD]; omega),dD,sE 56 ha (by omega) (by omega),aN (show i<4611686018427387904 by omega)]) (by simp only[eA,aM,cond_false,List.take_length]) (n:=n) (by omega)
  refine(congrArg (fun q=>Option.bind q _) hl).trans ?_
  rfl
theorem Bl: ∀(n:Nat),n≤1099511627776→ ∀(a0 a1:Int) (a2:List UInt8) (a3:List aA),cO (.mk a0 a1 a2 a3)<n→fK n a0 a1 a2 a3=some (a0,a1,a2,a3)
 | 0,_=>fun a0 a1 a2 a3 h=>by omega
 | n+1,hn=>fun a0 a1 a2 l h=>by
  have ih1:=Bl n (by omega)
  rw[vD]
  unfold jY
  simp only[cO,mD]at h
  have h2:=bK cO l
  have hl:=iQ (body:=gD n (fK n) l) (fun i=>((i:Int),a0,a1,a2,l.take i)) (len:=l.length) (r:=((l.length:Int),false,a0,a1,a2,l)) (fun i hi=>by
   have ha:l[i]? =some l[i]:=List.getElem?_eq_getElem hi
   generalize l[i]=a at ha
   have hd:=cU cO (List.mem_of_getElem? ha)
   simp only[gD,bT ha,cond_true,bB,ha,Option.bind_some,ih1 a.f0 a.f1 a.f2 a.f3 (by rw[dD]; omega),dD,sE 56 ha (by omega) (by omega),aN (show i<4611686018427387904 by omega)]) (by simp only[gD,aM,cond_false,List.take_length]) (n:=n) (by omega)
  refine(congrArg (fun q=>Option.bind q _) hl).trans ?_
  rfl
theorem Kf(f:aB):dl mJ f.f3≤wFn f:=by
 have:wFn f=3+f.f0.length+dl mJ f.f3:=rfl
 omega
theorem GT(n:Nat)(hn:n≤1099511627776)(fs:List aB)(ps:List aA)(h:dl wFn fs<n)(h3:dl cO ps<n):jE n fs ps=some (fs,ps):=by
 have l1:=bK wFn fs
 have l2:=bK cO ps
 unfold jE
 have hl:=iQ (body:=hG n fs) (fun i=>((i:Int),fs.take i,([]:List aA))) (len:=fs.length) (r:=((fs.length:Int),false,fs,[])) (fun i hi=>by
  have ha:fs[i]? =some fs[i]:=List.getElem?_eq_getElem hi
  generalize fs[i]=a at ha
  have hd:=cU wFn (List.mem_of_getElem? ha)
  have hi2:=Kf a
  have hli:=bK mJ a.f3
  have hap:tP 40 ([]:List aD) a.f3=some a.f3:=wX (by simp only[List.length_nil]; omega) (by simp only[List.length_nil,maxLen]; omega)
  simp only[hG,bT ha,cond_true,bB,ha,Option.bind_some,hap,nU,sE 56 ha (by omega) (by omega),aN (show i<4611686018427387904 by omega)]) (by simp only[hG,aM,cond_false,List.take_length]) (n:=n) (by omega)
 have hp:=iQ (body:=gZ n ps) (fun i=>((i:Int),fs,ps.take i)) (len:=ps.length) (r:=((ps.length:Int),false,fs,ps)) (fun i hi=>by
  have ha:ps[i]? =some ps[i]:=List.getElem?_eq_getElem hi
  generalize ps[i]=a at ha
  have hd:=cU cO (List.mem_of_getElem? ha)
  simp only[gZ,bT ha,cond_true,bB,ha,Option.bind_some,wK n hn a.f0 a.f1 a.f2 a.f3 (by rw[dD]; omega),dD,sE 56 ha (by omega) (by omega),aN (show i<4611686018427387904 by omega)]) (by simp only[gZ,aM,cond_false,List.take_length]) (n:=n) (by omega)
 refine(congrArg (fun q=>Option.bind q _) hl).trans ?_
 simp only[Option.bind_some]
 refine(congrArg (fun q=>Option.bind q _) hp).trans ?_
 rfl
theorem Bm(n:Nat)(hn:n≤1099511627776)(fs:List aB)(ps:List aA)(h:dl wFn fs<n)(h3:dl cO ps<n):fT n fs ps=some (fs,ps):=by
 have l1:=bK wFn fs
 have l2:=bK cO ps
 unfold fT
 have hl:=iQ (body:=fE n fs) (fun i=>((i:Int),fs.take i,([]:List aA))) (len:=fs.length) (r:=((fs.length:Int),false,fs,[])) (fun i hi=>by
  have ha:fs[i]? =some fs[i]:=List.getElem?_eq_getElem hi
  generalize fs[i]=a at ha
  have hd:=cU wFn (List.mem_of_getElem? ha)
  have hi2:=Kf a
  have hli:=bK mJ a.f3
  have hap:eC n a.f3=some a.f3:=by
   unfold eC
   rw[decide_eq_true (by omega)]; rfl
  simp only[fE,bT ha,cond_true,bB,ha,Option.bind_some,hap,nU,sE 56 ha (by omega) (by omega),aN (show i<4611686018427387904 by omega)]) (by simp only[fE,aM,cond_false,List.take_length]) (n:=n) (by omega)
 have hp:=iQ (body:=fD n ps) (fun i=>((i:Int),fs,ps.take i)) (len:=ps.length) (r:=((ps.length:Int),false,fs,ps)) (fun i hi=>by
  have ha:ps[i]? =some ps[i]:=List.getElem?_eq_getElem hi
  generalize ps[i]=a at ha
  have hd:=cU cO (List.mem_of_getElem? ha)
  simp only[fD,bT ha,cond_true,bB,ha,Option.bind_some,Bl n hn a.f0 a.f1 a.f2 a.f3 (by rw[dD]; omega),dD,sE 56 ha (by omega) (by omega),aN (show i<4611686018427387904 by omega)]) (by simp only[fD,aM,cond_false,List.take_length]) (n:=n) (by omega)
 refine(congrArg (fun q=>Option.bind q _) hl).trans ?_
 simp only[Option.bind_some]
 refine(congrArg (fun q=>Option.bind q _) hp).trans ?_
 rfl
theorem Sh{l:List aC}{i:Nat}{a:aC}(ha:l[i]? =some a)(hl:l.length<1099511627776):tP 128 (l.take i) [a]=some (l.take (i+1)):=by
 have hi:=bI ha
 rw[←tB ha]
 refine wX ?_ (by simp only[List.length_take,List.length_singleton,maxLen]; omega)
 have:((l.take i).length+[a].length)*128≤1099511627776*128:=Nat.mul_le_mul_right _ (by simp only[List.length_take,List.length_singleton]; omega)
 omega
theorem Ji(n:Nat)(hn:n≤1099511627776)(l:List aC)(h:dl bQ l<n):kB n l=some l:=by
 have l1:=bK bQ l
 unfold kB
 have hl:=iQ (body:=fY n l) (fun i=>(l.take i,(i:Int))) (len:=l.length) (r:=(l,(l.length:Int),false)) (fun i hi=>by
  have ha:l[i]? =some l[i]:=List.getElem?_eq_getElem hi
  generalize l[i]=a at ha
  have hd:=cU bQ (List.mem_of_getElem? ha)
  rw[sD]at hd
  simp only[fY,bT ha,cond_true,bB,ha,Option.bind_some,GT n hn a.f2 a.f3 (by omega) (by omega),GT n hn a.f5 a.f6 (by omega) (by omega),lA,Sh ha (by omega),aN (show i<4611686018427387904 by omega)]) (by simp only[fY,aM,cond_false,List.take_length]) (n:=n) (by omega)
 refine(congrArg (fun q=>Option.bind q _) hl).trans ?_
 rfl
theorem Gy(n:Nat)(hn:n≤1099511627776)(l:List aC)(h:dl bQ l<n):hJ n l=some l:=by
 have l1:=bK bQ l
 unfold hJ
 have hl:=iQ (body:=eD n l) (fun i=>(l.take i,(i:Int))) (len:=l.length) (r:=(l,(l.length:Int),false)) (fun i hi=>by
  have ha:l[i]? =some l[i]:=List.getElem?_eq_getElem hi
  generalize l[i]=a at ha
  have hd:=cU bQ (List.mem_of_getElem? ha)
  rw[sD]at hd
  simp only[eD,bT ha,cond_true,bB,ha,Option.bind_some,Bm n hn a.f2 a.f3 (by omega) (by omega),Bm n hn a.f5 a.f6 (by omega) (by omega),lA,Sh ha (by omega),aN (show i<4611686018427387904 by omega)]) (by simp only[eD,aM,cond_false,List.take_length]) (n:=n) (by omega)
 refine(congrArg (fun q=>Option.bind q _) hl).trans ?_
 rfl
def MN(s:List UInt8)(e:aC):Bool:=decide (e.f0=s)
def zI(l:List aC)(s:List UInt8):Int:=Fr (MN s) 0 l
theorem Nf(n:Nat)(l:List aC)(s:List UInt8)(h:l.length<n)(hn:n<4611686018427387904):mW n l s=some (zI l s):=by
 unfold mW
 have e:=rZ (body:=fR n l s) l (MN s) (fun i=>(i:Int)) (fun i=> .inl (i:Int)) (.inr ((l.length:Int),false)) (fun i a ha=>by
  have hi:=bI ha
  simp only[fR,bT ha,cond_true,bB,ha,Option.bind_some,aN (show i<4611686018427387904 by omega)]
  unfold MN
  cases decide (a.f0=s)<;>rfl) (by simp only[fR,aM,cond_false]) h
 have e:loopN (fR n l s) n (0:Int)=_:=e
 rw[e]
 unfold zI
 rcases nK (MN s) l 0 with⟨h1,_⟩ | ⟨k,a,h1,_⟩
 ·rw[h1]; rfl
 ·rw[h1,decide_eq_false (by omega)]
  simp only[cond_false,Option.bind_some,Int.toNat_natCast]
theorem Js(n:Nat)(l:List aC)(s:List UInt8)(h:l.length<n)(hn:n<4611686018427387904):kI n l s=some (zI l s):=by
 unfold kI dR
 have e:=rZ (body:=bM n l) l (MN s) (fun i=>((i:Int),s)) (fun i=> .inl ((i:Int),s)) (.inr ((l.length:Int),false,s)) (fun i a ha=>by
  have hi:=bI ha
  simp only[bM,kX,bT ha,cond_true,bB,ha,Option.bind_some,aN (show i<4611686018427387904 by omega)]
  unfold MN
  cases decide (a.f0=s)<;>rfl) (by simp only[bM,aM,cond_false]) h
 have e:loopN (bM n l) n ((0:Int),s)=_:=e
 rw[e]
 unfold zI
 rcases nK (MN s) l 0 with⟨h1,_⟩ | ⟨k,a,h1,_⟩
 ·rw[h1]; rfl
 ·rw[h1,decide_eq_false (by omega)]
  simp only[cond_false,Option.bind_some,Int.toNat_natCast]
end Go.Own.Q
