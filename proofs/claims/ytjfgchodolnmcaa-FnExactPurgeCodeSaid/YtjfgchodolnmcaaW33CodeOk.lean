/- When code is right: the program's answer and the reference's, in plain Lean. No conditions. -/
import Derived.Test.YtjfgchodolnmcaaW33CodeHigh2
set_option linter.unusedVariables false
set_option linter.unusedSimpArgs false
set_option linter.unnecessarySimpa false
namespace Go.Own.Q
open Go Go.Proofs

def toI(is:List aD)(i:aD):Bool:=decide (0≤i.f3)&&decide (i.f3≤IntKind.wrap .i64 ((is.length:Int) - 1))
def toS(is:List aD)(at':Nat)(i:aD):Bool:=decide (((at'+1:Nat):Int)≤i.f3)&&decide (i.f3≤IntKind.wrap .i64 ((is.length:Int) - 1))
def wQ(f:aB):Bool:=(decide (0≤f.f1)&&decide (f.f1≤4))&&((decide (f.f1≤f.f2)&&decide (f.f2≤400))&&(decide (1≤(f.f3.length:Int))&&decide ((f.f3.length:Int)≤1500)))
def hdB(fs:List aB)(j:Nat)(f:aB):Bool:=decide (nI fs f.f0=(j:Int))&&(fO f.f0&&wQ f)
def fnI(fs:List aB)(ps:List aA)(f:aB):Bool:=(fO f.f0&&wQ f)&&(f.f3.all (fun i=>pF fs ps f.f2 (toI f.f3 i) i)&&Ev 0 f.f3 (start f.f3.length) false)
def PM(is:List aD):Bool:=match is[is.length - 1]? with
 | some i=>decide (i.f0=12)||decide (i.f0=11)
 | none=>false
def zV(fs:List aB)(ps:List aA)(f:aB):Bool:=qK (fun k i=>pF fs ps f.f2 (toS f.f3 k i) i) 0 f.f3
def fnS(fs:List aB)(ps:List aA)(j:Nat)(f:aB):Bool:=hdB fs j f&&(zV fs ps f&&(Bs 0 f.f3 (start f.f3.length)&&PM f.f3))
theorem PG(f:aB):wFn f=3+f.f0.length+dl mJ f.f3:=rfl
theorem QN(n:Nat)(hn:n≤1099511627776)(fs:List aB)(ps:List aA)(f:aB)(h:wFn f<n)(h2:fs.length<n)(h3:dl cO ps+400<n):oF n f.f0 f.f1 f.f2 f.f3 fs ps=some (fnI fs ps f,fs,ps):=by
 rw[PG]at h
 have hl:=bK mJ f.f3
 unfold oF fnI
 have hd:((dC n f.f0).bind fun c13_2=>bif !c13_2 then some true else(aQ n f.f1 (0:Int) (4:Int)).bind fun c20_4=>bif !c20_4 then some true else(aQ n f.f2 f.f1 (400:Int)).bind fun c32_6=>bif !c32_6 then some true else(aQ n (f.f3.length:Int) (1:Int) (1500:Int)).bind fun c41_8=>some (!c41_8))=some (!(fO f.f0&&wQ f)):=by
  unfold wQ
  simp only[xY n f.f0 (by omega) (by omega),jA,Option.bind_some]
  cases fO f.f0<;>cases (decide (0≤f.f1)&&decide (f.f1≤4))<;>cases (decide (f.f1≤f.f2)&&decide (f.f2≤400))<;>rfl
 rw[hd,Option.bind_some]
 cases hp:(fO f.f0&&wQ f)with
 | false=>rfl
 | true=>
  have h0:0<f.f3.length:=by
   unfold wQ at hp
   simp only[Bool.and_eq_true,decide_eq_true_eq]at hp
   omega
  have e:=BK (body:=iD n f.f0 f.f1 f.f2 f.f3) f.f3 (fun(_:Unit) i=>bif pF fs ps f.f2 (toI f.f3 i) i then Sum.inl ()else Sum.inr ()) (fun _ i=>((i:Int),fs,ps)) (fun _=>Sum.inr ((f.f3.length:Int),false,fs,ps)) (fun _=>Sum.inl (false,fs,ps)) (fun _=>True) (fun k i t hi _=>by
   have hk:=bI hi
   have hm:=cU mJ (List.mem_of_getElem? hi)
   have e1:=Nh n hn fs ps f.f0 f.f1 f.f2 f.f3 i h3 h2 (by omega)
   have e1:lD n f.f0 f.f1 f.f2 f.f3 i.f0 i.f1 i.f2 i.f3 fs ps=some (pF fs ps f.f2 (toI f.f3 i) i,fs,ps):=e1
   simp only[iD,bT hi,cond_true,bB,hi,Option.bind_some,e1,aN (show k<4611686018427387904 by omega)]
   cases pF fs ps f.f2 (toI f.f3 i) i with
   | true=>exact .inl ⟨(),rfl,trivial,rfl⟩
   | false=>exact .inr ⟨(),rfl,rfl⟩) (fun t _=>by simp only[iD,aM,cond_false]) (n:=n) (by omega) (t0:=()) trivial
  have e:loopN (iD n f.f0 f.f1 f.f2 f.f3) n ((0:Int),fs,ps)=_:=e
  rw[e]
  have hs: ∀l:List aD,xO (fun(_:Unit) i=>bif pF fs ps f.f2 (toI f.f3 i) i then(Sum.inl ():Unit⊕Unit)else Sum.inr ()) l ()=bif l.all (fun i=>pF fs ps f.f2 (toI f.f3 i) i)then .inl ()else .inr ():=fun l=>by
   induction l with
   | nil=>rfl
   | cons a r ih=>
    simp only[xO,List.all_cons]
    cases pF fs ps f.f2 (toI f.f3 a) a with
    | true=>exact ih
    | false=>rfl
  rw[hs]
  cases f.f3.all (fun i=>pF fs ps f.f2 (toI f.f3 i) i)with
  | false=>rfl
  | true=>
   obtain⟨l,l1⟩:=Gw n hn f.f0 f.f1 f.f2 f.f3 h0 (by omega)
   simp only[Bool.not_true,cond_false,cond_true,Option.bind_some,l1,Bool.true_and]
theorem LI{fs:List aB}{ps:List aA}{sl:Int}{to:Bool}{i:aD}(h:pF fs ps sl to i=true):1≤i.f0∧i.f0≤12:=by
 by_cases hx:i.f0=1∨i.f0=2∨i.f0=3∨i.f0=4∨i.f0=5∨i.f0=6∨i.f0=7∨i.f0=8∨i.f0=9∨i.f0=10
 ·omega
 ·unfold pF at h
  rw[decide_eq_false (show ¬ i.f0=1 by omega),decide_eq_false (show ¬ i.f0=2 by omega),decide_eq_false (show ¬ i.f0=3 by omega),decide_eq_false (show ¬ i.f0=4 by omega),decide_eq_false (show ¬ i.f0=5 by omega),decide_eq_false (show ¬ i.f0=6 by omega),decide_eq_false (show ¬ i.f0=7 by omega),decide_eq_false (show ¬ i.f0=8 by omega),decide_eq_false (show ¬ i.f0=9 by omega),decide_eq_false (show ¬ i.f0=10 by omega)]at h
  simp only[cond_false,Bool.and_eq_true,decide_eq_true_eq]at h
  omega
theorem Il{l:Nat}(h0:0<l)(h:l<4611686018427387904):IntKind.wrap .i64 ((l:Int) - 1)=((l - 1:Nat):Int):=by
 obtain⟨k,rfl⟩: ∃k,l=k+1:=⟨l - 1,by omega⟩
 rw[vS (by omega)]; simp
theorem GV{fs:List aB}{ps:List aA}{f:aB}(h:zV fs ps f=true)(h0:0<f.f3.length)(hl:f.f3.length<4611686018427387904): ∀(k:Nat) i,f.f3[k]? =some i→wfI f.f3.length k i:=by
 intro k i hi
 have:=(nM _ _ _).1 h k i hi
 rw[Nat.zero_add]at this
 obtain⟨h1,h2⟩:=LI this
 refine⟨h1,h2,fun h9=> ?_⟩
 rw[ER,Bool.and_eq_true]at this
 have hz:(decide (i.f0=9)||decide (i.f0=10))=true:=by
  rcases h9 with e | e<;>rw[e]<;>rfl
 rw[hz]at this
 have ht:toS f.f3 k i=true:=this.1
 unfold toS at ht
 rw[Il h0 hl]at ht
 simp only[Bool.and_eq_true,decide_eq_true_eq]at ht
 omega
theorem Ni{fs:List aB}{ps:List aA}{sl:Int}{to:Bool}{i:aD}(h:pF fs ps sl to i=true)(ha: ∀f∈fs,0≤f.f1∧f.f1≤4):0≤pE i∧pE i≤20:=by
 have hop:=LI h
 have e:i.f0=1∨i.f0=2∨i.f0=3∨i.f0=4∨i.f0=5∨i.f0=6∨i.f0=7∨i.f0=8∨i.f0=9∨i.f0=10∨i.f0=11∨i.f0=12:=by omega
 have h8:i.f0=8→0≤i.f1∧i.f1≤4:=fun e8=>by
  unfold pF at h
  rw[e8]at h
  have h:tW fs i=true:=h
  unfold tW at h
  rcases GW fs i.f2 with e | ⟨k,f,e,e2⟩
  ·rw[e]at h
   cases e3:fs[(-1:Int).toNat]? <;>rw[e3]at h<;>cases h
  ·rw[e,Int.toNat_natCast,e2]at h
   simp only[Bool.and_eq_true,decide_eq_true_eq]at h
   have:=ha f (List.mem_of_getElem? e2)
   omega
 have r4:i.f0=4→0≤i.f1∧i.f1≤20:=fun e4=>by
  unfold pF at h; rw[e4]at h
  have h:((decide (i.f2=[])&&decide (i.f3=0))&&(decide (0≤i.f1)&&decide (i.f1≤20)))=true:=h
  simp only[Bool.and_eq_true,decide_eq_true_eq]at h
  omega
 have r5:i.f0=5→0≤i.f1∧i.f1≤20:=fun e4=>by
  unfold pF at h; rw[e4]at h
  have h:((decide (i.f2=[])&&decide (i.f3=0))&&(decide (0≤i.f1)&&decide (i.f1≤20)))=true:=h
  simp only[Bool.and_eq_true,decide_eq_true_eq]at h
  omega
 have r6:i.f0=6→2≤i.f1∧i.f1≤6:=fun e4=>by
  unfold pF at h; rw[e4]at h
  have h:((decide (i.f2=[])&&decide (i.f3=0))&&(decide (2≤i.f1)&&decide (i.f1≤6)))=true:=h
  simp only[Bool.and_eq_true,decide_eq_true_eq]at h
  omega
 unfold pE
 rcases e with e | e | e | e | e | e | e | e | e | e | e | e
 case inr.inr.inr.inl=>have:=r4 e; rw[e]; exact this
 case inr.inr.inr.inr.inl=>have:=r5 e; rw[e]; exact this
 case inr.inr.inr.inr.inr.inl=>have:=r6 e; rw[e]; show 0≤i.f1∧i.f1≤20; omega
 case inr.inr.inr.inr.inr.inr.inr.inl=>have:=h8 e; rw[e]; show 0≤i.f1∧i.f1≤20; omega
 case inr.inr.inr.inr.inr.inr.inl=>rw[e]; show(0:Int)≤2∧(2:Int)≤20; omega
 case inr.inr.inr.inr.inr.inr.inr.inr.inl=>rw[e]; show(0:Int)≤1∧(1:Int)≤20; omega
 case inr.inr.inr.inr.inr.inr.inr.inr.inr.inr.inr=>rw[e]; show(0:Int)≤1∧(1:Int)≤20; omega
 all_goals (rw[e]; show(0:Int)≤0∧(0:Int)≤20; omega)
theorem Lt(n:Nat)(hn:n≤1099511627776)(fs:List aB)(ps:List aA)(j:Nat)(f:aB)(hj:fs[j]? =some f)(h:wFn f<n)(h2:fs.length<n)(h3:dl cO ps+400<n):lL n fs ps (j:Int)=some (fnS fs ps j f):=by
 rw[PG]at h
 have hl:=bK mJ f.f3
 unfold lL fnS
 rw[bB,hj,Option.bind_some]
 have hd:((eO n f.f0).bind fun c17_3=>bif !c17_3 then some true else(gL n fs ps f.f0).bind fun c23_5=>bif !decide (c23_5=(j:Int))then some true else(aW n f.f1 (0:Int) (4:Int)).bind fun c30_7=>bif !c30_7 then some true else(aW n f.f2 f.f1 (400:Int)).bind fun c38_9=>bif !c38_9 then some true else(aW n (f.f3.length:Int) (1:Int) (1500:Int)).bind fun c45_11=>some (!c45_11))=some (!(hdB fs j f)):=by
  unfold hdB wQ
  simp only[BM n f.f0 (by omega) (by omega),GS n fs ps f.f0 h2 (by omega),rU,Option.bind_some]
  cases fO f.f0<;>cases decide (nI fs f.f0=(j:Int))<;>cases (decide (0≤f.f1)&&decide (f.f1≤4))<;>cases (decide (f.f1≤f.f2)&&decide (f.f2≤400))<;>rfl
 rw[hd,Option.bind_some]
 cases hp:hdB fs j f with
 | false=>rfl
 | true=>
  have h0:0<f.f3.length:=by
   unfold hdB wQ at hp
   simp only[Bool.and_eq_true,decide_eq_true_eq]at hp
   omega
  simp only[Bool.not_true,cond_false,Bool.true_and]
  rw[qM f.f3 (fun k i=>pF fs ps f.f2 (toS f.f3 k i) i) (fun k i hi=>by
   have hk:=bI hi
   have hm:=cU mJ (List.mem_of_getElem? hi)
   have e1:=Nd n hn fs ps f.f0 f.f1 f.f2 f.f3 k i hi (by omega) h3 h2 (by omega)
   have e1:lC n fs ps f.f0 f.f1 f.f2 f.f3 (k:Int)=some (pF fs ps f.f2 (toS f.f3 k i) i):=e1
   simp only[kN,bT hi,cond_true,Option.bind_some,e1,aN (show k<4611686018427387904 by omega)]
   cases pF fs ps f.f2 (toS f.f3 k i) i<;>rfl) (by simp only[kN,aM,cond_false]) (by omega)]
  have hia:qK (fun k i=>pF fs ps f.f2 (toS f.f3 k i) i) 0 f.f3=zV fs ps f:=rfl
  rw[hia]
  cases ha:zV fs ps f with
  | false=>rfl
  | true=>
   obtain⟨l,l1⟩:=Gt n hn f.f0 f.f1 f.f2 f.f3 h0 (by omega) (GV ha h0 (by omega))
   simp only[if_true,Option.bind_some,l1]
   rw[Il h0 (by omega),bB]
   unfold PM
   have hg:f.f3[f.f3.length - 1]? =some f.f3[f.f3.length - 1]:=List.getElem?_eq_getElem (by omega)
   generalize f.f3[f.f3.length - 1]=x at hg
   rw[hg]
   simp only[Option.bind_some]
   generalize decide (x.f0=11)=z
   cases Bs 0 f.f3 (start f.f3.length)<;>cases decide (x.f0=12)<;>rfl
/-- Where the arguments of all are as told, both looks at one are the same. -/
theorem LK(fs:List aB)(ps:List aA)(j:Nat)(f:aB)(hl:f.f3.length<4611686018427387904)(ha: ∀f∈fs,0≤f.f1∧f.f1≤4):fnS fs ps j f=(decide (nI fs f.f0=(j:Int))&&fnI fs ps f):=by
 unfold fnS fnI hdB
 cases hd:decide (nI fs f.f0=(j:Int))with
 | false=>rfl
 | true=>
 simp only[Bool.true_and]
 cases hp:(fO f.f0&&wQ f)with
 | false=>rfl
 | true=>
 simp only[Bool.true_and]
 have h0:0<f.f3.length:=by
  unfold wQ at hp
  simp only[Bool.and_eq_true,decide_eq_true_eq]at hp
  omega
 have hst:(start f.f3.length).length=f.f3.length:=by simp [start]; omega
 cases hi:zV fs ps f with
 | true=>
  have hw:=GV hi h0 hl
  have e1:f.f3.all (fun i=>pF fs ps f.f2 (toI f.f3 i) i)=true:=by
   rw[List.all_eq_true]
   intro i hm
   obtain⟨k,hk⟩:=List.getElem?_of_mem hm
   have:=(nM _ _ _).1 hi k i hk
   rw[Nat.zero_add,ER]at this
   rw[ER]
   rw[Bool.and_eq_true]at this ⊢
   refine⟨?_,this.2⟩
   cases hz:(decide (i.f0=9)||decide (i.f0=10))with
   | false=>rfl
   | true=>
    rw[hz]at this
    have ht:toS f.f3 k i=true:=this.1
    unfold toS at ht
    show toI f.f3 i=true
    unfold toI
    simp only[Bool.and_eq_true,decide_eq_true_eq]at ht ⊢
    omega
  rw[e1]
  simp only[Bool.true_and]
  rw[SZ f.f3.length f.f3 0 (start f.f3.length) hst (by omega) (Lm _) (fun k i hk=>by
   rw[Nat.zero_add]
   have:=(nM _ _ _).1 hi k i hk
   exact⟨hw k i hk,Ni this ha⟩)]
  cases hr:Bs 0 f.f3 (start f.f3.length)with
  | false=>rfl
  | true=>
   have hg:f.f3[f.f3.length - 1]? =some f.f3[f.f3.length - 1]:=List.getElem?_eq_getElem (by omega)
   generalize f.f3[f.f3.length - 1]=x at hg
   have:=Fy f.f3.length f.f3 0 (start f.f3.length) hst (by omega) (fun k i hk=>by rw[Nat.zero_add]; exact hw k i hk) hr x hg
   unfold PM
   rw[hg]
   show(true&&(decide (x.f0=12)||decide (x.f0=11)))=true
   rcases this with e | e<;>rw[e]<;>rfl
 | false=>
  symm
  show(f.f3.all (fun i=>pF fs ps f.f2 (toI f.f3 i) i)&&Ev 0 f.f3 (start f.f3.length) false)=false
  rw[Bool.and_eq_false_iff]
  cases hr:Ev 0 f.f3 (start f.f3.length) false with
  | false=>exact .inr rfl
  | true=>
   refine .inl ?_
   cases hall:f.f3.all (fun i=>pF fs ps f.f2 (toI f.f3 i) i)with
   | false=>rfl
   | true=>
    have:zV fs ps f=true:=by
     unfold zV
     rw[nM]
     intro k i hk
     rw[Nat.zero_add]
     have h1:=List.all_eq_true.1 hall i (List.mem_of_getElem? hk)
     have h1:pF fs ps f.f2 (toI f.f3 i) i=true:=h1
     show pF fs ps f.f2 (toS f.f3 k i) i=true
     rw[ER]at h1 ⊢
     rw[Bool.and_eq_true]at h1 ⊢
     refine⟨?_,h1.2⟩
     cases hz:(decide (i.f0=9)||decide (i.f0=10))with
     | false=>rfl
     | true=>
      rw[hz]at h1
      have ht:toI f.f3 i=true:=h1.1
      have h9:i.f0=9∨i.f0=10:=by simpa using hz
      have hto:=Kl f.f3 0 _ _ hr k i hk h9
      show toS f.f3 k i=true
      unfold toI at ht
      unfold toS
      simp only[Bool.and_eq_true,decide_eq_true_eq]at ht ⊢
      omega
    rw[this]at hi
    cases hi
def BB(fs:List aB)(ps:List aA):Bool:= !(decide (12<(fs.length:Int))||decide (2000<(ps.length:Int)))&&qK (fun j f=>decide (nI fs f.f0=(j:Int))&&fnI fs ps f) 0 fs
theorem Nq{fs:List aB}{ps:List aA}{f:aB}(h:fnI fs ps f=true):0≤f.f1∧f.f1≤4:=by
 unfold fnI wQ at h
 simp only[Bool.and_eq_true,decide_eq_true_eq]at h
 omega
theorem Np{fs:List aB}{ps:List aA}{j:Nat}{f:aB}(h:fnS fs ps j f=true):0≤f.f1∧f.f1≤4:=by
 unfold fnS hdB wQ at h
 simp only[Bool.and_eq_true,decide_eq_true_eq]at h
 omega
theorem OI(fs:List aB)(ps:List aA)(hl: ∀f∈fs,f.f3.length<4611686018427387904):qK (fnS fs ps) 0 fs=qK (fun j f=>decide (nI fs f.f0=(j:Int))&&fnI fs ps f) 0 fs:=by
 rw[Bool.eq_iff_iff,nM,nM]
 constructor
 ·intro h j f hj
  rw[←LK fs ps _ f (hl f (List.mem_of_getElem? hj)) (fun g hg=>by
   obtain⟨k,hk⟩:=List.getElem?_of_mem hg
   exact Np (h k g hk))]
  exact h j f hj
 ·intro h j f hj
  rw[LK fs ps _ f (hl f (List.mem_of_getElem? hj)) (fun g hg=>by
   obtain⟨k,hk⟩:=List.getElem?_of_mem hg
   exact Nq (Bool.and_eq_true _ _ ▸ h k g hk).2)]
  exact h j f hj
theorem uB(n:Nat)(hn:n≤1099511627776)(fs:List aB)(ps:List aA)(h:dl wFn fs<n)(h3:dl cO ps+400<n):jF n fs ps=some (BB fs ps):=by
 have hl:=bK wFn fs
 unfold jF BB
 rw[qM fs (fnS fs ps) (fun j f hj=>by
  have hk:=bI hj
  have hm:=cU wFn (List.mem_of_getElem? hj)
  simp only[kO,bT hj,cond_true,Option.bind_some,Lt n hn fs ps j f hj (by omega) (by omega) h3,aN (show j<4611686018427387904 by omega)]
  cases fnS fs ps j f<;>rfl) (by simp only[kO,aM,cond_false]) (by omega),OI fs ps (fun f hf=>by
   have:=cU wFn hf
   have:=bK mJ f.f3
   rw[PG]at*; omega)]
 generalize qK _ 0 fs=q
 generalize decide (2000<(ps.length:Int))=z
 cases decide (12<(fs.length:Int))<;>cases z<;>cases q<;>rfl
theorem uE(n:Nat)(hn:n≤1099511627776)(fs:List aB)(ps:List aA)(h:dl wFn fs<n)(h3:dl cO ps+400<n):jJ n fs ps=some (BB fs ps):=by
 have hl:=bK wFn fs
 unfold jJ BB
 have e:=LA (body:=eI n fs) (fun i=>((i:Int),fs,ps)) (fun j=>match fs[j]? with | some f=> !(decide (nI fs f.f0=(j:Int))&&fnI fs ps f) | none=>false) (Sum.inl false) (Sum.inr ((fs.length:Int),false,fs,ps)) (len:=fs.length) fs.length 0 (by omega) (fun j _ hj=>by
  have hg:fs[j]? =some fs[j]:=List.getElem?_eq_getElem hj
  generalize fs[j]=f at hg
  have hm:=cU wFn (List.mem_of_getElem? hg)
  rw[hg]
  simp only[eI,bT hg,cond_true,bB,hg,Option.bind_some,LL n fs ps f.f0 (by omega) (by omega),QN n hn fs ps f (by omega) (by omega) h3,aN (show j<4611686018427387904 by omega)]
  cases decide (nI fs f.f0=(j:Int))<;>cases fnI fs ps f<;>rfl) (by simp only[eI,aM,cond_false]) (n:=n) (by omega)
 have e:loopN (eI n fs) n ((0:Int),fs,ps)=_:=e
 rw[e]
 have hu:Eu (fun j=>match fs[j]? with | some f=> !(decide (nI fs f.f0=(j:Int))&&fnI fs ps f) | none=>false) 0 fs.length= !(qK (fun j f=>decide (nI fs f.f0=(j:Int))&&fnI fs ps f) 0 fs):=by
  rw[Bool.eq_iff_iff,BW,Bool.not_eq_true', ←Bool.not_eq_true,nM]
  constructor
  ·rintro ⟨j,_,hj,hb⟩ hall
   have hg:fs[j]? =some fs[j]:=List.getElem?_eq_getElem (by omega)
   have:=hall j _ hg
   rw[hg]at hb
   simp only[Nat.zero_add]at this
   simp only[this]at hb
   cases hb
  ·intro hall
   apply Classical.byContradiction
   intro hno
   apply hall
   intro j f hj
   rw[Nat.zero_add]
   cases hb:(decide (nI fs f.f0=(j:Int))&&fnI fs ps f)with
   | true=>rfl
   | false=>exact absurd ⟨j,by omega,by have:=bI hj; omega,by rw[hj]; simp only[hb]; rfl⟩ hno
 rw[hu]
 generalize qK _ 0 fs=q
 generalize decide (2000<(ps.length:Int))=z
 cases decide (12<(fs.length:Int))<;>cases z<;>cases q<;>rfl
end Go.Own.Q
