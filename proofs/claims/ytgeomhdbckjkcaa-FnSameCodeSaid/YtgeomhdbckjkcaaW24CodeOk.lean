/- When code is right: the program's answer and the reference's, in plain Lean. No conditions. -/
import Derived.Test.YtgeomhdbckjkcaaW24CodeHigh2
set_option linter.unusedVariables false
set_option linter.unusedSimpArgs false
set_option linter.unnecessarySimpa false
namespace Go.Own.Q
open Go Go.Proofs

def toI(is:List aF)(i:aF):Bool:=decide (0≤i.f3)&&decide (i.f3≤IntKind.wrap .i64 ((is.length:Int) - 1))
def toS(is:List aF)(at':Nat)(i:aF):Bool:=decide (((at'+1:Nat):Int)≤i.f3)&&decide (i.f3≤IntKind.wrap .i64 ((is.length:Int) - 1))
def AC(f:aG):Bool:=(decide (0≤f.f1)&&decide (f.f1≤4))&&((decide (f.f1≤f.f2)&&decide (f.f2≤400))&&(decide (1≤(f.f3.length:Int))&&decide ((f.f3.length:Int)≤1500)))
def hdB(fs:List aG)(j:Nat)(f:aG):Bool:=decide (pS fs f.f0=(j:Int))&&(gU f.f0&&AC f)
def fnI(fs:List aG)(ps:List aB)(f:aG):Bool:=(gU f.f0&&AC f)&&(f.f3.all (fun i=>sB fs ps f.f2 (toI f.f3 i) i)&&FZ 0 f.f3 (start f.f3.length) false)
def UJ(is:List aF):Bool:=match is[is.length - 1]? with
 | some i=>decide (i.f0=12)||decide (i.f0=11)
 | none=>false
def GK(fs:List aG)(ps:List aB)(f:aG):Bool:=sU (fun k i=>sB fs ps f.f2 (toS f.f3 k i) i) 0 f.f3
def fnS(fs:List aG)(ps:List aB)(j:Nat)(f:aG):Bool:=hdB fs j f&&(GK fs ps f&&(JP 0 f.f3 (start f.f3.length)&&UJ f.f3))
theorem FU(f:aG):wFn f=3+f.f0.length+dl iX f.f3:=rfl
theorem Rx(n:Nat)(hn:n≤1099511627776)(fs:List aG)(ps:List aB)(f:aG)(h:wFn f<n)(h2:fs.length<n)(h3:dl cS ps+400<n):oZ n f.f0 f.f1 f.f2 f.f3 fs ps=some (fnI fs ps f,fs,ps):=by
 rw[FU]at h
 have hl:=bM iX f.f3
 unfold oZ fnI
 have hd:((dZ n f.f0).bind fun c13_2=>bif !c13_2 then some true else(aR n f.f1 (0:Int) (4:Int)).bind fun c20_4=>bif !c20_4 then some true else(aR n f.f2 f.f1 (400:Int)).bind fun c32_6=>bif !c32_6 then some true else(aR n (f.f3.length:Int) (1:Int) (1500:Int)).bind fun c41_8=>some (!c41_8))=some (!(gU f.f0&&AC f)):=by
  unfold AC
  simp only[zB n f.f0 (by omega) (by omega),lF,Option.bind_some]
  cases gU f.f0<;>cases (decide (0≤f.f1)&&decide (f.f1≤4))<;>cases (decide (f.f1≤f.f2)&&decide (f.f2≤400))<;>rfl
 rw[hd,Option.bind_some]
 cases hp:(gU f.f0&&AC f)with
 | false=>rfl
 | true=>
  have h0:0<f.f3.length:=by
   unfold AC at hp
   simp only[Bool.and_eq_true,decide_eq_true_eq]at hp
   omega
  have e:=Bl (body:=iR n f.f0 f.f1 f.f2 f.f3) f.f3 (fun(_:Unit) i=>bif sB fs ps f.f2 (toI f.f3 i) i then Sum.inl ()else Sum.inr ()) (fun _ i=>((i:Int),fs,ps)) (fun _=>Sum.inr ((f.f3.length:Int),false,fs,ps)) (fun _=>Sum.inl (false,fs,ps)) (fun _=>True) (fun k i t hi _=>by
   have hk:=cH hi
   have hm:=eA iX (List.mem_of_getElem? hi)
   have e1:=PW n hn fs ps f.f0 f.f1 f.f2 f.f3 i h3 h2 (by omega)
   have e1:lI n f.f0 f.f1 f.f2 f.f3 i.f0 i.f1 i.f2 i.f3 fs ps=some (sB fs ps f.f2 (toI f.f3 i) i,fs,ps):=e1
   simp only[iR,cW hi,cond_true,cQ,hi,Option.bind_some,e1,aV (show k<4611686018427387904 by omega)]
   cases sB fs ps f.f2 (toI f.f3 i) i with
   | true=>exact .inl ⟨(),rfl,trivial,rfl⟩
   | false=>exact .inr ⟨(),rfl,rfl⟩) (fun t _=>by simp only[iR,aQ,cond_false]) (n:=n) (by omega) (t0:=()) trivial
  have e:loopN (iR n f.f0 f.f1 f.f2 f.f3) n ((0:Int),fs,ps)=_:=e
  rw[e]
  have hs: ∀l:List aF,vC (fun(_:Unit) i=>bif sB fs ps f.f2 (toI f.f3 i) i then(Sum.inl ():Unit⊕Unit)else Sum.inr ()) l ()=bif l.all (fun i=>sB fs ps f.f2 (toI f.f3 i) i)then .inl ()else .inr ():=fun l=>by
   induction l with
   | nil=>rfl
   | cons a r ih=>
    simp only[vC,List.all_cons]
    cases sB fs ps f.f2 (toI f.f3 a) a with
    | true=>exact ih
    | false=>rfl
  rw[hs]
  cases f.f3.all (fun i=>sB fs ps f.f2 (toI f.f3 i) i)with
  | false=>rfl
  | true=>
   obtain⟨l,l1⟩:=Hb n hn f.f0 f.f1 f.f2 f.f3 h0 (by omega)
   simp only[Bool.not_true,cond_false,cond_true,Option.bind_some,l1,Bool.true_and]
theorem IM{fs:List aG}{ps:List aB}{sl:Int}{to:Bool}{i:aF}(h:sB fs ps sl to i=true):1≤i.f0∧i.f0≤12:=by
 by_cases hx:i.f0=1∨i.f0=2∨i.f0=3∨i.f0=4∨i.f0=5∨i.f0=6∨i.f0=7∨i.f0=8∨i.f0=9∨i.f0=10
 ·omega
 ·unfold sB at h
  rw[decide_eq_false (show ¬ i.f0=1 by omega),decide_eq_false (show ¬ i.f0=2 by omega),decide_eq_false (show ¬ i.f0=3 by omega),decide_eq_false (show ¬ i.f0=4 by omega),decide_eq_false (show ¬ i.f0=5 by omega),decide_eq_false (show ¬ i.f0=6 by omega),decide_eq_false (show ¬ i.f0=7 by omega),decide_eq_false (show ¬ i.f0=8 by omega),decide_eq_false (show ¬ i.f0=9 by omega),decide_eq_false (show ¬ i.f0=10 by omega)]at h
  simp only[cond_false,Bool.and_eq_true,decide_eq_true_eq]at h
  omega
theorem Od{l:Nat}(h0:0<l)(h:l<4611686018427387904):IntKind.wrap .i64 ((l:Int) - 1)=((l - 1:Nat):Int):=by
 obtain⟨k,rfl⟩: ∃k,l=k+1:=⟨l - 1,by omega⟩
 rw[GX (by omega)]; simp
theorem NV{fs:List aG}{ps:List aB}{f:aG}(h:GK fs ps f=true)(h0:0<f.f3.length)(hl:f.f3.length<4611686018427387904): ∀(k:Nat) i,f.f3[k]? =some i→wfI f.f3.length k i:=by
 intro k i hi
 have:=(lL _ _ _).1 h k i hi
 rw[Nat.zero_add]at this
 obtain⟨h1,h2⟩:=IM this
 refine⟨h1,h2,fun h9=> ?_⟩
 rw[Es,Bool.and_eq_true]at this
 have hz:(decide (i.f0=9)||decide (i.f0=10))=true:=by
  rcases h9 with e | e<;>rw[e]<;>rfl
 rw[hz]at this
 have ht:toS f.f3 k i=true:=this.1
 unfold toS at ht
 rw[Od h0 hl]at ht
 simp only[Bool.and_eq_true,decide_eq_true_eq]at ht
 omega
theorem PX{fs:List aG}{ps:List aB}{sl:Int}{to:Bool}{i:aF}(h:sB fs ps sl to i=true)(ha: ∀f∈fs,0≤f.f1∧f.f1≤4):0≤wF i∧wF i≤20:=by
 have hop:=IM h
 have e:i.f0=1∨i.f0=2∨i.f0=3∨i.f0=4∨i.f0=5∨i.f0=6∨i.f0=7∨i.f0=8∨i.f0=9∨i.f0=10∨i.f0=11∨i.f0=12:=by omega
 have h8:i.f0=8→0≤i.f1∧i.f1≤4:=fun e8=>by
  unfold sB at h
  rw[e8]at h
  have h:sR fs i=true:=h
  unfold sR at h
  rcases Gz fs i.f2 with e | ⟨k,f,e,e2⟩
  ·rw[e]at h
   cases e3:fs[(-1:Int).toNat]? <;>rw[e3]at h<;>cases h
  ·rw[e,Int.toNat_natCast,e2]at h
   simp only[Bool.and_eq_true,decide_eq_true_eq]at h
   have:=ha f (List.mem_of_getElem? e2)
   omega
 have r4:i.f0=4→0≤i.f1∧i.f1≤20:=fun e4=>by
  unfold sB at h; rw[e4]at h
  have h:((decide (i.f2=[])&&decide (i.f3=0))&&(decide (0≤i.f1)&&decide (i.f1≤20)))=true:=h
  simp only[Bool.and_eq_true,decide_eq_true_eq]at h
  omega
 have r5:i.f0=5→0≤i.f1∧i.f1≤20:=fun e4=>by
  unfold sB at h; rw[e4]at h
  have h:((decide (i.f2=[])&&decide (i.f3=0))&&(decide (0≤i.f1)&&decide (i.f1≤20)))=true:=h
  simp only[Bool.and_eq_true,decide_eq_true_eq]at h
  omega
 have r6:i.f0=6→2≤i.f1∧i.f1≤6:=fun e4=>by
  unfold sB at h; rw[e4]at h
  have h:((decide (i.f2=[])&&decide (i.f3=0))&&(decide (2≤i.f1)&&decide (i.f1≤6)))=true:=h
  simp only[Bool.and_eq_true,decide_eq_true_eq]at h
  omega
 unfold wF
 rcases e with e | e | e | e | e | e | e | e | e | e | e | e
 case inr.inr.inr.inl=>have:=r4 e; rw[e]; exact this
 case inr.inr.inr.inr.inl=>have:=r5 e; rw[e]; exact this
 case inr.inr.inr.inr.inr.inl=>have:=r6 e; rw[e]; show 0≤i.f1∧i.f1≤20; omega
 case inr.inr.inr.inr.inr.inr.inr.inl=>have:=h8 e; rw[e]; show 0≤i.f1∧i.f1≤20; omega
 case inr.inr.inr.inr.inr.inr.inl=>rw[e]; show(0:Int)≤2∧(2:Int)≤20; omega
 case inr.inr.inr.inr.inr.inr.inr.inr.inl=>rw[e]; show(0:Int)≤1∧(1:Int)≤20; omega
 case inr.inr.inr.inr.inr.inr.inr.inr.inr.inr.inr=>rw[e]; show(0:Int)≤1∧(1:Int)≤20; omega
 all_goals (rw[e]; show(0:Int)≤0∧(0:Int)≤20; omega)
/-- Where the arguments of all are as told, both looks at one are the same. -/
theorem MW(fs:List aG)(ps:List aB)(j:Nat)(f:aG)(hl:f.f3.length<4611686018427387904)(ha: ∀f∈fs,0≤f.f1∧f.f1≤4):fnS fs ps j f=(decide (pS fs f.f0=(j:Int))&&fnI fs ps f):=by
 unfold fnS fnI hdB
 cases hd:decide (pS fs f.f0=(j:Int))with
 | false=>rfl
 | true=>
 simp only[Bool.true_and]
 cases hp:(gU f.f0&&AC f)with
 | false=>rfl
 | true=>
 simp only[Bool.true_and]
 have h0:0<f.f3.length:=by
  unfold AC at hp
  simp only[Bool.and_eq_true,decide_eq_true_eq]at hp
  omega
 have hst:(start f.f3.length).length=f.f3.length:=by simp [start]; omega
 cases hi:GK fs ps f with
 | true=>
  have hw:=NV hi h0 hl
  have e1:f.f3.all (fun i=>sB fs ps f.f2 (toI f.f3 i) i)=true:=by
   rw[List.all_eq_true]
   intro i hm
   obtain⟨k,hk⟩:=List.getElem?_of_mem hm
   have:=(lL _ _ _).1 hi k i hk
   rw[Nat.zero_add,Es]at this
   rw[Es]
   rw[Bool.and_eq_true]at this ⊢
   refine⟨?_,this.2⟩
   cases hz:(decide (i.f0=9)||decide (i.f0=10))with
   | false=>rfl
   | true=>
    rw[hz]at this
    have ht:toS f.f3 k i=true:=this.1
    unfold toS at ht
    show toI f.f3 i=true
    unfold toI
    simp only[Bool.and_eq_true,decide_eq_true_eq]at ht ⊢
    omega
  rw[e1]
  simp only[Bool.true_and]
  rw[UG f.f3.length f.f3 0 (start f.f3.length) hst (by omega) (Mz _) (fun k i hk=>by
   rw[Nat.zero_add]
   have:=(lL _ _ _).1 hi k i hk
   exact⟨hw k i hk,PX this ha⟩)]
  cases hr:JP 0 f.f3 (start f.f3.length)with
  | false=>rfl
  | true=>
   have hg:f.f3[f.f3.length - 1]? =some f.f3[f.f3.length - 1]:=List.getElem?_eq_getElem (by omega)
   generalize f.f3[f.f3.length - 1]=x at hg
   have:=Ge f.f3.length f.f3 0 (start f.f3.length) hst (by omega) (fun k i hk=>by rw[Nat.zero_add]; exact hw k i hk) hr x hg
   unfold UJ
   rw[hg]
   show(true&&(decide (x.f0=12)||decide (x.f0=11)))=true
   rcases this with e | e<;>rw[e]<;>rfl
 | false=>
  symm
  show(f.f3.all (fun i=>sB fs ps f.f2 (toI f.f3 i) i)&&FZ 0 f.f3 (start f.f3.length) false)=false
  rw[Bool.and_eq_false_iff]
  cases hr:FZ 0 f.f3 (start f.f3.length) false with
  | false=>exact .inr rfl
  | true=>
   refine .inl ?_
   cases hall:f.f3.all (fun i=>sB fs ps f.f2 (toI f.f3 i) i)with
   | false=>rfl
   | true=>
    have:GK fs ps f=true:=by
     unfold GK
     rw[lL]
     intro k i hk
     rw[Nat.zero_add]
     have h1:=List.all_eq_true.1 hall i (List.mem_of_getElem? hk)
     have h1:sB fs ps f.f2 (toI f.f3 i) i=true:=h1
     show sB fs ps f.f2 (toS f.f3 k i) i=true
     rw[Es]at h1 ⊢
     rw[Bool.and_eq_true]at h1 ⊢
     refine⟨?_,h1.2⟩
     cases hz:(decide (i.f0=9)||decide (i.f0=10))with
     | false=>rfl
     | true=>
      rw[hz]at h1
      have ht:toI f.f3 i=true:=h1.1
      have h9:i.f0=9∨i.f0=10:=by simpa using hz
      have hto:=Lv f.f3 0 _ _ hr k i hk h9
      show toS f.f3 k i=true
      unfold toI at ht
      unfold toS
      simp only[Bool.and_eq_true,decide_eq_true_eq]at ht ⊢
      omega
    rw[this]at hi
    cases hi
def BZ(fs:List aG)(ps:List aB):Bool:= !(decide (12<(fs.length:Int))||decide (2000<(ps.length:Int)))&&sU (fun j f=>decide (pS fs f.f0=(j:Int))&&fnI fs ps f) 0 fs
theorem Js{fs:List aG}{ps:List aB}{f:aG}(h:fnI fs ps f=true):0≤f.f1∧f.f1≤4:=by
 unfold fnI AC at h
 simp only[Bool.and_eq_true,decide_eq_true_eq]at h
 omega
theorem Pf{fs:List aG}{ps:List aB}{j:Nat}{f:aG}(h:fnS fs ps j f=true):0≤f.f1∧f.f1≤4:=by
 unfold fnS hdB AC at h
 simp only[Bool.and_eq_true,decide_eq_true_eq]at h
 omega
theorem all_same(fs:List aG)(ps:List aB)(hl: ∀f∈fs,f.f3.length<4611686018427387904):sU (fnS fs ps) 0 fs=sU (fun j f=>decide (pS fs f.f0=(j:Int))&&fnI fs ps f) 0 fs:=by
 rw[Bool.eq_iff_iff,lL,lL]
 constructor
 ·intro h j f hj
  rw[←MW fs ps _ f (hl f (List.mem_of_getElem? hj)) (fun g hg=>by
   obtain⟨k,hk⟩:=List.getElem?_of_mem hg
   exact Pf (h k g hk))]
  exact h j f hj
 ·intro h j f hj
  rw[MW fs ps _ f (hl f (List.mem_of_getElem? hj)) (fun g hg=>by
   obtain⟨k,hk⟩:=List.getElem?_of_mem hg
   exact Js (Bool.and_eq_true _ _ ▸ h k g hk).2)]
  exact h j f hj
theorem Di(n:Nat)(hn:n≤1099511627776)(fs:List aG)(ps:List aB)(h:dl wFn fs<n)(h3:dl cS ps+400<n):mA n fs ps=some (BZ fs ps):=by
 have hl:=bM wFn fs
 unfold mA BZ
 have e:=MK (body:=fU n fs) (fun i=>((i:Int),fs,ps)) (fun j=>match fs[j]? with | some f=> !(decide (pS fs f.f0=(j:Int))&&fnI fs ps f) | none=>false) (Sum.inl false) (Sum.inr ((fs.length:Int),false,fs,ps)) (len:=fs.length) fs.length 0 (by omega) (fun j _ hj=>by
  have hg:fs[j]? =some fs[j]:=List.getElem?_eq_getElem hj
  generalize fs[j]=f at hg
  have hm:=eA wFn (List.mem_of_getElem? hg)
  rw[hg]
  simp only[fU,cW hg,cond_true,cQ,hg,Option.bind_some,MX n fs ps f.f0 (by omega) (by omega),Rx n hn fs ps f (by omega) (by omega) h3,aV (show j<4611686018427387904 by omega)]
  cases decide (pS fs f.f0=(j:Int))<;>cases fnI fs ps f<;>rfl) (by simp only[fU,aQ,cond_false]) (n:=n) (by omega)
 have e:loopN (fU n fs) n ((0:Int),fs,ps)=_:=e
 rw[e]
 have hu:FY (fun j=>match fs[j]? with | some f=> !(decide (pS fs f.f0=(j:Int))&&fnI fs ps f) | none=>false) 0 fs.length= !(sU (fun j f=>decide (pS fs f.f0=(j:Int))&&fnI fs ps f) 0 fs):=by
  rw[Bool.eq_iff_iff,CA,Bool.not_eq_true', ←Bool.not_eq_true,lL]
  constructor
  ·rintro ⟨j,_,hj,hb⟩ hall
   have hg:fs[j]? =some fs[j]:=List.getElem?_eq_getElem (by omega)
   have:=hall j _ hg
   rw[hg]at hb
   simp only[Nat.zero_add]at this
   simp only[this]at hb
   cases hb
  ·intro hall
   apply Classical.byContradiction
   intro hno
   apply hall
   intro j f hj
   rw[Nat.zero_add]
   cases hb:(decide (pS fs f.f0=(j:Int))&&fnI fs ps f)with
   | true=>rfl
   | false=>exact absurd ⟨j,by omega,by have:=cH hj; omega,by rw[hj]; simp only[hb]; rfl⟩ hno
 rw[hu]
 generalize sU _ 0 fs=q
 generalize decide (2000<(ps.length:Int))=z
 cases decide (12<(fs.length:Int))<;>cases z<;>cases q<;>rfl
end Go.Own.Q
