/- The readers of both: numbers and texts. No conditions. -/
import Derived.Test.YtjfgchodolnmcaaW32GetCan
set_option linter.unusedVariables false
set_option linter.unusedSimpArgs false
set_option linter.unnecessarySimpa false
namespace Go.Own.Q
open Go Go.Proofs

theorem NZ(n:Nat)(l:List Int)(hn:10<n)(hl:l.length<1099511627776)(hb: ∀x∈l,0≤x∧x<256)(at':Nat)(hat:at'≤l.length)(bad:Bool):aM n l (at':Int) bad=aX n l (at':Int) bad:=by
 unfold aM aX
 rw[iW n l hn hl hb at' hat,tX n l hn hl hb at' hat]
theorem Lr(n:Nat)(l:List Int)(hn:10<n)(hl:l.length<1099511627776)(hb: ∀x∈l,0≤x∧x<256)(at':Nat)(hat:at'≤l.length)(bad:Bool):aS n l (at':Int) bad=eK n l (at':Int) bad:=by
 unfold aS eK iU mH
 rw[iW n l hn hl hb at' hat,tX n l hn hl hb at' hat]
/-- What a number's reader gives. -/
def rdN(l:List Int)(at':Nat)(bad:Bool):Int×List Int×Int×Bool:=bif bad|| !(Bn l at').2.2 then(0,l,(at':Int),true)else((Bn l at').1,l,(Bn l at').2.1,bad)
theorem KX(n:Nat)(l:List Int)(hn:10<n)(hl:l.length<1099511627776)(hb: ∀x∈l,0≤x∧x<256)(at':Nat)(hat:at'≤l.length)(bad:Bool):aM n l (at':Int) bad=some (rdN l at' bad):=by
 unfold aM rdN
 rw[iW n l hn hl hb at' hat]
 simp only[Option.bind_some]
 cases bad<;>cases (Bn l at').2.2<;>rfl
/-- A number that was read is what is written there. -/
theorem GN{l:List Int}{at':Nat}(hb: ∀x∈l,0≤x∧x<256)(hat:at'≤l.length)(h:(Bn l at').2.2=true): ∃c:Nat,(Bn l at').2.1=((at'+c:Nat):Int)∧at'+c≤l.length∧(l.drop at').take c=qE (Bn l at').1∧okR (Bn l at').1=true:=by
 unfold Bn at h ⊢
 cases hg:IR 6 0 0 (l.drop at')with
 | none=>rw[hg]at h; cases h
 | some p=>
  obtain⟨x,c⟩:=p
  rw[hg]at h
  simp only[IN]at h ⊢
  cases hr:okR (fA x)with
  | false=>rw[hr]at h; cases h
  | true=>
   simp only[cond_true]
   obtain⟨h1,h2⟩:=Np (fun e he=>hb e (List.mem_of_mem_drop he)) hg hr
   rw[List.length_drop]at h2
   exact⟨c,rfl,by omega,h1,hr⟩
theorem rX: ∀ {l:List Int},(∀x∈l,0≤x∧x<256)→ ∃s,lU l=some s∧(s.map fun c=>((c.toNat:Nat):Int))=l
 | [],_=>⟨[],rfl,rfl⟩
 | x::r,h=>by
  have hx:=h x List.mem_cons_self
  obtain⟨s,h1,h2⟩:=rX (l:=r) (fun e he=>h e (List.mem_cons_of_mem _ he))
  refine⟨UInt8.ofNat x.toNat::s, ?_, ?_⟩
  ·show(if 0≤x∧x<256 then(lU r).map (UInt8.ofNat x.toNat:: ·)else none)=_
   rw[if_pos hx,h1]; rfl
  ·simp only[List.map_cons,h2,UInt8.toNat_ofNat']
   congr 1; omega
theorem Sv(l:List Int)(a b:Nat)(hab:a≤b)(hb:b≤l.length):sub l (some (a:Int)) (some (b:Int))=some ((l.drop a).take (b - a)):=by
 unfold sub bnd
 simp only[Option.getD_some]
 rw[if_pos ⟨by omega,by omega,by omega⟩]
 simp only[Option.map_some,Int.toNat_natCast]
/-- What a text's reader gives; where it ends well, what it read is as it is written. -/
theorem Km(n:Nat)(l:List Int)(hn:10<n)(hl:l.length<1099511627776)(hb: ∀x∈l,0≤x∧x<256)(at':Nat)(hat:at'≤l.length)(bad:Bool): ∃(s:List UInt8) (a:Nat) (b:Bool),aS n l (at':Int) bad=some (s,l,(a:Int),b)∧at'≤a∧a≤l.length∧(bad=true→b=true)∧(b=false→(l.drop at').take (a - at')=qE (s.length:Int)++s.map fun c=>((c.toNat:Nat):Int)):=by
 have hbadcase: ∀(o:Option (List UInt8×Int×Bool)),(o=some ([],0,false)∨bad=true∧ ∃t,o=some t)→(o.bind fun c=>(bif bad then some true else some (!c.2.2)).bind fun v=>bif v then some (([]:List UInt8),l,(at':Int),true)else some (c.1,l,c.2.1,bad))=some (([]:List UInt8),l,(at':Int),true):=fun o h=>by
  rcases h with rfl | ⟨hbd,t,rfl⟩
  ·cases bad<;>rfl
  ·rw[hbd]; rfl
 unfold aS iU
 rw[iW n l hn hl hb at' hat,Option.bind_some]
 cases hok:(Bn l at').2.2 with
 | false=>exact⟨[],at',true,hbadcase _ (.inl (by simp only[Bool.not_false,cond_true,Option.bind_some])),Nat.le_refl _,hat,fun _=>rfl,fun h=>by cases h⟩
 | true=>
  obtain⟨c,c1,c2,c3,c4⟩:=GN hb hat hok
  generalize (Bn l at').1=v at*
  rw[c1]
  unfold okR at c4
  simp only[Bool.and_eq_true,decide_eq_true_eq]at c4
  simp only[Bool.not_true,cond_false]
  by_cases hv:v<0
  ·rw[decide_eq_true hv]
   exact⟨[],at',true,hbadcase _ (.inl (by simp only[cond_true,Option.bind_some])),Nat.le_refl _,hat,fun _=>rfl,fun h=>by cases h⟩
  ·rw[decide_eq_false hv]
   obtain⟨k,rfl⟩: ∃k:Nat,v=k:=⟨v.toNat,by omega⟩
   have hw:IntKind.wrap .i64 ((l.length:Int) - ((at'+c:Nat):Int))=(l.length:Int) - ((at'+c:Nat):Int):=wrap_i64 (by omega) (by omega)
   have hw2:IntKind.wrap .i64 (((at'+c:Nat):Int)+(k:Int))=((at'+c+k:Nat):Int):=by
    rw[wrap_i64 (by omega) (by omega)]; omega
   rw[hw,hw2]
   by_cases hlen:(l.length:Int) - ((at'+c:Nat):Int)<(k:Int)
   ·rw[decide_eq_true hlen]
    exact⟨[],at',true,hbadcase _ (.inl (by simp only[cond_false,cond_true,Option.bind_some])),Nat.le_refl _,hat,fun _=>rfl,fun h=>by cases h⟩
   ·rw[decide_eq_false hlen]
    have hs:=Sv l (at'+c) (at'+c+k) (by omega) (by omega)
    obtain⟨s,s1,s2⟩:=rX (l:=(l.drop (at'+c)).take (at'+c+k - (at'+c))) (fun x hx=>hb x (List.mem_of_mem_drop (List.mem_of_mem_take hx)))
    have hsl:s.length=k:=by
     have:=congrArg List.length s2
     rw[List.length_map,List.length_take,List.length_drop]at this
     omega
    cases hbd:bad with
    | true=>
     exact⟨[],at',true,by simp only[cond_false,cond_true,Option.bind_some,hs,s1],Nat.le_refl _,hat,fun _=>rfl,fun h=>by cases h⟩
    | false=>
     refine⟨s,at'+c+k,false,by simp only[cond_false,Option.bind_some,hs,s1,Bool.not_true],by omega,by omega,(fun h=>by cases h),fun _=> ?_⟩
     rw[hsl, ←c3,s2,show at'+c+k - at'=c+k by omega,show at'+c+k - (at'+c)=k by omega,List.take_add,List.drop_drop]
theorem Fx(n:Nat)(l:List Int)(hn:10<n)(hl:l.length<1099511627776)(hb: ∀x∈l,0≤x∧x<256)(at':Nat)(hat:at'≤l.length)(bad:Bool): ∃(v:Int) (a:Nat) (b:Bool),aM n l (at':Int) bad=some (v,l,(a:Int),b)∧at'≤a∧a≤l.length∧(bad=true→b=true)∧(b=false→(l.drop at').take (a - at')=qE v)∧(b=true→v=0)∧okR v=true:=by
 rw[KX n l hn hl hb at' hat bad]
 unfold rdN
 cases hok:(Bn l at').2.2 with
 | false=>exact⟨0,at',true,by cases bad<;>rfl,Nat.le_refl _,hat,fun _=>rfl,(fun h=>by cases h),fun _=>rfl,rfl⟩
 | true=>
  cases bad with
  | true=>exact⟨0,at',true,rfl,Nat.le_refl _,hat,fun _=>rfl,(fun h=>by cases h),fun _=>rfl,rfl⟩
  | false=>
   obtain⟨c,c1,c2,c3,c4⟩:=GN hb hat hok
   refine⟨(Bn l at').1,at'+c,false, ?_,by omega,c2,(fun h=>by cases h),fun _=> ?_,(fun h=>by cases h),c4⟩
   ·rw[c1]; rfl
   ·rw[show at'+c - at'=c by omega]; exact c3
end Go.Own.Q
