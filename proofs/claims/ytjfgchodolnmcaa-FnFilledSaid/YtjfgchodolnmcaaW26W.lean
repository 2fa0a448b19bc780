/- Each function on plain data, and its walk. No conditions. -/
import Derived.Test.YtjfgchodolnmcaaW26V
set_option linter.unusedVariables false
set_option linter.unusedSimpArgs false
set_option linter.unnecessarySimpa false
namespace Go.Own
open Go Go.Proofs
def sC(n:Nat)(f:cG)(t:Int)(u:List (List UInt8)):(Int×Int×Int×(List UInt8)×(List aA)×(List aC)×(List Int)×Int×Int)→Option ((Int×Int×Int×(List UInt8)×(List aA)×(List aC)×(List Int)×Int×Int)⊕((Int×Bool×Int×Int×(List UInt8)×(List aA)×(List aC)×(List Int)×Int×Int)))
  | (g,j,l,m,o,p,b,c,d)=>bif decide ((0:Int)<g)then(f (IntKind.wrap .i64 (t - (1:Int))) u b c d).bind fun a=>(fE 80 o ([aA.mk a.1 a.2.1 a.2.2.1 a.2.2.2.1 a.2.2.2.2.1]:List aA)).bind fun s=>some (.inl ((IntKind.wrap .i64 (g - (1:Int))),j,l,m,s,p,a.2.2.2.2.2.1,a.2.2.2.2.2.2.1,a.2.2.2.2.2.2.2))else some (.inr (g,false,j,l,m,o,p,b,c,d))
def sB(n:Nat)(f:cG)(t:Int)(u:List (List UInt8)):(Int×Int×Int×(List UInt8)×(List aA)×(List aC)×(List Int)×Int×Int)→Option ((Int×Int×Int×(List UInt8)×(List aA)×(List aC)×(List Int)×Int×Int)⊕((Int×Bool×Int×Int×(List UInt8)×(List aA)×(List aC)×(List Int)×Int×Int)))
  | (g,j,l,m,o,p,b,c,d)=>bif decide (g<(2:Int))then(f (IntKind.wrap .i64 (t - (1:Int))) u b c d).bind fun a=>(fE 80 o ([aA.mk a.1 a.2.1 a.2.2.1 a.2.2.2.1 a.2.2.2.2.1]:List aA)).bind fun s=>some (.inl ((IntKind.wrap .i64 (g+(1:Int))),j,l,m,s,p,a.2.2.2.2.2.1,a.2.2.2.2.2.2.1,a.2.2.2.2.2.2.2))else some (.inr (g,false,j,l,m,o,p,b,c,d))
def sA(n:Nat)(f:cG)(t:Int)(u:List (List UInt8)):(Int×Int×Int×(List UInt8)×(List aA)×(List aC)×(List Int)×Int×Int)→Option ((Int×Int×Int×(List UInt8)×(List aA)×(List aC)×(List Int)×Int×Int)⊕((Int×Bool×Int×Int×(List UInt8)×(List aA)×(List aC)×(List Int)×Int×Int)))
  | (g,j,l,m,o,p,b,c,d)=>bif decide (g<(1:Int))then(f (IntKind.wrap .i64 (t - (1:Int))) u b c d).bind fun a=>(fE 80 o ([aA.mk a.1 a.2.1 a.2.2.1 a.2.2.2.1 a.2.2.2.2.1]:List aA)).bind fun s=>some (.inl ((IntKind.wrap .i64 (g+(1:Int))),j,l,m,s,p,a.2.2.2.2.2.1,a.2.2.2.2.2.2.1,a.2.2.2.2.2.2.2))else some (.inr (g,false,j,l,m,o,p,b,c,d))
def rZ(n:Nat)(j:cG)(w:Int)(y:List (List UInt8)):(Int×Int×Int×(List UInt8)×(List aA)×(List aC)×(List Int)×Int×Int)→Option ((Int×Int×Int×(List UInt8)×(List aA)×(List aC)×(List Int)×Int×Int)⊕((Int×Bool×Int×Int×(List UInt8)×(List aA)×(List aC)×(List Int)×Int×Int)))
  | (g,l,m,o,p,s,c,d,f)=>bif decide ((0:Int)<g)then(cK n (1:Int) c d f ([]:List (List UInt8))).bind fun a=>(fE 16 ([]:List (List UInt8)) y).bind fun t=>(fE 16 t a.2.2.2.2.2.2.2.2).bind fun u=>(j (IntKind.wrap .i64 (w - (1:Int))) u a.2.2.2.2.2.1 a.2.2.2.2.2.2.1 a.2.2.2.2.2.2.2.1).bind fun b=>(fE 160 s ([aC.mk a.1 a.2.1 a.2.2.1 a.2.2.2.1 a.2.2.2.2.1 b.1 b.2.1 b.2.2.1 b.2.2.2.1 b.2.2.2.2.1]:List aC)).bind fun v=>some (.inl ((IntKind.wrap .i64 (g - (1:Int))),l,m,o,p,v,b.2.2.2.2.2.1,b.2.2.2.2.2.2.1,b.2.2.2.2.2.2.2))else some (.inr (g,false,l,m,o,p,s,c,d,f))
def kQ(n:Nat)(f:cG)(t:Int)(u:List (List UInt8)):(Int×Int×Int×(List UInt8)×(List aA)×(List aC)×(List Int)×Int×Int)→Option ((Int×Int×Int×(List UInt8)×(List aA)×(List aC)×(List Int)×Int×Int)⊕((Int×Bool×Int×Int×(List UInt8)×(List aA)×(List aC)×(List Int)×Int×Int)))
  | (g,j,l,m,o,p,b,c,d)=>bif decide ((0:Int)<g)then(f (IntKind.wrap .i64 (t - (1:Int))) u b c d).bind fun a=>(fE 80 o ([aA.mk a.1 a.2.1 a.2.2.1 a.2.2.2.1 a.2.2.2.2.1]:List aA)).bind fun s=>some (.inl ((IntKind.wrap .i64 (g - (1:Int))),j,l,m,s,p,a.2.2.2.2.2.1,a.2.2.2.2.2.2.1,a.2.2.2.2.2.2.2))else some (.inr (g,false,j,l,m,o,p,b,c,d))
def kP(n:Nat)(g:cG)(t:Int)(u:List (List UInt8)):(Int×Int×Int×(List UInt8)×(List aA)×(List aC)×(List Int)×Int×Int)→Option ((Int×Int×Int×(List UInt8)×(List aA)×(List aC)×(List Int)×Int×Int)⊕((Int×Bool×Int×Int×(List UInt8)×(List aA)×(List aC)×(List Int)×Int×Int)))
  | (f,j,l,m,o,p,b,c,d)=>bif decide (f<(2:Int))then(g (IntKind.wrap .i64 (t - (1:Int))) u b c d).bind fun a=>(fE 80 o ([aA.mk a.1 a.2.1 a.2.2.1 a.2.2.2.1 a.2.2.2.2.1]:List aA)).bind fun s=>some (.inl ((IntKind.wrap .i64 (f+(1:Int))),j,l,m,s,p,a.2.2.2.2.2.1,a.2.2.2.2.2.2.1,a.2.2.2.2.2.2.2))else some (.inr (f,false,j,l,m,o,p,b,c,d))
def kO(n:Nat)(g:cG)(t:Int)(u:List (List UInt8)):(Int×Int×Int×(List UInt8)×(List aA)×(List aC)×(List Int)×Int×Int)→Option ((Int×Int×Int×(List UInt8)×(List aA)×(List aC)×(List Int)×Int×Int)⊕((Int×Bool×Int×Int×(List UInt8)×(List aA)×(List aC)×(List Int)×Int×Int)))
  | (f,j,l,m,o,p,b,c,d)=>bif decide (f<(1:Int))then(g (IntKind.wrap .i64 (t - (1:Int))) u b c d).bind fun a=>(fE 80 o ([aA.mk a.1 a.2.1 a.2.2.1 a.2.2.2.1 a.2.2.2.2.1]:List aA)).bind fun s=>some (.inl ((IntKind.wrap .i64 (f+(1:Int))),j,l,m,s,p,a.2.2.2.2.2.1,a.2.2.2.2.2.2.1,a.2.2.2.2.2.2.2))else some (.inr (f,false,j,l,m,o,p,b,c,d))
def kN(n:Nat)(j:cG)(w:Int)(y:List (List UInt8)):(Int×Int×Int×(List UInt8)×(List aA)×(List aC)×(List Int)×Int×Int)→Option ((Int×Int×Int×(List UInt8)×(List aA)×(List aC)×(List Int)×Int×Int)⊕((Int×Bool×Int×Int×(List UInt8)×(List aA)×(List aC)×(List Int)×Int×Int)))
  | (g,l,m,o,p,s,c,d,f)=>bif decide ((0:Int)<g)then(cK n (1:Int) c d f ([]:List (List UInt8))).bind fun a=>(fE 16 ([]:List (List UInt8)) y).bind fun t=>(fE 16 t a.2.2.2.2.2.2.2.2).bind fun u=>(j (IntKind.wrap .i64 (w - (1:Int))) u a.2.2.2.2.2.1 a.2.2.2.2.2.2.1 a.2.2.2.2.2.2.2.1).bind fun b=>(fE 160 s ([aC.mk a.1 a.2.1 a.2.2.1 a.2.2.2.1 a.2.2.2.2.1 b.1 b.2.1 b.2.2.1 b.2.2.2.1 b.2.2.2.2.1]:List aC)).bind fun v=>some (.inl ((IntKind.wrap .i64 (g - (1:Int))),l,m,o,p,v,b.2.2.2.2.2.1,b.2.2.2.2.2.2.1,b.2.2.2.2.2.2.2))else some (.inr (g,false,l,m,o,p,s,c,d,f))
def lK(n:Nat)(a:cG)(f:Int)(d:List (List UInt8))(j3:List Int)(j4:Int)(j5:Int):Option (Int×Int×(List UInt8)×(List aA)×(List aC)×(List Int)×Int×Int):=
  (aJ n (11:Int) j3 j4 j5).bind fun b=>bif decide (f<(1:Int))then(aJ n (4:Int) b.2.1 b.2.2.1 b.2.2.2).bind fun c=>bif decide (c.1=(0:Int))then(bO n ([(0:Int),(1:Int),(2:Int),(5:Int),(40:Int)]:List Int) c.2.1 c.2.2.1 c.2.2.2).bind fun b9=>(bN n b9.1).bind fun a7=>some (a7.1,a7.2.1,a7.2.2.1,a7.2.2.2.1,a7.2.2.2.2,b9.2.1,b9.2.2.1,b9.2.2.2)else bif decide (c.1=(1:Int))then(aV n ([([111,107]:List UInt8),([97]:List UInt8),([115,116,111,112]:List UInt8),([116,114,117,101]:List UInt8)]:List (List UInt8)) c.2.1 c.2.2.1 c.2.2.2).bind fun c0=>(kK n c0.1).bind fun a8=>some (a8.1,a8.2.1,a8.2.2.1,a8.2.2.2.1,a8.2.2.2.2,c0.2.1,c0.2.2.1,c0.2.2.2)else bif decide (c.1=(2:Int))then bif decide ((0:Int)<(d.length:Int))then(aJ n (d.length:Int) c.2.1 c.2.2.1 c.2.2.2).bind fun a9=>(ix d a9.1).bind fun h5=>some ((3:Int),(0:Int),h5,([]:List aA),([]:List aC),a9.2.1,a9.2.2.1,a9.2.2.2)else(aJ n (4:Int) c.2.1 c.2.2.1 c.2.2.2).bind fun b2=>(bN n b2.1).bind fun R=>some (R.1,R.2.1,R.2.2.1,R.2.2.2.1,R.2.2.2.2,b2.2.1,b2.2.2.1,b2.2.2.2)else bif decide (c.1=(3:Int))then bif decide ((0:Int)<(d.length:Int))then(aJ n (d.length:Int) c.2.1 c.2.2.1 c.2.2.2).bind fun b0=>(ix d b0.1).bind fun h6=>some ((3:Int),(0:Int),h6,([]:List aA),([]:List aC),b0.2.1,b0.2.2.1,b0.2.2.2)else(aJ n (4:Int) c.2.1 c.2.2.1 c.2.2.2).bind fun b3=>(bN n b3.1).bind fun T=>some (T.1,T.2.1,T.2.2.1,T.2.2.2.1,T.2.2.2.2,b3.2.1,b3.2.2.1,b3.2.2.2)else bif decide (c.1=(4:Int))then bif decide ((0:Int)<(d.length:Int))then(aJ n (d.length:Int) c.2.1 c.2.2.1 c.2.2.2).bind fun b1=>(ix d b1.1).bind fun h7=>some ((3:Int),(0:Int),h7,([]:List aA),([]:List aC),b1.2.1,b1.2.2.1,b1.2.2.2)else(aJ n (4:Int) c.2.1 c.2.2.1 c.2.2.2).bind fun b4=>(bN n b4.1).bind fun U=>some (U.1,U.2.1,U.2.2.1,U.2.2.2.1,U.2.2.2.2,b4.2.1,b4.2.2.1,b4.2.2.2)else bif decide (c.1=(5:Int))then(aV n ([([43]:List UInt8),([45]:List UInt8),([42]:List UInt8),([61,61]:List UInt8),([60]:List UInt8),([43]:List UInt8)]:List (List UInt8)) c.2.1 c.2.2.1 c.2.2.2).bind fun b5=>(a (IntKind.wrap .i64 (f - (1:Int))) d b5.2.1 b5.2.2.1 b5.2.2.2).bind fun D=>(a (IntKind.wrap .i64 (f - (1:Int))) d D.2.2.2.2.2.1 D.2.2.2.2.2.2.1 D.2.2.2.2.2.2.2).bind fun G=>some ((7:Int),(0:Int),b5.1,([aA.mk D.1 D.2.1 D.2.2.1 D.2.2.2.1 D.2.2.2.2.1,aA.mk G.1 G.2.1 G.2.2.1 G.2.2.2.1 G.2.2.2.2.1]:List aA),([]:List aC),G.2.2.2.2.2.1,G.2.2.2.2.2.2.1,G.2.2.2.2.2.2.2)else bif decide (c.1=(6:Int))then(aV n ([([43]:List UInt8),([45]:List UInt8),([42]:List UInt8),([61,61]:List UInt8),([60]:List UInt8),([43]:List UInt8)]:List (List UInt8)) c.2.1 c.2.2.1 c.2.2.2).bind fun b6=>(a (IntKind.wrap .i64 (f - (1:Int))) d b6.2.1 b6.2.2.1 b6.2.2.2).bind fun E=>(a (IntKind.wrap .i64 (f - (1:Int))) d E.2.2.2.2.2.1 E.2.2.2.2.2.2.1 E.2.2.2.2.2.2.2).bind fun H=>some ((7:Int),(0:Int),b6.1,([aA.mk E.1 E.2.1 E.2.2.1 E.2.2.2.1 E.2.2.2.2.1,aA.mk H.1 H.2.1 H.2.2.1 H.2.2.2.1 H.2.2.2.2.1]:List aA),([]:List aC),H.2.2.2.2.2.1,H.2.2.2.2.2.2.1,H.2.2.2.2.2.2.2)else bif decide (c.1=(7:Int))then(bO n ([(4:Int),(5:Int)]:List Int) c.2.1 c.2.2.1 c.2.2.2).bind fun b7=>(aJ n (3:Int) b7.2.1 b7.2.2.1 b7.2.2.2).bind fun b8=>(loopN (sC n a f d) n (b8.1,b7.1,(0:Int),([]:List UInt8),([]:List aA),([]:List aC),b8.2.1,b8.2.2.1,b8.2.2.2)).bind fun(l1,k9,i8,i9,j0,j1,j2,d9,e0,e1)=>some (i8,i9,j0,j1,j2,d9,e0,e1)else bif decide (c.1=(8:Int))then(a (IntKind.wrap .i64 (f - (1:Int))) d c.2.1 c.2.2.1 c.2.2.2).bind fun w=>(a (IntKind.wrap .i64 (f - (1:Int))) d w.2.2.2.2.2.1 w.2.2.2.2.2.2.1 w.2.2.2.2.2.2.2).bind fun y=>some ((6:Int),(0:Int),([]:List UInt8),([aA.mk w.1 w.2.1 w.2.2.1 w.2.2.2.1 w.2.2.2.2.1,aA.mk (5:Int) (0:Int) ([]:List UInt8) ([aA.mk y.1 y.2.1 y.2.2.1 y.2.2.2.1 y.2.2.2.2.1]:List aA) ([]:List aC)]:List aA),([]:List aC),y.2.2.2.2.2.1,y.2.2.2.2.2.2.1,y.2.2.2.2.2.2.2)else bif decide (c.1=(9:Int))then(aV n ([([102]:List UInt8),([103]:List UInt8),([104]:List UInt8)]:List (List UInt8)) c.2.1 c.2.2.1 c.2.2.2).bind fun t=>bif decide (t.1=([103]:List UInt8))then(loopN (sB n a f d) n ((0:Int),(8:Int),(0:Int),t.1,([]:List aA),([]:List aC),t.2.1,t.2.2.1,t.2.2.2)).bind fun(k7,k0,h8,h9,i0,i1,i2,e2,e3,e4)=>some (h8,h9,i0,i1,i2,e2,e3,e4)else(loopN (sA n a f d) n ((0:Int),(8:Int),(0:Int),t.1,([]:List aA),([]:List aC),t.2.1,t.2.2.1,t.2.2.2)).bind fun(k8,k1,g0,g1,g2,g3,g4,c1,c2,c3)=>some (g0,g1,g2,g3,g4,c1,c2,c3)else(a (IntKind.wrap .i64 (f - (1:Int))) d c.2.1 c.2.2.1 c.2.2.2).bind fun m=>(aJ n (2:Int) m.2.2.2.2.2.1 m.2.2.2.2.2.2.1 m.2.2.2.2.2.2.2).bind fun N=>(loopN (rZ n a f d) n ((IntKind.wrap .i64 ((1:Int)+N.1)),(9:Int),(0:Int),([]:List UInt8),([aA.mk m.1 m.2.1 m.2.2.1 m.2.2.2.1 m.2.2.2.2.1]:List aA),([]:List aC),N.2.1,N.2.2.1,N.2.2.2)).bind fun(k4,j8,e5,e6,e7,e8,e9,c4,c5,c6)=>(cN n (2:Int) c4 c5 c6).bind fun u=>bif u.1 then(a (IntKind.wrap .i64 (f - (1:Int))) d u.2.1 u.2.2.1 u.2.2.2).bind fun p=>(fE 160 e9 ([aC.mk (3:Int) (0:Int) ([95]:List UInt8) ([]:List aA) ([]:List aC) p.1 p.2.1 p.2.2.1 p.2.2.2.1 p.2.2.2.2.1]:List aC)).bind fun f5=>some (e5,e6,e7,e8,f5,p.2.2.2.2.2.1,p.2.2.2.2.2.2.1,p.2.2.2.2.2.2.2)else some (e5,e6,e7,e8,e9,u.2.1,u.2.2.1,u.2.2.2)else bif decide (b.1=(0:Int))then(bO n ([(0:Int),(1:Int),(2:Int),(5:Int),(40:Int)]:List Int) b.2.1 b.2.2.1 b.2.2.2).bind fun V=>(bN n V.1).bind fun I=>some (I.1,I.2.1,I.2.2.1,I.2.2.2.1,I.2.2.2.2,V.2.1,V.2.2.1,V.2.2.2)else bif decide (b.1=(1:Int))then(aV n ([([111,107]:List UInt8),([97]:List UInt8),([115,116,111,112]:List UInt8),([116,114,117,101]:List UInt8)]:List (List UInt8)) b.2.1 b.2.2.1 b.2.2.2).bind fun W=>(kK n W.1).bind fun J=>some (J.1,J.2.1,J.2.2.1,J.2.2.2.1,J.2.2.2.2,W.2.1,W.2.2.1,W.2.2.2)else bif decide (b.1=(2:Int))then bif decide ((0:Int)<(d.length:Int))then(aJ n (d.length:Int) b.2.1 b.2.2.1 b.2.2.2).bind fun X=>(ix d X.1).bind fun f7=>some ((3:Int),(0:Int),f7,([]:List aA),([]:List aC),X.2.1,X.2.2.1,X.2.2.2)else(aJ n (4:Int) b.2.1 b.2.2.1 b.2.2.2).bind fun a0=>(bN n a0.1).bind fun K=>some (K.1,K.2.1,K.2.2.1,K.2.2.2.1,K.2.2.2.2,a0.2.1,a0.2.2.1,a0.2.2.2)else bif decide (b.1=(3:Int))then bif decide ((0:Int)<(d.length:Int))then(aJ n (d.length:Int) b.2.1 b.2.2.1 b.2.2.2).bind fun Y=>(ix d Y.1).bind fun f8=>some ((3:Int),(0:Int),f8,([]:List aA),([]:List aC),Y.2.1,Y.2.2.1,Y.2.2.2)else(aJ n (4:Int) b.2.1 b.2.2.1 b.2.2.2).bind fun a1=>(bN n a1.1).bind fun L=>some (L.1,L.2.1,L.2.2.1,L.2.2.2.1,L.2.2.2.2,a1.2.1,a1.2.2.1,a1.2.2.2)else bif decide (b.1=(4:Int))then bif decide ((0:Int)<(d.length:Int))then(aJ n (d.length:Int) b.2.1 b.2.2.1 b.2.2.2).bind fun Z=>(ix d Z.1).bind fun f9=>some ((3:Int),(0:Int),f9,([]:List aA),([]:List aC),Z.2.1,Z.2.2.1,Z.2.2.2)else(aJ n (4:Int) b.2.1 b.2.2.1 b.2.2.2).bind fun a2=>(bN n a2.1).bind fun M=>some (M.1,M.2.1,M.2.2.1,M.2.2.2.1,M.2.2.2.2,a2.2.1,a2.2.2.1,a2.2.2.2)else bif decide (b.1=(5:Int))then(aV n ([([43]:List UInt8),([45]:List UInt8),([42]:List UInt8),([61,61]:List UInt8),([60]:List UInt8),([43]:List UInt8)]:List (List UInt8)) b.2.1 b.2.2.1 b.2.2.2).bind fun a3=>(a (IntKind.wrap .i64 (f - (1:Int))) d a3.2.1 a3.2.2.1 a3.2.2.2).bind fun z=>(a (IntKind.wrap .i64 (f - (1:Int))) d z.2.2.2.2.2.1 z.2.2.2.2.2.2.1 z.2.2.2.2.2.2.2).bind fun B=>some ((7:Int),(0:Int),a3.1,([aA.mk z.1 z.2.1 z.2.2.1 z.2.2.2.1 z.2.2.2.2.1,aA.mk B.1 B.2.1 B.2.2.1 B.2.2.2.1 B.2.2.2.2.1]:List aA),([]:List aC),B.2.2.2.2.2.1,B.2.2.2.2.2.2.1,B.2.2.2.2.2.2.2)else bif decide (b.1=(6:Int))then(aV n ([([43]:List UInt8),([45]:List UInt8),([42]:List UInt8),([61,61]:List UInt8),([60]:List UInt8),([43]:List UInt8)]:List (List UInt8)) b.2.1 b.2.2.1 b.2.2.2).bind fun a4=>(a (IntKind.wrap .i64 (f - (1:Int))) d a4.2.1 a4.2.2.1 a4.2.2.2).bind fun A=>(a (IntKind.wrap .i64 (f - (1:Int))) d A.2.2.2.2.2.1 A.2.2.2.2.2.2.1 A.2.2.2.2.2.2.2).bind fun C=>some ((7:Int),(0:Int),a4.1,([aA.mk A.1 A.2.1 A.2.2.1 A.2.2.2.1 A.2.2.2.2.1,aA.mk C.1 C.2.1 C.2.2.1 C.2.2.2.1 C.2.2.2.2.1]:List aA),([]:List aC),C.2.2.2.2.2.1,C.2.2.2.2.2.2.1,C.2.2.2.2.2.2.2)else bif decide (b.1=(7:Int))then(bO n ([(4:Int),(5:Int)]:List Int) b.2.1 b.2.2.1 b.2.2.2).bind fun a5=>(aJ n (3:Int) a5.2.1 a5.2.2.1 a5.2.2.2).bind fun a6=>(loopN (kQ n a f d) n (a6.1,a5.1,(0:Int),([]:List UInt8),([]:List aA),([]:List aC),a6.2.1,a6.2.2.1,a6.2.2.2)).bind fun(l0,k6,i3,i4,i5,i6,i7,c7,c8,c9)=>some (i3,i4,i5,i6,i7,c7,c8,c9)else bif decide (b.1=(8:Int))then(a (IntKind.wrap .i64 (f - (1:Int))) d b.2.1 b.2.2.1 b.2.2.2).bind fun j=>(a (IntKind.wrap .i64 (f - (1:Int))) d j.2.2.2.2.2.1 j.2.2.2.2.2.2.1 j.2.2.2.2.2.2.2).bind fun l=>some ((6:Int),(0:Int),([]:List UInt8),([aA.mk j.1 j.2.1 j.2.2.1 j.2.2.2.1 j.2.2.2.2.1,aA.mk (5:Int) (0:Int) ([]:List UInt8) ([aA.mk l.1 l.2.1 l.2.2.1 l.2.2.2.1 l.2.2.2.2.1]:List aA) ([]:List aC)]:List aA),([]:List aC),l.2.2.2.2.2.1,l.2.2.2.2.2.2.1,l.2.2.2.2.2.2.2)else bif decide (b.1=(9:Int))then(aV n ([([102]:List UInt8),([103]:List UInt8),([104]:List UInt8)]:List (List UInt8)) b.2.1 b.2.2.1 b.2.2.2).bind fun g=>bif decide (g.1=([103]:List UInt8))then(loopN (kP n a f d) n ((0:Int),(8:Int),(0:Int),g.1,([]:List aA),([]:List aC),g.2.1,g.2.2.1,g.2.2.2)).bind fun(k2,j6,g5,g6,g7,g8,g9,d0,d1,d2)=>some (g5,g6,g7,g8,g9,d0,d1,d2)else(loopN (kO n a f d) n ((0:Int),(8:Int),(0:Int),g.1,([]:List aA),([]:List aC),g.2.1,g.2.2.1,g.2.2.2)).bind fun(k3,j7,h0,h1,h2,h3,h4,d3,d4,d5)=>some (h0,h1,h2,h3,h4,d3,d4,d5)else(a (IntKind.wrap .i64 (f - (1:Int))) d b.2.1 b.2.2.1 b.2.2.2).bind fun o=>(aJ n (2:Int) o.2.2.2.2.2.1 o.2.2.2.2.2.2.1 o.2.2.2.2.2.2.2).bind fun Q=>(loopN (kN n a f d) n ((IntKind.wrap .i64 ((1:Int)+Q.1)),(9:Int),(0:Int),([]:List UInt8),([aA.mk o.1 o.2.1 o.2.2.1 o.2.2.2.1 o.2.2.2.2.1]:List aA),([]:List aC),Q.2.1,Q.2.2.1,Q.2.2.2)).bind fun(k5,j9,f0,f1,f2,f3,f4,d6,d7,d8)=>(cN n (2:Int) d6 d7 d8).bind fun v=>bif v.1 then(a (IntKind.wrap .i64 (f - (1:Int))) d v.2.1 v.2.2.1 v.2.2.2).bind fun s=>(fE 160 f4 ([aC.mk (3:Int) (0:Int) ([95]:List UInt8) ([]:List aA) ([]:List aC) s.1 s.2.1 s.2.2.1 s.2.2.2.1 s.2.2.2.2.1]:List aC)).bind fun f6=>some (f0,f1,f2,f3,f6,s.2.2.2.2.2.1,s.2.2.2.2.2.2.1,s.2.2.2.2.2.2.2)else some (f0,f1,f2,f3,f4,v.2.1,v.2.2.1,v.2.2.2)
theorem Ap{n:Nat}{M:cG}(b:oB M):oB (lK n M):=by
 intro y7 y8 y1 y2 y3 r h; unfold lK at h; refine bF Try.func294 rfl rfl<|cRs<|xAz [.int .i64 0, .int .i64 0, .str [], .sl ([].map aF), .sl ([].map aE)] rfl<|goo 4 rfl<|xC1 h (aK ·) rfl (fun x5 h=> ?_)
 refine goc 8 rfl<|cIf h rfl (fun q2 h=> ?_) (fun q2 h=> ?_)
 refine gco 2 rfl<|xC1 h (aK ·) rfl (fun x6 h=> ?_)
 refine goc 13 rfl<|cIf h rfl (fun q4 h=> ?_) (fun q4 h=> ?_)
 refine gco 3 rfl<|cS (L:=([(0:Int),(1:Int),(2:Int),(5:Int),(40:Int)]:List Int)) (f:=pX) rfl rfl rfl rfl rfl rfl rfl<|xC1 h (cL ·) rfl (fun x7 h=> ?_)
 refine xC0 h (cA ·) rfl (fun x8 h=> ?_)
 exact geo; refine gcc 5 rfl<|cIf h rfl (fun q7 h=> ?_) (fun q7 h=> ?_)
 refine gco 3 rfl<|cS (L:=([([111,107]:List UInt8),([97]:List UInt8),([115,116,111,112]:List UInt8),([116,114,117,101]:List UInt8)]:List (List UInt8))) (f:=eF) rfl rfl rfl rfl rfl rfl rfl<|xC1 h (bD ·) rfl (fun x9 h=> ?_)
 refine xC0 h (rU ·) rfl (fun y0 h=> ?_)
 exact geo; refine gcc 6 rfl<|cIf h rfl (fun w0 h=> ?_) (fun w0 h=> ?_)
 refine gco 6 rfl<|xLn rfl<|goc 2 rfl<|cIf h rfl (fun w1 h=> ?_) (fun w1 h=> ?_)
 refine gco 5 rfl<|xLn rfl<|xC1 h (aK ·) rfl (fun v0 h=> ?_)
 refine xIx h pM rfl (fun p4 h=> ?_)
 exact xLd rfl<|wBd [.int .i64 3, .int .i64 0, .str p4, .sl ([].map aF), .sl ([].map aE)] rfl rfl rfl rfl rfl rfl<|geo
 refine gco 4 rfl<|xC1 h (aK ·) rfl (fun v3 h=> ?_)
 refine xC0 h (cA ·) rfl (fun v6 h=> ?_)
 exact geo; refine gcc 5 rfl<|cIf h rfl (fun w2 h=> ?_) (fun w2 h=> ?_)
 refine gco 6 rfl<|xLn rfl<|goc 2 rfl<|cIf h rfl (fun w3 h=> ?_) (fun w3 h=> ?_)
 refine gco 5 rfl<|xLn rfl<|xC1 h (aK ·) rfl (fun v1 h=> ?_)
 refine xIx h pM rfl (fun p5 h=> ?_)
 exact xLd rfl<|wBd [.int .i64 3, .int .i64 0, .str p5, .sl ([].map aF), .sl ([].map aE)] rfl rfl rfl rfl rfl rfl<|geo
 refine gco 4 rfl<|xC1 h (aK ·) rfl (fun v4 h=> ?_)
 refine xC0 h (cA ·) rfl (fun v7 h=> ?_)
 exact geo; refine gcc 4 rfl<|cIf h rfl (fun w4 h=> ?_) (fun w4 h=> ?_)
 refine gco 4 rfl<|xLn rfl<|goc 2 rfl<|cIf h rfl (fun w5 h=> ?_) (fun w5 h=> ?_)
 refine gco 5 rfl<|xLn rfl<|xC1 h (aK ·) rfl (fun v2 h=> ?_)
 refine xIx h pM rfl (fun p6 h=> ?_)
 exact xLd rfl<|wBd [.int .i64 3, .int .i64 0, .str p6, .sl ([].map aF), .sl ([].map aE)] rfl rfl rfl rfl rfl rfl<|geo
 refine gco 4 rfl<|xC1 h (aK ·) rfl (fun v5 h=> ?_)
 refine xC0 h (cA ·) rfl (fun v8 h=> ?_)
 exact geo; refine gcc 6 rfl<|cIf h rfl (fun w6 h=> ?_) (fun w6 h=> ?_)
 refine gco 5 rfl<|cS (L:=([([43]:List UInt8),([45]:List UInt8),([42]:List UInt8),([61,61]:List UInt8),([60]:List UInt8),([43]:List UInt8)]:List (List UInt8))) (f:=eF) rfl rfl rfl rfl rfl rfl rfl<|xC1 h (bD ·) rfl (fun p1 h=> ?_)
 refine goo 4 rfl<|xC1 h (b ·) rfl (fun B h=> ?_)
 refine goo 4 rfl<|xC1 h (b ·) rfl (fun D h=> ?_)
 exact cS (L:=([aA.mk B.1 B.2.1 B.2.2.1 B.2.2.2.1 B.2.2.2.2.1,aA.mk D.1 D.2.1 D.2.2.1 D.2.2.2.1 D.2.2.2.2.1]:List aA)) (f:=aF) rfl rfl rfl rfl (by simp only[List.map,aP]<;>rfl) rfl rfl<|wBd [.int .i64 7, .int .i64 0, .str p1.1, .sl ([aA.mk B.1 B.2.1 B.2.2.1 B.2.2.2.1 B.2.2.2.2.1,aA.mk D.1 D.2.1 D.2.2.1 D.2.2.2.1 D.2.2.2.2.1].map aF), .sl ([].map aE)] rfl rfl rfl rfl rfl rfl<|geo
 refine gcc 4 rfl<|cIf h rfl (fun w7 h=> ?_) (fun w7 h=> ?_)
 refine gco 3 rfl<|cS (L:=([([43]:List UInt8),([45]:List UInt8),([42]:List UInt8),([61,61]:List UInt8),([60]:List UInt8),([43]:List UInt8)]:List (List UInt8))) (f:=eF) rfl rfl rfl rfl rfl rfl rfl<|xC1 h (bD ·) rfl (fun p2 h=> ?_)
 refine goo 4 rfl<|xC1 h (b ·) rfl (fun C h=> ?_)
 refine goo 4 rfl<|xC1 h (b ·) rfl (fun E h=> ?_)
 exact cS (L:=([aA.mk C.1 C.2.1 C.2.2.1 C.2.2.2.1 C.2.2.2.2.1,aA.mk E.1 E.2.1 E.2.2.1 E.2.2.2.1 E.2.2.2.2.1]:List aA)) (f:=aF) rfl rfl rfl rfl (by simp only[List.map,aP]<;>rfl) rfl rfl<|wBd [.int .i64 7, .int .i64 0, .str p2.1, .sl ([aA.mk C.1 C.2.1 C.2.2.1 C.2.2.2.1 C.2.2.2.2.1,aA.mk E.1 E.2.1 E.2.2.1 E.2.2.2.1 E.2.2.2.2.1].map aF), .sl ([].map aE)] rfl rfl rfl rfl rfl rfl<|geo
 refine gcc 5 rfl<|cIf h rfl (fun w8 h=> ?_) (fun w8 h=> ?_)
 refine gco 3 rfl<|cS (L:=([(4:Int),(5:Int)]:List Int)) (f:=pX) rfl rfl rfl rfl rfl rfl rfl<|xC1 h (cL ·) rfl (fun p3 h=> ?_)
 refine wBd [.int .i64 p3.1, .int .i64 0, .str [], .sl ([].map aF), .sl ([].map aE)] rfl rfl rfl rfl rfl rfl<|xAz [.int .i64 0, .int .i64 0, .str [], .sl ([].map aF), .sl ([].map aE)] rfl<|goo 6 rfl<|xC1 h (aK ·) rfl (fun v9 h=> ?_)
 refine goc 2 rfl<|cLp h [(9,9),(80,93)] [(8,8),(1000000,1000000)] (fun(n2,n4,n5,n6,n7,n8,c4,c5,c6)=>([(9,I64 n2)],[(8,[.int .i64 n4, .int .i64 n5, .str n6, .sl (n7.map aF), .sl (n8.map aE)]),(1000000,[.sl (c4.map rI_u8), .int .i64 c5, .int .i64 c6])])) (fun(n3,k3,n9,o0,o1,o2,o3,c7,c8,c9)=>(.e 1,[(9,I64 n3),(81,Bo k3)],[(8,[.int .i64 n9, .int .i64 o0, .str o1, .sl (o2.map aF), .sl (o3.map aE)]),(1000000,[.sl (c7.map rI_u8), .int .i64 c8, .int .i64 c9])])) rfl (fun st _ h=> ?_) (fun q h=> ?_)
 obtain⟨n2,n4,n5,n6,n7,n8,c4,c5,c6⟩:=st; unfold sC at h; refine gcc 6 rfl<|cIf h rfl (fun w9 h=> ?_) (fun w9 h=> ?_)
 refine gco 10 rfl<|xC1 h (b ·) rfl (fun N h=> ?_)
 refine cS (L:=([aA.mk N.1 N.2.1 N.2.2.1 N.2.2.2.1 N.2.2.2.2.1]:List aA)) (f:=aF) rfl rfl rfl rfl (by simp only[List.map,aP]<;>rfl) rfl rfl<|wAp (f:=aF) h rfl rfl rfl rfl rfl rfl rfl rfl rfl (fun a=>by rw[aO]; rfl) rfl (fun x4 h=> ?_)
 exact geo; exact gec; obtain⟨n3,k3,n9,o0,o1,o2,o3,c7,c8,c9⟩:=q; exact gec; refine gcc 5 rfl<|cIf h rfl (fun x0 h=> ?_) (fun x0 h=> ?_)
 refine gco 6 rfl<|xC1 h (b ·) rfl (fun v h=> ?_)
 refine goo 4 rfl<|xC1 h (b ·) rfl (fun d h=> ?_)
 exact cS (L:=([aA.mk d.1 d.2.1 d.2.2.1 d.2.2.2.1 d.2.2.2.2.1]:List aA)) (f:=aF) rfl rfl rfl rfl (by simp only[List.map,aP]<;>rfl) rfl rfl<|wBd [.int .i64 5, .int .i64 0, .str [], .sl ([aA.mk d.1 d.2.1 d.2.2.1 d.2.2.2.1 d.2.2.2.2.1].map aF), .sl ([].map aE)] rfl rfl rfl rfl rfl rfl<|cS (L:=([aA.mk v.1 v.2.1 v.2.2.1 v.2.2.2.1 v.2.2.2.2.1,aA.mk (5:Int) (0:Int) ([]:List UInt8) ([aA.mk d.1 d.2.1 d.2.2.1 d.2.2.2.1 d.2.2.2.2.1]:List aA) ([]:List aC)]:List aA)) (f:=aF) rfl rfl rfl rfl (by simp only[List.map,aP]<;>rfl) rfl rfl<|wBd [.int .i64 6, .int .i64 0, .str [], .sl ([aA.mk v.1 v.2.1 v.2.2.1 v.2.2.2.1 v.2.2.2.2.1,aA.mk (5:Int) (0:Int) ([]:List UInt8) ([aA.mk d.1 d.2.1 d.2.2.1 d.2.2.2.1 d.2.2.2.2.1]:List aA) ([]:List aC)].map aF), .sl ([].map aE)] rfl rfl rfl rfl rfl rfl<|geo
 refine gcc 5 rfl<|cIf h rfl (fun x1 h=> ?_) (fun x1 h=> ?_)
 refine gco 3 rfl<|cS (L:=([([102]:List UInt8),([103]:List UInt8),([104]:List UInt8)]:List (List UInt8))) (f:=eF) rfl rfl rfl rfl rfl rfl rfl<|xC1 h (bD ·) rfl (fun o4 h=> ?_)
 refine wBd [.int .i64 8, .int .i64 0, .str o4.1, .sl ([].map aF), .sl ([].map aE)] rfl rfl rfl rfl rfl rfl<|xAz [.int .i64 0, .int .i64 0, .str [], .sl ([].map aF), .sl ([].map aE)] rfl<|goc 13 rfl<|cIf h rfl (fun x2 h=> ?_) (fun x2 h=> ?_)
 refine gcc 8 rfl<|cLp h [(12,12),(120,134)] [(10,10),(1000000,1000000)] (fun(j9,k6,k7,k8,k9,l0,d0,d1,d2)=>([(12,I64 j9)],[(10,[.int .i64 k6, .int .i64 k7, .str k8, .sl (k9.map aF), .sl (l0.map aE)]),(1000000,[.sl (d0.map rI_u8), .int .i64 d1, .int .i64 d2])])) (fun(k0,e3,l1,l2,l3,l4,l5,d3,d4,d5)=>(.e 3,[(12,I64 k0),(122,Bo e3)],[(10,[.int .i64 l1, .int .i64 l2, .str l3, .sl (l4.map aF), .sl (l5.map aE)]),(1000000,[.sl (d3.map rI_u8), .int .i64 d4, .int .i64 d5])])) rfl (fun st _ h=> ?_) (fun q h=> ?_)
 obtain⟨j9,k6,k7,k8,k9,l0,d0,d1,d2⟩:=st; unfold sB at h; refine gcc 7 rfl<|cIf h rfl (fun x3 h=> ?_) (fun x3 h=> ?_)
 refine gco 10 rfl<|xC1 h (b ·) rfl (fun J h=> ?_)
 refine cS (L:=([aA.mk J.1 J.2.1 J.2.2.1 J.2.2.2.1 J.2.2.2.2.1]:List aA)) (f:=aF) rfl rfl rfl rfl (by simp only[List.map,aP]<;>rfl) rfl rfl<|wAp (f:=aF) h rfl rfl rfl rfl rfl rfl rfl rfl rfl (fun a=>by rw[aO]; rfl) rfl (fun u8 h=> ?_)
 exact geo; exact gec; obtain⟨k0,e3,l1,l2,l3,l4,l5,d3,d4,d5⟩:=q; exact gec; refine gcc 6 rfl<|cLp h [(12,12),(120,134)] [(10,10),(1000000,1000000)] (fun(k1,l6,l7,l8,l9,m0,d6,d7,d8)=>([(12,I64 k1)],[(10,[.int .i64 l6, .int .i64 l7, .str l8, .sl (l9.map aF), .sl (m0.map aE)]),(1000000,[.sl (d6.map rI_u8), .int .i64 d7, .int .i64 d8])])) (fun(k2,e4,f4,f5,f6,f7,f8,Q,R,T)=>(.e 3,[(12,I64 k2),(122,Bo e4)],[(10,[.int .i64 f4, .int .i64 f5, .str f6, .sl (f7.map aF), .sl (f8.map aE)]),(1000000,[.sl (Q.map rI_u8), .int .i64 R, .int .i64 T])])) rfl (fun st _ h=> ?_) (fun q h=> ?_)
 obtain⟨k1,l6,l7,l8,l9,m0,d6,d7,d8⟩:=st; unfold sA at h; refine gcc 7 rfl<|cIf h rfl (fun q1 h=> ?_) (fun q1 h=> ?_)
 refine gco 10 rfl<|xC1 h (b ·) rfl (fun G h=> ?_)
 refine cS (L:=([aA.mk G.1 G.2.1 G.2.2.1 G.2.2.2.1 G.2.2.2.2.1]:List aA)) (f:=aF) rfl rfl rfl rfl (by simp only[List.map,aP]<;>rfl) rfl rfl<|wAp (f:=aF) h rfl rfl rfl rfl rfl rfl rfl rfl rfl (fun a=>by rw[aO]; rfl) rfl (fun s3 h=> ?_)
 exact geo; exact gec; obtain⟨k2,e4,f4,f5,f6,f7,f8,Q,R,T⟩:=q; exact gec; refine gco 7 rfl<|xC1 h (b ·) rfl (fun j h=> ?_)
 refine cS (L:=([aA.mk j.1 j.2.1 j.2.2.1 j.2.2.2.1 j.2.2.2.2.1]:List aA)) (f:=aF) rfl rfl rfl rfl (by simp only[List.map,aP]<;>rfl) rfl rfl<|wBd [.int .i64 9, .int .i64 0, .str [], .sl ([aA.mk j.1 j.2.1 j.2.2.1 j.2.2.2.1 j.2.2.2.2.1].map aF), .sl ([].map aE)] rfl rfl rfl rfl rfl rfl<|xAz [.int .i64 0, .int .i64 0, .str [], .sl ([].map aF), .sl ([].map aE)] rfl<|goo 6 rfl<|xC1 h (aK ·) rfl (fun p7 h=> ?_)
 refine goc 3 rfl<|cLp h [(14,16),(146,168)] [(13,13),(15,16),(1000000,1000000)] (fun(e9,h9,i0,i1,i2,i3,U,V,W)=>([(14,I64 e9)],[(13,[.int .i64 h9, .int .i64 i0, .str i1, .sl (i2.map aF), .sl (i3.map aE)]),(1000000,[.sl (U.map rI_u8), .int .i64 V, .int .i64 W])])) (fun(f0,e1,i4,i5,i6,i7,i8,X,Y,Z)=>(.e 5,[(14,I64 f0),(147,Bo e1)],[(13,[.int .i64 i4, .int .i64 i5, .str i6, .sl (i7.map aF), .sl (i8.map aE)]),(1000000,[.sl (X.map rI_u8), .int .i64 Y, .int .i64 Z])])) rfl (fun st _ h=> ?_) (fun q h=> ?_)
 obtain⟨e9,h9,i0,i1,i2,i3,U,V,W⟩:=st; unfold rZ at h; refine gcc 6 rfl<|cIf h rfl (fun q2 h=> ?_) (fun q2 h=> ?_)
 refine gco 5 rfl<|cS (L:=([]:List (List UInt8))) (f:=eF) rfl rfl rfl rfl rfl rfl rfl<|xAz [.sl ([].map eF)] rfl<|goo 5 rfl<|xCk h (mY ·) rfl (fun m h=> ?_)
 refine xAz [.int .i64 0, .int .i64 0, .str [], .sl ([].map aF), .sl ([].map aE)] rfl<|goo 9 rfl<|cS (L:=([]:List (List UInt8))) (f:=eF) rfl rfl rfl rfl rfl rfl rfl<|xMv rfl<|wAp (f:=eF) h rfl rfl rfl rfl rfl rfl rfl rfl rfl (fun _=>rfl) rfl (fun s6 h=> ?_)
 refine xLd rfl<|wAp (f:=eF) h rfl rfl rfl rfl rfl rfl rfl rfl rfl (fun _=>rfl) rfl (fun s8 h=> ?_)
 refine xC1 h (b ·) rfl (fun p h=> ?_)
 refine wBd [.int .i64 m.1, .int .i64 m.2.1, .str m.2.2.1, .sl (m.2.2.2.1.map aF), .sl (m.2.2.2.2.1.map aE), .int .i64 p.1, .int .i64 p.2.1, .str p.2.2.1, .sl (p.2.2.2.1.map aF), .sl (p.2.2.2.2.1.map aE)] rfl rfl rfl rfl rfl rfl<|cS (L:=([aC.mk m.1 m.2.1 m.2.2.1 m.2.2.2.1 m.2.2.2.2.1 p.1 p.2.1 p.2.2.1 p.2.2.2.1 p.2.2.2.2.1]:List aC)) (f:=aE) rfl rfl rfl rfl (by simp only[List.map,dJ]<;>rfl) rfl rfl<|wAp (f:=aE) h rfl rfl rfl rfl rfl rfl rfl rfl rfl (fun a=>by rw[aX]; rfl) rfl (fun t0 h=> ?_)
 exact geo; exact gec; obtain⟨f0,e1,i4,i5,i6,i7,i8,X,Y,Z⟩:=q; refine gco 4 rfl<|xC1 h (eQ ·) rfl (fun p9 h=> ?_)
 refine oNl<|cIf h rfl (fun q3 h=> ?_) (fun q3 h=> ?_)
 refine gco 3 rfl<|wBd [.int .i64 3, .int .i64 0, .str [95], .sl ([].map aF), .sl ([].map aE)] rfl rfl rfl rfl rfl rfl<|goo 4 rfl<|xC1 h (b ·) rfl (fun t h=> ?_)
 refine wBd [.int .i64 3, .int .i64 0, .str [95], .sl ([].map aF), .sl ([].map aE), .int .i64 t.1, .int .i64 t.2.1, .str t.2.2.1, .sl (t.2.2.2.1.map aF), .sl (t.2.2.2.2.1.map aE)] rfl rfl rfl rfl rfl rfl<|cS (L:=([aC.mk (3:Int) (0:Int) ([95]:List UInt8) ([]:List aA) ([]:List aC) t.1 t.2.1 t.2.2.1 t.2.2.2.1 t.2.2.2.2.1]:List aC)) (f:=aE) rfl rfl rfl rfl (by simp only[List.map,dJ]<;>rfl) rfl rfl<|wAp (f:=aE) h rfl rfl rfl rfl rfl rfl rfl rfl rfl (fun a=>by rw[aX]; rfl) rfl (fun t2 h=> ?_)
 exact geo; exact gec; refine gcc 12 rfl<|cIf h rfl (fun q4 h=> ?_) (fun q4 h=> ?_)
 refine gco 3 rfl<|cS (L:=([(0:Int),(1:Int),(2:Int),(5:Int),(40:Int)]:List Int)) (f:=pX) rfl rfl rfl rfl rfl rfl rfl<|xC1 h (cL ·) rfl (fun t4 h=> ?_)
 refine xC0 h (cA ·) rfl (fun t5 h=> ?_)
 exact geo; refine gcc 5 rfl<|cIf h rfl (fun q5 h=> ?_) (fun q5 h=> ?_)
 refine gco 3 rfl<|cS (L:=([([111,107]:List UInt8),([97]:List UInt8),([115,116,111,112]:List UInt8),([116,114,117,101]:List UInt8)]:List (List UInt8))) (f:=eF) rfl rfl rfl rfl rfl rfl rfl<|xC1 h (bD ·) rfl (fun t6 h=> ?_)
 refine xC0 h (rU ·) rfl (fun t7 h=> ?_)
 exact geo; refine gcc 6 rfl<|cIf h rfl (fun q6 h=> ?_) (fun q6 h=> ?_)
 refine gco 6 rfl<|xLn rfl<|goc 2 rfl<|cIf h rfl (fun q7 h=> ?_) (fun q7 h=> ?_)
 refine gco 5 rfl<|xLn rfl<|xC1 h (aK ·) rfl (fun t8 h=> ?_)
 refine xIx h pM rfl (fun o8 h=> ?_)
 exact xLd rfl<|wBd [.int .i64 3, .int .i64 0, .str o8, .sl ([].map aF), .sl ([].map aE)] rfl rfl rfl rfl rfl rfl<|geo
 refine gco 4 rfl<|xC1 h (aK ·) rfl (fun u1 h=> ?_)
 refine xC0 h (cA ·) rfl (fun u4 h=> ?_)
 exact geo; refine gcc 5 rfl<|cIf h rfl (fun q8 h=> ?_) (fun q8 h=> ?_)
 refine gco 6 rfl<|xLn rfl<|goc 2 rfl<|cIf h rfl (fun q9 h=> ?_) (fun q9 h=> ?_)
 refine gco 5 rfl<|xLn rfl<|xC1 h (aK ·) rfl (fun t9 h=> ?_)
 refine xIx h pM rfl (fun o9 h=> ?_)
 exact xLd rfl<|wBd [.int .i64 3, .int .i64 0, .str o9, .sl ([].map aF), .sl ([].map aE)] rfl rfl rfl rfl rfl rfl<|geo
 refine gco 4 rfl<|xC1 h (aK ·) rfl (fun u2 h=> ?_)
 refine xC0 h (cA ·) rfl (fun u5 h=> ?_)
 exact geo; refine gcc 4 rfl<|cIf h rfl (fun r0 h=> ?_) (fun r0 h=> ?_)
 refine gco 4 rfl<|xLn rfl<|goc 2 rfl<|cIf h rfl (fun r1 h=> ?_) (fun r1 h=> ?_)
 refine gco 5 rfl<|xLn rfl<|xC1 h (aK ·) rfl (fun u0 h=> ?_)
 refine xIx h pM rfl (fun p0 h=> ?_)
 exact xLd rfl<|wBd [.int .i64 3, .int .i64 0, .str p0, .sl ([].map aF), .sl ([].map aE)] rfl rfl rfl rfl rfl rfl<|geo
 refine gco 4 rfl<|xC1 h (aK ·) rfl (fun u3 h=> ?_)
 refine xC0 h (cA ·) rfl (fun u6 h=> ?_)
 exact geo; refine gcc 6 rfl<|cIf h rfl (fun r2 h=> ?_) (fun r2 h=> ?_)
 refine gco 5 rfl<|cS (L:=([([43]:List UInt8),([45]:List UInt8),([42]:List UInt8),([61,61]:List UInt8),([60]:List UInt8),([43]:List UInt8)]:List (List UInt8))) (f:=eF) rfl rfl rfl rfl rfl rfl rfl<|xC1 h (bD ·) rfl (fun o5 h=> ?_)
 refine goo 4 rfl<|xC1 h (b ·) rfl (fun w h=> ?_)
 refine goo 4 rfl<|xC1 h (b ·) rfl (fun z h=> ?_)
 exact cS (L:=([aA.mk w.1 w.2.1 w.2.2.1 w.2.2.2.1 w.2.2.2.2.1,aA.mk z.1 z.2.1 z.2.2.1 z.2.2.2.1 z.2.2.2.2.1]:List aA)) (f:=aF) rfl rfl rfl rfl (by simp only[List.map,aP]<;>rfl) rfl rfl<|wBd [.int .i64 7, .int .i64 0, .str o5.1, .sl ([aA.mk w.1 w.2.1 w.2.2.1 w.2.2.2.1 w.2.2.2.2.1,aA.mk z.1 z.2.1 z.2.2.1 z.2.2.2.1 z.2.2.2.2.1].map aF), .sl ([].map aE)] rfl rfl rfl rfl rfl rfl<|geo
 refine gcc 4 rfl<|cIf h rfl (fun r3 h=> ?_) (fun r3 h=> ?_)
 refine gco 3 rfl<|cS (L:=([([43]:List UInt8),([45]:List UInt8),([42]:List UInt8),([61,61]:List UInt8),([60]:List UInt8),([43]:List UInt8)]:List (List UInt8))) (f:=eF) rfl rfl rfl rfl rfl rfl rfl<|xC1 h (bD ·) rfl (fun o6 h=> ?_)
 refine goo 4 rfl<|xC1 h (b ·) rfl (fun y h=> ?_)
 refine goo 4 rfl<|xC1 h (b ·) rfl (fun A h=> ?_)
 exact cS (L:=([aA.mk y.1 y.2.1 y.2.2.1 y.2.2.2.1 y.2.2.2.2.1,aA.mk A.1 A.2.1 A.2.2.1 A.2.2.2.1 A.2.2.2.2.1]:List aA)) (f:=aF) rfl rfl rfl rfl (by simp only[List.map,aP]<;>rfl) rfl rfl<|wBd [.int .i64 7, .int .i64 0, .str o6.1, .sl ([aA.mk y.1 y.2.1 y.2.2.1 y.2.2.2.1 y.2.2.2.2.1,aA.mk A.1 A.2.1 A.2.2.1 A.2.2.2.1 A.2.2.2.2.1].map aF), .sl ([].map aE)] rfl rfl rfl rfl rfl rfl<|geo
 refine gcc 5 rfl<|cIf h rfl (fun r4 h=> ?_) (fun r4 h=> ?_)
 refine gco 3 rfl<|cS (L:=([(4:Int),(5:Int)]:List Int)) (f:=pX) rfl rfl rfl rfl rfl rfl rfl<|xC1 h (cL ·) rfl (fun o7 h=> ?_)
 refine wBd [.int .i64 o7.1, .int .i64 0, .str [], .sl ([].map aF), .sl ([].map aE)] rfl rfl rfl rfl rfl rfl<|xAz [.int .i64 0, .int .i64 0, .str [], .sl ([].map aF), .sl ([].map aE)] rfl<|goo 6 rfl<|xC1 h (aK ·) rfl (fun u7 h=> ?_)
 refine goc 2 rfl<|cLp h [(9,9),(80,93)] [(8,8),(1000000,1000000)] (fun(k4,m1,m2,m3,m4,m5,a0,a1,a2)=>([(9,I64 k4)],[(8,[.int .i64 m1, .int .i64 m2, .str m3, .sl (m4.map aF), .sl (m5.map aE)]),(1000000,[.sl (a0.map rI_u8), .int .i64 a1, .int .i64 a2])])) (fun(k5,f3,m6,m7,m8,m9,n0,a3,a4,a5)=>(.e 1,[(9,I64 k5),(81,Bo f3)],[(8,[.int .i64 m6, .int .i64 m7, .str m8, .sl (m9.map aF), .sl (n0.map aE)]),(1000000,[.sl (a3.map rI_u8), .int .i64 a4, .int .i64 a5])])) rfl (fun st _ h=> ?_) (fun q h=> ?_)
 obtain⟨k4,m1,m2,m3,m4,m5,a0,a1,a2⟩:=st; unfold kQ at h; refine gcc 6 rfl<|cIf h rfl (fun r5 h=> ?_) (fun r5 h=> ?_)
 refine gco 10 rfl<|xC1 h (b ·) rfl (fun K h=> ?_)
 refine cS (L:=([aA.mk K.1 K.2.1 K.2.2.1 K.2.2.2.1 K.2.2.2.2.1]:List aA)) (f:=aF) rfl rfl rfl rfl (by simp only[List.map,aP]<;>rfl) rfl rfl<|wAp (f:=aF) h rfl rfl rfl rfl rfl rfl rfl rfl rfl (fun a=>by rw[aO]; rfl) rfl (fun u9 h=> ?_)
 exact geo; exact gec; obtain⟨k5,f3,m6,m7,m8,m9,n0,a3,a4,a5⟩:=q; exact gec; refine gcc 5 rfl<|cIf h rfl (fun r6 h=> ?_) (fun r6 h=> ?_)
 refine gco 6 rfl<|xC1 h (b ·) rfl (fun g h=> ?_)
 refine goo 4 rfl<|xC1 h (b ·) rfl (fun c h=> ?_)
 exact cS (L:=([aA.mk c.1 c.2.1 c.2.2.1 c.2.2.2.1 c.2.2.2.2.1]:List aA)) (f:=aF) rfl rfl rfl rfl (by simp only[List.map,aP]<;>rfl) rfl rfl<|wBd [.int .i64 5, .int .i64 0, .str [], .sl ([aA.mk c.1 c.2.1 c.2.2.1 c.2.2.2.1 c.2.2.2.2.1].map aF), .sl ([].map aE)] rfl rfl rfl rfl rfl rfl<|cS (L:=([aA.mk g.1 g.2.1 g.2.2.1 g.2.2.2.1 g.2.2.2.2.1,aA.mk (5:Int) (0:Int) ([]:List UInt8) ([aA.mk c.1 c.2.1 c.2.2.1 c.2.2.2.1 c.2.2.2.2.1]:List aA) ([]:List aC)]:List aA)) (f:=aF) rfl rfl rfl rfl (by simp only[List.map,aP]<;>rfl) rfl rfl<|wBd [.int .i64 6, .int .i64 0, .str [], .sl ([aA.mk g.1 g.2.1 g.2.2.1 g.2.2.2.1 g.2.2.2.2.1,aA.mk (5:Int) (0:Int) ([]:List UInt8) ([aA.mk c.1 c.2.1 c.2.2.1 c.2.2.2.1 c.2.2.2.2.1]:List aA) ([]:List aC)].map aF), .sl ([].map aE)] rfl rfl rfl rfl rfl rfl<|geo
 refine gcc 5 rfl<|cIf h rfl (fun r7 h=> ?_) (fun r7 h=> ?_)
 refine gco 3 rfl<|cS (L:=([([102]:List UInt8),([103]:List UInt8),([104]:List UInt8)]:List (List UInt8))) (f:=eF) rfl rfl rfl rfl rfl rfl rfl<|xC1 h (bD ·) rfl (fun n1 h=> ?_)
 refine wBd [.int .i64 8, .int .i64 0, .str n1.1, .sl ([].map aF), .sl ([].map aE)] rfl rfl rfl rfl rfl rfl<|xAz [.int .i64 0, .int .i64 0, .str [], .sl ([].map aF), .sl ([].map aE)] rfl<|goc 13 rfl<|cIf h rfl (fun r8 h=> ?_) (fun r8 h=> ?_)
 refine gcc 8 rfl<|cLp h [(12,12),(120,134)] [(10,10),(1000000,1000000)] (fun(e5,f9,g0,g1,g2,g3,a6,a7,a8)=>([(12,I64 e5)],[(10,[.int .i64 f9, .int .i64 g0, .str g1, .sl (g2.map aF), .sl (g3.map aE)]),(1000000,[.sl (a6.map rI_u8), .int .i64 a7, .int .i64 a8])])) (fun(e6,d9,g4,g5,g6,g7,g8,a9,b0,b1)=>(.e 3,[(12,I64 e6),(122,Bo d9)],[(10,[.int .i64 g4, .int .i64 g5, .str g6, .sl (g7.map aF), .sl (g8.map aE)]),(1000000,[.sl (a9.map rI_u8), .int .i64 b0, .int .i64 b1])])) rfl (fun st _ h=> ?_) (fun q h=> ?_)
 obtain⟨e5,f9,g0,g1,g2,g3,a6,a7,a8⟩:=st; unfold kP at h; refine gcc 7 rfl<|cIf h rfl (fun r9 h=> ?_) (fun r9 h=> ?_)
 refine gco 10 rfl<|xC1 h (b ·) rfl (fun H h=> ?_)
 refine cS (L:=([aA.mk H.1 H.2.1 H.2.2.1 H.2.2.2.1 H.2.2.2.2.1]:List aA)) (f:=aF) rfl rfl rfl rfl (by simp only[List.map,aP]<;>rfl) rfl rfl<|wAp (f:=aF) h rfl rfl rfl rfl rfl rfl rfl rfl rfl (fun a=>by rw[aO]; rfl) rfl (fun s4 h=> ?_)
 exact geo; exact gec; obtain⟨e6,d9,g4,g5,g6,g7,g8,a9,b0,b1⟩:=q; exact gec; refine gcc 6 rfl<|cLp h [(12,12),(120,134)] [(10,10),(1000000,1000000)] (fun(e7,g9,h0,h1,h2,h3,b2,b3,b4)=>([(12,I64 e7)],[(10,[.int .i64 g9, .int .i64 h0, .str h1, .sl (h2.map aF), .sl (h3.map aE)]),(1000000,[.sl (b2.map rI_u8), .int .i64 b3, .int .i64 b4])])) (fun(e8,e0,h4,h5,h6,h7,h8,b5,b6,b7)=>(.e 3,[(12,I64 e8),(122,Bo e0)],[(10,[.int .i64 h4, .int .i64 h5, .str h6, .sl (h7.map aF), .sl (h8.map aE)]),(1000000,[.sl (b5.map rI_u8), .int .i64 b6, .int .i64 b7])])) rfl (fun st _ h=> ?_) (fun q h=> ?_)
 obtain⟨e7,g9,h0,h1,h2,h3,b2,b3,b4⟩:=st; unfold kO at h; refine gcc 7 rfl<|cIf h rfl (fun s0 h=> ?_) (fun s0 h=> ?_)
 refine gco 10 rfl<|xC1 h (b ·) rfl (fun I h=> ?_)
 refine cS (L:=([aA.mk I.1 I.2.1 I.2.2.1 I.2.2.2.1 I.2.2.2.2.1]:List aA)) (f:=aF) rfl rfl rfl rfl (by simp only[List.map,aP]<;>rfl) rfl rfl<|wAp (f:=aF) h rfl rfl rfl rfl rfl rfl rfl rfl rfl (fun a=>by rw[aO]; rfl) rfl (fun s5 h=> ?_)
 exact geo; exact gec; obtain⟨e8,e0,h4,h5,h6,h7,h8,b5,b6,b7⟩:=q; exact gec; refine gco 7 rfl<|xC1 h (b ·) rfl (fun l h=> ?_)
 refine cS (L:=([aA.mk l.1 l.2.1 l.2.2.1 l.2.2.2.1 l.2.2.2.2.1]:List aA)) (f:=aF) rfl rfl rfl rfl (by simp only[List.map,aP]<;>rfl) rfl rfl<|wBd [.int .i64 9, .int .i64 0, .str [], .sl ([aA.mk l.1 l.2.1 l.2.2.1 l.2.2.2.1 l.2.2.2.2.1].map aF), .sl ([].map aE)] rfl rfl rfl rfl rfl rfl<|xAz [.int .i64 0, .int .i64 0, .str [], .sl ([].map aF), .sl ([].map aE)] rfl<|goo 6 rfl<|xC1 h (aK ·) rfl (fun p8 h=> ?_)
 refine goc 3 rfl<|cLp h [(14,16),(146,168)] [(13,13),(15,16),(1000000,1000000)] (fun(f1,i9,j0,j1,j2,j3,b8,b9,c0)=>([(14,I64 f1)],[(13,[.int .i64 i9, .int .i64 j0, .str j1, .sl (j2.map aF), .sl (j3.map aE)]),(1000000,[.sl (b8.map rI_u8), .int .i64 b9, .int .i64 c0])])) (fun(f2,e2,j4,j5,j6,j7,j8,c1,c2,c3)=>(.e 5,[(14,I64 f2),(147,Bo e2)],[(13,[.int .i64 j4, .int .i64 j5, .str j6, .sl (j7.map aF), .sl (j8.map aE)]),(1000000,[.sl (c1.map rI_u8), .int .i64 c2, .int .i64 c3])])) rfl (fun st _ h=> ?_) (fun q h=> ?_)
 obtain⟨f1,i9,j0,j1,j2,j3,b8,b9,c0⟩:=st; unfold kN at h; refine gcc 6 rfl<|cIf h rfl (fun s1 h=> ?_) (fun s1 h=> ?_)
 refine gco 5 rfl<|cS (L:=([]:List (List UInt8))) (f:=eF) rfl rfl rfl rfl rfl rfl rfl<|xAz [.sl ([].map eF)] rfl<|goo 5 rfl<|xCk h (mY ·) rfl (fun o h=> ?_)
 refine xAz [.int .i64 0, .int .i64 0, .str [], .sl ([].map aF), .sl ([].map aE)] rfl<|goo 9 rfl<|cS (L:=([]:List (List UInt8))) (f:=eF) rfl rfl rfl rfl rfl rfl rfl<|xMv rfl<|wAp (f:=eF) h rfl rfl rfl rfl rfl rfl rfl rfl rfl (fun _=>rfl) rfl (fun s7 h=> ?_)
 refine xLd rfl<|wAp (f:=eF) h rfl rfl rfl rfl rfl rfl rfl rfl rfl (fun _=>rfl) rfl (fun s9 h=> ?_)
 refine xC1 h (b ·) rfl (fun s h=> ?_)
 refine wBd [.int .i64 o.1, .int .i64 o.2.1, .str o.2.2.1, .sl (o.2.2.2.1.map aF), .sl (o.2.2.2.2.1.map aE), .int .i64 s.1, .int .i64 s.2.1, .str s.2.2.1, .sl (s.2.2.2.1.map aF), .sl (s.2.2.2.2.1.map aE)] rfl rfl rfl rfl rfl rfl<|cS (L:=([aC.mk o.1 o.2.1 o.2.2.1 o.2.2.2.1 o.2.2.2.2.1 s.1 s.2.1 s.2.2.1 s.2.2.2.1 s.2.2.2.2.1]:List aC)) (f:=aE) rfl rfl rfl rfl (by simp only[List.map,dJ]<;>rfl) rfl rfl<|wAp (f:=aE) h rfl rfl rfl rfl rfl rfl rfl rfl rfl (fun a=>by rw[aX]; rfl) rfl (fun t1 h=> ?_)
 exact geo; exact gec; obtain⟨f2,e2,j4,j5,j6,j7,j8,c1,c2,c3⟩:=q; refine gco 4 rfl<|xC1 h (eQ ·) rfl (fun q0 h=> ?_)
 refine oNl<|cIf h rfl (fun s2 h=> ?_) (fun s2 h=> ?_)
 refine gco 3 rfl<|wBd [.int .i64 3, .int .i64 0, .str [95], .sl ([].map aF), .sl ([].map aE)] rfl rfl rfl rfl rfl rfl<|goo 4 rfl<|xC1 h (b ·) rfl (fun u h=> ?_)
 refine wBd [.int .i64 3, .int .i64 0, .str [95], .sl ([].map aF), .sl ([].map aE), .int .i64 u.1, .int .i64 u.2.1, .str u.2.2.1, .sl (u.2.2.2.1.map aF), .sl (u.2.2.2.2.1.map aE)] rfl rfl rfl rfl rfl rfl<|cS (L:=([aC.mk (3:Int) (0:Int) ([95]:List UInt8) ([]:List aA) ([]:List aC) u.1 u.2.1 u.2.2.1 u.2.2.2.1 u.2.2.2.2.1]:List aC)) (f:=aE) rfl rfl rfl rfl (by simp only[List.map,dJ]<;>rfl) rfl rfl<|wAp (f:=aE) h rfl rfl rfl rfl rfl rfl rfl rfl rfl (fun a=>by rw[aX]; rfl) rfl (fun t3 h=> ?_)
 exact geo; exact gec
def xO:Nat→(cG)
  | 0=>(fun _ _ _ _ _=>none)
  | n+1=>lK n (xO n)
def bH(n:Nat):cG:=xO n
theorem Ay(n:Nat):oB (bH n):=by
  induction n with
  | zero=>exact(fun h=>nomatch h)
  | succ n ih=>exact Ap (n:=n) ih
theorem Ci{n:Nat}:oB (bH n):=(Ay n)
theorem yM(n:Nat):bH (n+1)=lK n (bH n):=rfl
abbrev Dj(p:(List (List UInt8))→(List Int)→Int→Int→Option (Int×Int×(List UInt8)×(List aA)×(List aC)×(List Int)×Int×Int)):Prop:= ∀ {f:List (List UInt8)} {a:List Int} {b d:Int} {r:Int×Int×(List UInt8)×(List aA)×(List aC)×(List Int)×Int×Int},p f a b d=some r→Big Try.prog τ An (.fn 264 [.one (.ptr 1000000 0), .one (.c (.sl (f.map eF)))] [[.sl (a.map rI_u8), .int .i64 b, .int .i64 d]] (.one (.ag [.int .i64 r.1, .int .i64 r.2.1, .str r.2.2.1, .sl (r.2.2.2.1.map aF), .sl (r.2.2.2.2.1.map aE)])) none [[.sl (r.2.2.2.2.2.1.map rI_u8), .int .i64 r.2.2.2.2.2.2.1, .int .i64 r.2.2.2.2.2.2.2]] none)
def kB(n:Nat)(j:List (List UInt8))(d:List Int)(f:Int)(g:Int):Option (Int×Int×(List UInt8)×(List aA)×(List aC)×(List Int)×Int×Int):=
  (bH n (3:Int) j d f g).bind fun a=>(nW n a.1 a.2.1 a.2.2.1 a.2.2.2.1 a.2.2.2.2.1).bind fun c=>bif !c then(bN n (1:Int)).bind fun b=>some (b.1,b.2.1,b.2.2.1,b.2.2.2.1,b.2.2.2.2,a.2.2.2.2.2.1,a.2.2.2.2.2.2.1,a.2.2.2.2.2.2.2)else some (a.1,a.2.1,a.2.2.1,a.2.2.2.1,a.2.2.2.2.1,a.2.2.2.2.2.1,a.2.2.2.2.2.2.1,a.2.2.2.2.2.2.2)
theorem BG{n:Nat}:Dj (kB n):=by
 intro l d f g r h; unfold kB at h; refine bF Try.func264 rfl rfl<|cRs<|xAz [.int .i64 0, .int .i64 0, .str [], .sl ([].map aF), .sl ([].map aE)] rfl<|goo 5 rfl<|xC1 h (Ci ·) rfl (fun c h=> ?_)
 refine xAz [.int .i64 0, .int .i64 0, .str [], .sl ([].map aF), .sl ([].map aE)] rfl<|goo 6 rfl<|xC0 h (Cl ·) rfl (fun a h=> ?_)
 refine goc 2 rfl<|cIf h rfl (fun j h=> ?_) (fun j h=> ?_)
 refine cRs<|xC0 h (cA ·) rfl (fun b h=> ?_)
 exact geo; exact gec
abbrev Ha(p:(List Int)→Int→Int→Option (Int×Int×(List UInt8)×(List aA)×(List aC)×(List Int)×Int×Int)):Prop:= ∀ {a:List Int} {b c:Int} {r:Int×Int×(List UInt8)×(List aA)×(List aC)×(List Int)×Int×Int},p a b c=some r→Big Try.prog τ An (.fn 202 [.one (.ptr 1000000 0)] [[.sl (a.map rI_u8), .int .i64 b, .int .i64 c]] (.one (.ag [.int .i64 r.1, .int .i64 r.2.1, .str r.2.2.1, .sl (r.2.2.2.1.map aF), .sl (r.2.2.2.2.1.map aE)])) none [[.sl (r.2.2.2.2.2.1.map rI_u8), .int .i64 r.2.2.2.2.2.2.1, .int .i64 r.2.2.2.2.2.2.2]] none)
def nE(n:Nat)(d:List Int)(f:Int)(g:Int):Option (Int×Int×(List UInt8)×(List aA)×(List aC)×(List Int)×Int×Int):=
  (kB n ([([88]:List UInt8),([89]:List UInt8)]:List (List UInt8)) d f g).bind fun a=>(cN n (4:Int) a.2.2.2.2.2.1 a.2.2.2.2.2.2.1 a.2.2.2.2.2.2.2).bind fun c=>bif c.1 then(jK n a.1 a.2.1 a.2.2.1 a.2.2.2.1 a.2.2.2.2.1 c.2.1 c.2.2.1 c.2.2.2).bind fun b=>some (b.1,b.2.1,b.2.2.1,b.2.2.2.1,b.2.2.2.2.1,b.2.2.2.2.2.1,b.2.2.2.2.2.2.1,b.2.2.2.2.2.2.2)else some (a.1,a.2.1,a.2.2.1,a.2.2.2.1,a.2.2.2.2.1,c.2.1,c.2.2.1,c.2.2.2)
theorem Dd{n:Nat}:Ha (nE n):=by
 intro d g j r h; unfold nE at h; refine bF Try.func202 rfl rfl<|cRs<|xAz [.int .i64 0, .int .i64 0, .str [], .sl ([].map aF), .sl ([].map aE)] rfl<|goo 4 rfl<|cS (L:=([([88]:List UInt8),([89]:List UInt8)]:List (List UInt8))) (f:=eF) rfl rfl rfl rfl rfl rfl rfl<|xC1 h (BG ·) rfl (fun b h=> ?_)
 refine xAz [.int .i64 0, .int .i64 0, .str [], .sl ([].map aF), .sl ([].map aE)] rfl<|goo 6 rfl<|xC1 h (eQ ·) rfl (fun c h=> ?_)
 refine oNl<|cIf h rfl (fun l h=> ?_) (fun l h=> ?_)
 refine gco 3 rfl<|xC1 h (tM ·) rfl (fun a h=> ?_)
 exact geo; exact gec
abbrev Cs(p:(List Int)→Int→Int→Option (Int×Int×(List UInt8)×(List aA)×(List aC)×(List Int)×Int×Int)):Prop:= ∀ {a:List Int} {b c:Int} {r:Int×Int×(List UInt8)×(List aA)×(List aC)×(List Int)×Int×Int},p a b c=some r→Big Try.prog τ An (.fn 184 [.one (.ptr 1000000 0)] [[.sl (a.map rI_u8), .int .i64 b, .int .i64 c]] (.one (.ag [.int .i64 r.1, .int .i64 r.2.1, .str r.2.2.1, .sl (r.2.2.2.1.map aF), .sl (r.2.2.2.2.1.map aE)])) none [[.sl (r.2.2.2.2.2.1.map rI_u8), .int .i64 r.2.2.2.2.2.2.1, .int .i64 r.2.2.2.2.2.2.2]] none)
def jD(n:Nat)(g:List Int)(j:Int)(l:Int):Option (Int×Int×(List UInt8)×(List aA)×(List aC)×(List Int)×Int×Int):=
  (cK n (2:Int) g j l ([]:List (List UInt8))).bind fun a=>(aJ n (8:Int) a.2.2.2.2.2.1 a.2.2.2.2.2.2.1 a.2.2.2.2.2.2.2.1).bind fun b=>bif decide (b.1=(0:Int))then(jK n a.1 a.2.1 a.2.2.1 a.2.2.2.1 a.2.2.2.2.1 b.2.1 b.2.2.1 b.2.2.2).bind fun c=>some (c.1,c.2.1,c.2.2.1,c.2.2.2.1,c.2.2.2.2.1,c.2.2.2.2.2.1,c.2.2.2.2.2.2.1,c.2.2.2.2.2.2.2)else bif decide (b.1=(1:Int))then(cE n a.1 a.2.1 a.2.2.1 a.2.2.2.1 a.2.2.2.2.1).bind fun f=>some ((4:Int),(0:Int),([]:List UInt8),([aA.mk a.1 a.2.1 a.2.2.1 a.2.2.2.1 a.2.2.2.2.1,aA.mk f.1 f.2.1 f.2.2.1 f.2.2.2.1 f.2.2.2.2]:List aA),([]:List aC),b.2.1,b.2.2.1,b.2.2.2)else bif decide (b.1=(2:Int))then(nE n b.2.1 b.2.2.1 b.2.2.2).bind fun d=>some (d.1,d.2.1,d.2.2.1,d.2.2.2.1,d.2.2.2.2.1,d.2.2.2.2.2.1,d.2.2.2.2.2.2.1,d.2.2.2.2.2.2.2)else some (a.1,a.2.1,a.2.2.1,a.2.2.2.1,a.2.2.2.2.1,b.2.1,b.2.2.1,b.2.2.2)
theorem zX{n:Nat}:Cs (jD n):=by
 intro j l m r h; unfold jD at h; refine bF Try.func184 rfl rfl<|cRs<|xAz [.int .i64 0, .int .i64 0, .str [], .sl ([].map aF), .sl ([].map aE)] rfl<|oRs<|cS (L:=([]:List (List UInt8))) (f:=eF) rfl rfl rfl rfl rfl rfl rfl<|xAz [.sl ([].map eF)] rfl<|goo 5 rfl<|xCk h (mY ·) rfl (fun b h=> ?_)
 refine xAz [.int .i64 0, .int .i64 0, .str [], .sl ([].map aF), .sl ([].map aE)] rfl<|goo 6 rfl<|xC1 h (aK ·) rfl (fun g h=> ?_)
 refine goc 7 rfl<|cIf h rfl (fun o h=> ?_) (fun o h=> ?_)
 refine gco 3 rfl<|xC1 h (tM ·) rfl (fun c h=> ?_)
 exact geo; refine gcc 5 rfl<|cIf h rfl (fun p h=> ?_) (fun p h=> ?_)
 refine gco 3 rfl<|xC0 h (oY ·) rfl (fun a h=> ?_)
 exact cS (L:=([aA.mk b.1 b.2.1 b.2.2.1 b.2.2.2.1 b.2.2.2.2.1,aA.mk a.1 a.2.1 a.2.2.1 a.2.2.2.1 a.2.2.2.2]:List aA)) (f:=aF) rfl rfl rfl rfl (by simp only[List.map,aP]<;>rfl) rfl rfl<|wBd [.int .i64 4, .int .i64 0, .str [], .sl ([aA.mk b.1 b.2.1 b.2.2.1 b.2.2.2.1 b.2.2.2.2.1,aA.mk a.1 a.2.1 a.2.2.1 a.2.2.2.1 a.2.2.2.2].map aF), .sl ([].map aE)] rfl rfl rfl rfl rfl rfl<|geo
 refine gcc 5 rfl<|cIf h rfl (fun s h=> ?_) (fun s h=> ?_)
 refine gco 2 rfl<|xC1 h (Dd ·) rfl (fun d h=> ?_)
 exact geo; exact gec
abbrev BN(p:(List Int)→Option (Int×Int×(List UInt8)×(List aA)×(List aC)×Int×Int×(List UInt8)×(List aB))):Prop:= ∀ {a:List Int} {r:Int×Int×(List UInt8)×(List aA)×(List aC)×Int×Int×(List UInt8)×(List aB)},p a=some r→Big Try.prog τ An (.fn 92 [.one (.c (.sl (a.map rI_u8)))] [] (.tup [.ag [.int .i64 r.1, .int .i64 r.2.1, .str r.2.2.1, .sl (r.2.2.2.1.map aF), .sl (r.2.2.2.2.1.map aE)], .ag [.int .i64 r.2.2.2.2.2.1, .int .i64 r.2.2.2.2.2.2.1, .str r.2.2.2.2.2.2.2.1, .sl (r.2.2.2.2.2.2.2.2.map aD)]]) none [] none)
def iH(n:Nat)(j:List Int):Option (Int×Int×(List UInt8)×(List aA)×(List aC)×Int×Int×(List UInt8)×(List aB)):=
  (lB n j).bind fun g=>(cK n (2:Int) g.1 g.2.1 g.2.2 ([]:List (List UInt8))).bind fun a=>(cP n a.1 a.2.1 a.2.2.1 a.2.2.2.1 a.2.2.2.2.1 a.2.2.2.2.2.1 a.2.2.2.2.2.2.1 a.2.2.2.2.2.2.2.1).bind fun b=>(aJ n (8:Int) b.2.2.2.2.1 b.2.2.2.2.2.1 b.2.2.2.2.2.2).bind fun c=>bif decide (c.1=(0:Int))then(lA n c.2.1 c.2.2.1 c.2.2.2).bind fun f=>some (a.1,a.2.1,a.2.2.1,a.2.2.2.1,a.2.2.2.2.1,f.1,f.2.1,f.2.2.1,f.2.2.2.1)else bif decide (c.1=(1:Int))then(jD n c.2.1 c.2.2.1 c.2.2.2).bind fun d=>some (d.1,d.2.1,d.2.2.1,d.2.2.2.1,d.2.2.2.2.1,b.1,b.2.1,b.2.2.1,b.2.2.2.1)else some (a.1,a.2.1,a.2.2.1,a.2.2.2.1,a.2.2.2.2.1,b.1,b.2.1,b.2.2.1,b.2.2.2.1)
theorem yS{n:Nat}:BN (iH n):=by
 intro o r h; unfold iH at h; refine bF Try.func92 rfl rfl<|cRs<|xAz [.int .i64 0, .int .i64 0, .str [], .sl ([].map aF), .sl ([].map aE)] rfl<|xAz [.int .i64 0, .int .i64 0, .str [], .sl ([].map aD)] rfl<|goo 4 rfl<|wCn h (fun _=>(vJ ·)) rfl rfl rfl rfl rfl rfl rfl (fun _=>rfl) (fun j h=> ?_)
 refine goo 4 rfl<|cS (L:=([]:List (List UInt8))) (f:=eF) rfl rfl rfl rfl rfl rfl rfl<|xAz [.sl ([].map eF)] rfl<|goo 5 rfl<|xCk h (mY ·) rfl (fun a h=> ?_)
 refine xAz [.int .i64 0, .int .i64 0, .str [], .sl ([].map aF), .sl ([].map aE)] rfl<|goo 6 rfl<|xC1 h (Dc ·) rfl (fun b h=> ?_)
 refine xAz [.int .i64 0, .int .i64 0, .str [], .sl ([].map aD)] rfl<|goo 6 rfl<|xC1 h (aK ·) rfl (fun c h=> ?_)
 refine goc 7 rfl<|cIf h rfl (fun l h=> ?_) (fun l h=> ?_)
 refine gco 2 rfl<|xC1 h (vH ·) rfl (fun d h=> ?_)
 exact geo; refine gcc 5 rfl<|cIf h rfl (fun m h=> ?_) (fun m h=> ?_)
 refine gco 2 rfl<|xC1 h (zX ·) rfl (fun g h=> ?_)
 exact geo; exact gec
abbrev gT:Type:=(List aA)→(List aB)→(List aG)→Option (Bool×(List aG))
abbrev lW(p:gT):Prop:= ∀ {b:List aA} {d:List aB} {a:List aG} {r:Bool×(List aG)},p b d a=some r→Big Try.prog τ An (.fn 255 [.one (.c (.sl (b.map aF))), .one (.c (.sl (d.map aD))), .one (.ptr 1000000 0)] [[.sl (a.map aL)]] (.one (.c (.bool r.1))) none [[.sl (r.2.map aL)]] none)
abbrev eI:Type:=Int→Int→(List UInt8)→(List aA)→(List aC)→Int→Int→(List UInt8)→(List aB)→(List aG)→Option (Bool×(List aG))
abbrev kI(p:eI):Prop:= ∀ {b d:Int} {f:List UInt8} {g:List aA} {j:List aC} {l m:Int} {o:List UInt8} {s:List aB} {a:List aG} {r:Bool×(List aG)},p b d f g j l m o s a=some r→Big Try.prog τ An (.fn 185 [.one (.ag [.int .i64 b, .int .i64 d, .str f, .sl (g.map aF), .sl (j.map aE)]), .one (.ag [.int .i64 l, .int .i64 m, .str o, .sl (s.map aD)]), .one (.ptr 1000000 0)] [[.sl (a.map aL)]] (.one (.c (.bool r.1))) none [[.sl (r.2.map aL)]] none)
def fK(n:Nat)(d:eI)(j:List aA)(l:List aB):(Int×(List aG))→Option ((Int×(List aG))⊕((Bool×(List aG))⊕(Int×Bool×(List aG))))
  | (g,c)=>bif decide (g<(j.length:Int))then(ix j g).bind fun a=>(ix l g).bind fun b=>(d a.f0 a.f1 a.f2 a.f3 a.f4 b.f0 b.f1 b.f2 b.f3 c).bind fun f=>bif !f.1 then some (.inr (.inl (false,f.2)))else some (.inl ((IntKind.wrap .i64 (g+(1:Int))),f.2))else some (.inr (.inr (g,false,c)))
def lI(n:Nat)(a:eI)(d:gT)(g:List aA)(j:List aB)(f:List aG):Option (Bool×(List aG)):=
  (loopN (fK n a g j) n ((0:Int),f)).bind fun q=>(match q with | .inl (l,b)=>some (l,b) | .inr (o,m,c)=>some (true,c))
theorem Am{n:Nat}{a:eI}(c:kI a){b:gT}(l:lW b):lW (lI n a b):=by
 intro z A w r h; unfold lI at h; refine bF Try.func255 rfl rfl<|gcc 9 rfl<|cLp h [(6,24)] [(1000000,1000000)] (fun(o,d)=>([(7,I64 o)],[(1000000,[.sl (d.map aL)])])) (fun q=>match q with | .inl (m,f)=>(.r,[(6,Bo m)],[(1000000,[.sl (f.map aL)])]) | .inr (p,j,g)=>(.e 0,[(7,I64 p),(11,Bo j)],[(1000000,[.sl (g.map aL)])])) rfl (fun st _ h=> ?_) (fun q h=> ?_)
 obtain⟨o,d⟩:=st; unfold fK at h; refine gco 5 rfl<|xLn rfl<|goc 2 rfl<|cIf h rfl (fun y h=> ?_) (fun y h=> ?_)
 refine gco 7 rfl<|xIx h aO rfl (fun v h=> ?_)
 refine goo 3 rfl<|xIx h aN rfl (fun t h=> ?_)
 refine goo 2 rfl<|xC1 h (c ·) rfl (fun s h=> ?_)
 refine goc 2 rfl<|cIf h rfl (fun u h=> ?_) (fun u h=> ?_)
 exact gec; exact gec; exact gec; rcases q with⟨m,f⟩ | ⟨p,j,g⟩; exact en; exact gec
def jZ(n:Nat)(j:eI)(b:gT)(o:Int)(I:Int)(y:List UInt8)(c:List aA)(L:List aC)(l:Int)(C:Int)(D:List UInt8)(f:List aB)(a:List aG):Option (Bool×(List aG)):=
  bif decide (o=(1:Int))then(bif decide (l=(1:Int))then some (decide (C=I))else some false).bind fun J=>some (J,a)else bif decide (o=(2:Int))then(bif decide (l=(2:Int))then some (decide (D=y))else some false).bind fun K=>some (K,a)else bif decide (o=(3:Int))then bif !decide (y=([95]:List UInt8))then(dA n l C D f).bind fun m=>(fE 72 a ([aG.mk y m.1 m.2.1 m.2.2.1 m.2.2.2]:List aG)).bind fun E=>some (true,E)else some (true,a)else bif decide (o=(4:Int))then(bif decide (l=(4:Int))then bif decide ((f.length:Int)=(c.length:Int))then(b c f a).bind fun v=>some (v.1,v.2)else some (false,a)else some (false,a)).bind fun(G,p)=>some (G,p)else bif decide (o=(5:Int))then(bif decide (l=(5:Int))then bif decide ((f.length:Int)=(c.length:Int))then(b c f a).bind fun w=>some (w.1,w.2)else some (false,a)else some (false,a)).bind fun(H,s)=>some (H,s)else(bif !decide (l=(5:Int))then some (true,a)else bif decide ((f.length:Int)<(IntKind.wrap .i64 ((c.length:Int) - (1:Int))))then some (true,a)else(sub c none (some (IntKind.wrap .i64 ((c.length:Int) - (1:Int))))).bind fun z=>(b z f a).bind fun t=>some ((!t.1),t.2)).bind fun(A,g)=>bif A then some (false,g)else(ix c (IntKind.wrap .i64 ((c.length:Int) - (1:Int)))).bind fun d=>(sub f (some (IntKind.wrap .i64 ((c.length:Int) - (1:Int)))) none).bind fun B=>(j d.f0 d.f1 d.f2 d.f3 d.f4 (5:Int) (0:Int) ([]:List UInt8) B g).bind fun u=>some (u.1,u.2)
theorem zR{n:Nat}{d:eI}(o:kI d){g:gT}(b:lW g):kI (jZ n d g):=by
 intro a1 a2 v a3 a4 a5 a6 a7 a8 U r h; unfold jZ at h; refine bF Try.func185 rfl rfl<|gcc 18 rfl<|cIf h rfl (fun V h=> ?_) (fun V h=> ?_)
 refine cRs<|oJn h [(6,6),(12,21)] [] (fun w=>(.n,[(6,Bo w)],[])) (fun _ h=> ?_) (fun w h=> ?_)
 refine goo 4 rfl<|oIf 15 h rfl (fun W h=> ?_) (fun W h=> ?_)
 exact geo; exact geo; exact gec; refine gcc 5 rfl<|cIf h rfl (fun X h=> ?_) (fun X h=> ?_)
 refine cRs<|oJn h [(6,6),(24,33)] [] (fun y=>(.n,[(6,Bo y)],[])) (fun _ h=> ?_) (fun y h=> ?_)
 refine goo 4 rfl<|oIf 27 h rfl (fun Y h=> ?_) (fun Y h=> ?_)
 exact geo; exact geo; exact gec; refine gcc 5 rfl<|cIf h rfl (fun Z h=> ?_) (fun Z h=> ?_)
 refine gcc 7 rfl<|cIf h rfl (fun q8 h=> ?_) (fun q8 h=> ?_)
 refine gco 8 rfl<|xC0 h (oZ ·) rfl (fun c h=> ?_)
 refine wBd [.str v, .int .i64 c.1, .int .i64 c.2.1, .str c.2.2.1, .sl (c.2.2.2.map aD)] rfl rfl rfl rfl rfl rfl<|cS (L:=([aG.mk v c.1 c.2.1 c.2.2.1 c.2.2.2]:List aG)) (f:=aL) rfl rfl rfl rfl rfl rfl rfl<|wAp (f:=aL) h rfl rfl rfl rfl rfl rfl rfl rfl rfl (fun _=>rfl) rfl (fun T h=> ?_)
 exact geo; exact gec; refine gcc 5 rfl<|cIf h rfl (fun G h=> ?_) (fun G h=> ?_)
 refine cRs<|oJn h [(6,6),(53,72)] [(1000000,1000000)] (fun(s,j)=>(.n,[(6,Bo s)],[(1000000,[.sl (j.map aL)])])) (fun _ h=> ?_) (fun q h=> ?_)
 refine goo 4 rfl<|oIf 56 h rfl (fun H h=> ?_) (fun H h=> ?_)
 refine goo 2 rfl<|xLn rfl<|goo 2 rfl<|xLn rfl<|goo 3 rfl<|oIf 65 h rfl (fun I h=> ?_) (fun I h=> ?_)
 refine goo 5 rfl<|xC1 h (b ·) rfl (fun D h=> ?_)
 exact geo; exact geo; exact geo; obtain⟨s,j⟩:=q; exact gec; refine gcc 5 rfl<|cIf h rfl (fun J h=> ?_) (fun J h=> ?_)
 refine cRs<|oJn h [(6,6),(75,94)] [(1000000,1000000)] (fun(t,l)=>(.n,[(6,Bo t)],[(1000000,[.sl (l.map aL)])])) (fun _ h=> ?_) (fun q h=> ?_)
 refine goo 4 rfl<|oIf 78 h rfl (fun K h=> ?_) (fun K h=> ?_)
 refine goo 2 rfl<|xLn rfl<|goo 2 rfl<|xLn rfl<|goo 3 rfl<|oIf 87 h rfl (fun M h=> ?_) (fun M h=> ?_)
 refine goo 5 rfl<|xC1 h (b ·) rfl (fun E h=> ?_)
 exact geo; exact geo; exact geo; obtain⟨t,l⟩:=q; exact gec; refine gco 5 rfl<|xLn rfl<|goo 6 rfl<|oJn h [(99,119)] [(1000000,1000000)] (fun(p,m)=>(.n,[(119,Bo p)],[(1000000,[.sl (m.map aL)])])) (fun _ h=> ?_) (fun q h=> ?_)
 refine goo 4 rfl<|oIf 102 h rfl (fun N h=> ?_) (fun N h=> ?_)
 exact geo; refine goo 2 rfl<|xLn rfl<|goo 4 rfl<|oIf 109 h rfl (fun Q h=> ?_) (fun Q h=> ?_)
 exact geo; refine goo 3 rfl<|wSl (rf:=aF) h rfl rfl rfl rfl .no (.so rfl) (fun a=>by rw[aO]; rfl) rfl (fun C h=> ?_)
 refine goo 3 rfl<|xC1 h (b ·) rfl (fun z h=> ?_)
 exact geo; obtain⟨p,m⟩:=q; refine cIf h rfl (fun R h=> ?_) (fun R h=> ?_)
 exact gec; refine gco 6 rfl<|xIx h aO rfl (fun B h=> ?_)
 refine goo 4 rfl<|wSl (rf:=aD) h rfl rfl rfl rfl (.so rfl) .no (fun a=>by rw[aN]; rfl) rfl (fun u h=> ?_)
 refine wBd [.int .i64 5, .int .i64 0, .str [], .sl (u.map aD)] rfl rfl rfl rfl rfl rfl<|xMv rfl<|xC1 h (o ·) rfl (fun A h=> ?_)
 exact geo
def iJ:Nat→(eI)×(gT)
  | 0=>((fun _ _ _ _ _ _ _ _ _ _=>none),(fun _ _ _=>none))
  | n+1=>(jZ n ((iJ n).1) ((iJ n).2),lI n ((iJ n).1) ((iJ n).2))
def cY(n:Nat):eI:=(iJ n).1
def fR(n:Nat):gT:=(iJ n).2
theorem rF(n:Nat):kI (cY n)∧lW (fR n):=by
  induction n with
  | zero=>exact⟨(fun h=>nomatch h),(fun h=>nomatch h)⟩
  | succ n ih=>exact⟨zR (n:=n) (ih.1) (ih.2),Am (n:=n) (ih.1) (ih.2)⟩
theorem BE{n:Nat}:kI (cY n):=(rF n).1
theorem NO{n:Nat}:lW (fR n):=(rF n).2
theorem wF(n:Nat):cY (n+1)=jZ n (cY n) (fR n):=rfl
theorem yK(n:Nat):fR (n+1)=lI n (cY n) (fR n):=rfl
abbrev Hg(p:Int→Int→(List UInt8)→(List aA)→(List aC)→Int→Int→(List UInt8)→(List aB)→Option ((List aG)×Bool)):Prop:= ∀ {a b:Int} {d:List UInt8} {f:List aA} {g:List aC} {j l:Int} {m:List UInt8} {o:List aB} {r:(List aG)×Bool},p a b d f g j l m o=some r→Big Try.prog τ An (.fn 93 [.one (.ag [.int .i64 a, .int .i64 b, .str d, .sl (f.map aF), .sl (g.map aE)]), .one (.ag [.int .i64 j, .int .i64 l, .str m, .sl (o.map aD)])] [] (.tup [.c (.sl (r.1.map aL)), .c (.bool r.2)]) none [] none)
def lC(n:Nat)(b:Int)(c:Int)(d:List UInt8)(f:List aA)(g:List aC)(j:Int)(l:Int)(m:List UInt8)(o:List aB):Option ((List aG)×Bool):=
  ((iT n b c d f g).bind fun t=>bif !t then some (true,([]:List aG))else(gP n j l m o).bind fun p=>bif !p then some (true,([]:List aG))else(cY n b c d f g j l m o ([]:List aG)).bind fun a=>some ((!a.1),a.2)).bind fun(s,u)=>bif s then some (([]:List aG),false)else some (u,true)
theorem De{n:Nat}:Hg (lC n):=by
 intro o p s t u v w y z r h; unfold lC at h; refine bF Try.func93 rfl rfl<|gco 4 rfl<|wAe (Li aL []) rfl rfl rfl rfl<|goo 4 rfl<|cS (L:=([]:List aG)) (f:=aL) rfl rfl rfl rfl rfl rfl rfl<|xAz [.sl ([].map aL)] rfl<|goo 5 rfl<|oJn h [(8,21)] [(6,6)] (fun(a,b)=>(.n,[(21,Bo a)],[(6,[.sl (b.map aL)])])) (fun _ h=> ?_) (fun q h=> ?_)
 refine xLd rfl<|xC0 h (vK ·) rfl (fun g h=> ?_)
 refine goo 2 rfl<|oIf 11 h rfl (fun j h=> ?_) (fun j h=> ?_)
 exact geo; refine xLd rfl<|xC0 h (tQ ·) rfl (fun c h=> ?_)
 refine goo 3 rfl<|oIf 16 h rfl (fun l h=> ?_) (fun l h=> ?_)
 exact geo; refine goo 2 rfl<|xC1 h (BE ·) rfl (fun d h=> ?_)
 exact geo; obtain⟨a,b⟩:=q; refine cIf h rfl (fun m h=> ?_) (fun m h=> ?_)
 exact cRs<|cS (L:=([]:List aG)) (f:=aL) rfl rfl rfl rfl rfl rfl rfl<|geo
 exact gec
abbrev Ct(p:(List Int)→Option (Int×Int×(List UInt8)×(List aA)×(List aC)×(List aG))):Prop:= ∀ {a:List Int} {r:Int×Int×(List UInt8)×(List aA)×(List aC)×(List aG)},p a=some r→Big Try.prog τ An (.fn 25 [.one (.c (.sl (a.map rI_u8)))] [] (.tup [.ag [.int .i64 r.1, .int .i64 r.2.1, .str r.2.2.1, .sl (r.2.2.2.1.map aF), .sl (r.2.2.2.2.1.map aE)], .c (.sl (r.2.2.2.2.2.map aL))]) none [] none)
def jE(n:Nat)(m:List Int):Option (Int×Int×(List UInt8)×(List aA)×(List aC)×(List aG)):=
  (lB n m).bind fun j=>(iH n m).bind fun a=>(lC n a.1 a.2.1 a.2.2.1 a.2.2.2.1 a.2.2.2.2.1 a.2.2.2.2.2.1 a.2.2.2.2.2.2.1 a.2.2.2.2.2.2.2.1 a.2.2.2.2.2.2.2.2).bind fun g=>(cN n (3:Int) j.1 j.2.1 j.2.2).bind fun b=>bif b.1 then(lA n b.2.1 b.2.2.1 b.2.2.2).bind fun c=>(fE 72 g.1 ([aG.mk ([95]:List UInt8) c.1 c.2.1 c.2.2.1 c.2.2.2.1]:List aG)).bind fun l=>(bif decide ((0:Int)<(l.length:Int))then(cN n (4:Int) c.2.2.2.2.1 c.2.2.2.2.2.1 c.2.2.2.2.2.2).bind fun d=>some (d.1,d.2.1,d.2.2.1,d.2.2.2)else some (false,c.2.2.2.2.1,c.2.2.2.2.2.1,c.2.2.2.2.2.2)).bind fun(t,A,u,v)=>bif t then(sub l (some (1:Int)) none).bind fun p=>some (a.1,a.2.1,a.2.2.1,a.2.2.2.1,a.2.2.2.2.1,p)else some (a.1,a.2.1,a.2.2.1,a.2.2.2.1,a.2.2.2.2.1,l)else(bif decide ((0:Int)<(g.1.length:Int))then(cN n (4:Int) b.2.1 b.2.2.1 b.2.2.2).bind fun f=>some (f.1,f.2.1,f.2.2.1,f.2.2.2)else some (false,b.2.1,b.2.2.1,b.2.2.2)).bind fun(o,w,y,z)=>bif o then(sub g.1 (some (1:Int)) none).bind fun s=>some (a.1,a.2.1,a.2.2.1,a.2.2.2.1,a.2.2.2.2.1,s)else some (a.1,a.2.1,a.2.2.1,a.2.2.2.1,a.2.2.2.2.1,g.1)
theorem zY{n:Nat}:Ct (jE n):=by
 intro H r h; unfold jE at h; refine bF Try.func25 rfl rfl<|cRs<|xAz [.int .i64 0, .int .i64 0, .str [], .sl ([].map aF), .sl ([].map aE)] rfl<|wAe (Li aL []) rfl rfl rfl rfl<|goo 4 rfl<|wCn h (fun _=>(vJ ·)) rfl rfl rfl rfl rfl rfl rfl (fun _=>rfl) (fun A h=> ?_)
 refine goo 5 rfl<|xC0 h (yS ·) rfl (fun B h=> ?_)
 refine goo 3 rfl<|xAz [.int .i64 0, .int .i64 0, .str [], .sl ([].map aF), .sl ([].map aE)] rfl<|xAz [.int .i64 0, .int .i64 0, .str [], .sl ([].map aD)] rfl<|goo 7 rfl<|xC0 h (De ·) rfl (fun C h=> ?_)
 refine goo 10 rfl<|xC1 h (eQ ·) rfl (fun D h=> ?_)
 refine oNl<|cIf h rfl (fun G h=> ?_) (fun G h=> ?_)
 refine gco 3 rfl<|xC1 h (vH ·) rfl (fun a h=> ?_)
 refine wBd [.str [95], .int .i64 a.1, .int .i64 a.2.1, .str a.2.2.1, .sl (a.2.2.2.1.map aD)] rfl rfl rfl rfl rfl rfl<|cS (L:=([aG.mk ([95]:List UInt8) a.1 a.2.1 a.2.2.1 a.2.2.2.1]:List aG)) (f:=aL) rfl rfl rfl rfl rfl rfl rfl<|wAp (f:=aL) h rfl rfl rfl rfl rfl rfl rfl rfl rfl (fun _=>rfl) rfl (fun E h=> ?_)
 refine goo 5 rfl<|oJn h [(30,36)] [(10,10)] (fun(m,o,c,d)=>(.n,[(36,Bo m)],[(10,[.sl (o.map rI_u8), .int .i64 c, .int .i64 d])])) (fun _ h=> ?_) (fun q h=> ?_)
 refine xMv rfl<|xLn rfl<|goo 2 rfl<|oIf 33 h rfl (fun t h=> ?_) (fun t h=> ?_)
 refine xMv rfl<|xC1 h (eQ ·) rfl (fun p h=> ?_)
 exact geo; exact geo; obtain⟨m,o,c,d⟩:=q; refine cIf h rfl (fun u h=> ?_) (fun u h=> ?_)
 refine gco 2 rfl<|wSl (rf:=aL) h rfl rfl rfl rfl (.so rfl) .no (fun _=>rfl) rfl (fun y h=> ?_)
 exact geo; exact gec; refine gco 4 rfl<|oJn h [(30,36)] [(10,10)] (fun(b,g,j,l)=>(.n,[(36,Bo b)],[(10,[.sl (g.map rI_u8), .int .i64 j, .int .i64 l])])) (fun _ h=> ?_) (fun q h=> ?_)
 refine xMv rfl<|xLn rfl<|goo 2 rfl<|oIf 33 h rfl (fun v h=> ?_) (fun v h=> ?_)
 refine xMv rfl<|xC1 h (eQ ·) rfl (fun s h=> ?_)
 exact geo; exact geo; obtain⟨b,g,j,l⟩:=q; refine cIf h rfl (fun w h=> ?_) (fun w h=> ?_)
 refine gco 2 rfl<|wSl (rf:=aL) h rfl rfl rfl rfl (.so rfl) .no (fun _=>rfl) rfl (fun z h=> ?_)
 exact geo; exact gec
abbrev JB(p:Int→Int→(List UInt8)→(List aB)→Option (Bool)):Prop:= ∀ {a b:Int} {d:List UInt8} {f:List aB} {r:Bool},p a b d f=some r→Big Try.prog τ An (.fn 26 [.one (.ag [.int .i64 a, .int .i64 b, .str d, .sl (f.map aD)])] [] (.one (.c (.bool r))) none [] none)
def rP(n:Nat)(a:Int)(b:Int)(c:List UInt8)(d:List aB):Option (Bool):=
  (bif decide (a=(0:Int))then bif decide (b=(0:Int))then bif decide (c=([]:List UInt8))then some (decide ((d.length:Int)=(0:Int)))else some false else some false else some false).bind fun f=>some f
theorem Fi{n:Nat}:JB (rP n):=by
 intro f g j l r h; unfold rP at h; refine bF Try.func26 rfl rfl<|gco 7 rfl<|oJn h [(2,21)] [] (fun a=>(.n,[(2,Bo a)],[])) (fun _ h=> ?_) (fun a h=> ?_)
 refine goo 4 rfl<|oIf 6 h rfl (fun b h=> ?_) (fun b h=> ?_)
 refine goo 5 rfl<|oIf 11 h rfl (fun c h=> ?_) (fun c h=> ?_)
 refine goo 5 rfl<|oIf 16 h rfl (fun d h=> ?_) (fun d h=> ?_)
 exact goo 2 rfl<|xLn rfl<|geo
 exact geo; exact geo; exact geo; exact gec
abbrev eS:Type:=(List aA)→(List aB)→(List aG)→Option ((List aG)×Bool)
abbrev jF(p:eS):Prop:= ∀ {a:List aA} {b:List aB} {d:List aG} {r:(List aG)×Bool},p a b d=some r→Big Try.prog τ An (.fn 188 [.one (.c (.sl (a.map aF))), .one (.c (.sl (b.map aD))), .one (.c (.sl (d.map aL)))] [] (.tup [.c (.sl (r.1.map aL)), .c (.bool r.2)]) none [] none)
abbrev gJ:Type:=Int→Int→(List UInt8)→(List aA)→(List aC)→Int→Int→(List UInt8)→(List aB)→(List aG)→Option ((List aG)×Bool)
abbrev nH(p:gJ):Prop:= ∀ {a b:Int} {d:List UInt8} {f:List aA} {g:List aC} {j l:Int} {m:List UInt8} {o:List aB} {s:List aG} {r:(List aG)×Bool},p a b d f g j l m o s=some r→Big Try.prog τ An (.fn 96 [.one (.ag [.int .i64 a, .int .i64 b, .str d, .sl (f.map aF), .sl (g.map aE)]), .one (.ag [.int .i64 j, .int .i64 l, .str m, .sl (o.map aD)]), .one (.c (.sl (s.map aL)))] [] (.tup [.c (.sl (r.1.map aL)), .c (.bool r.2)]) none [] none)
def dU(n:Nat)(f:gJ)(g:List aA)(l:List aB):((List aG)×Int)→Option (((List aG)×Int)⊕(((List aG)×Bool)⊕((List aG)×Int×Bool)))
  | (j,c)=>bif decide (c<(g.length:Int))then(ix g c).bind fun a=>(ix l c).bind fun b=>(f a.f0 a.f1 a.f2 a.f3 a.f4 b.f0 b.f1 b.f2 b.f3 j).bind fun d=>bif !d.2 then some (.inr (.inl (d.1,false)))else some (.inl (d.1,(IntKind.wrap .i64 (c+(1:Int)))))else some (.inr (.inr (j,c,false)))
def iX(n:Nat)(a:gJ)(b:eS)(c:List aA)(d:List aB)(f:List aG):Option ((List aG)×Bool):=
  (loopN (dU n a c d) n (f,(0:Int))).bind fun q=>(match q with | .inl (j,l)=>some (j,l) | .inr (g,m,o)=>some (g,true))
theorem yG{n:Nat}{b:gJ}(c:nH b){a:eS}(d:jF a):jF (iX n b a):=by
 intro y z A r h; unfold iX at h; refine bF Try.func188 rfl rfl<|cRs<|wAe (Li aL []) rfl rfl rfl rfl<|goo 10 rfl<|xLn rfl<|goc 2 rfl<|cLp h [(2,2),(6,10),(13,31)] [(10,10)] (fun(l,f)=>([(2,Li aL l),(13,I64 f)],[])) (fun q=>match q with | .inl (o,p)=>(.r,[(6,Li aL o),(7,Bo p)],[]) | .inr (m,g,j)=>(.e 0,[(2,Li aL m),(13,I64 g),(14,Bo j)],[])) rfl (fun st _ h=> ?_) (fun q h=> ?_)
 obtain⟨l,f⟩:=st; unfold dU at h; refine gcc 5 rfl<|cIf h rfl (fun w h=> ?_) (fun w h=> ?_)
 refine gco 6 rfl<|xIx h aO rfl (fun v h=> ?_)
 refine xLd rfl<|xAz [.int .i64 0, .int .i64 0, .str [], .sl ([].map aF), .sl ([].map aE)] rfl<|goo 8 rfl<|xIx h aN rfl (fun t h=> ?_)
 refine goo 2 rfl<|xC0 h (c ·) rfl (fun s h=> ?_)
 refine goc 11 rfl<|cIf h rfl (fun u h=> ?_) (fun u h=> ?_)
 exact gec; exact gec; exact gec; rcases q with⟨o,p⟩ | ⟨m,g,j⟩; exact en; exact gec
def nC(n:Nat)(m:gJ)(a:eS)(o:Int)(G:Int)(u:List UInt8)(b:List aA)(J:List aC)(j:Int)(A:Int)(B:List UInt8)(f:List aB)(c:List aG):Option ((List aG)×Bool):=
  bif decide (o=(1:Int))then(bif decide (j=(1:Int))then some (decide (A=G))else some false).bind fun H=>some (c,H)else bif decide (o=(2:Int))then(bif decide (j=(2:Int))then some (decide (B=u))else some false).bind fun I=>some (c,I)else bif decide (o=(3:Int))then bif !decide (u=([95]:List UInt8))then(bZ n j A B f).bind fun l=>(fE 72 c ([aG.mk u l.1 l.2.1 l.2.2.1 l.2.2.2]:List aG)).bind fun C=>some (C,true)else some (c,true)else bif decide (o=(4:Int))then(bif !decide (j=(4:Int))then some true else some (!decide ((f.length:Int)=(b.length:Int)))).bind fun D=>bif D then some (c,false)else(a b f c).bind fun s=>some (s.1,s.2)else bif decide (o=(5:Int))then(bif !decide (j=(5:Int))then some true else some (!decide ((f.length:Int)=(b.length:Int)))).bind fun E=>bif E then some (c,false)else(a b f c).bind fun t=>some (t.1,t.2)else(bif !decide (j=(5:Int))then some true else some (decide ((f.length:Int)<(IntKind.wrap .i64 ((b.length:Int) - (1:Int)))))).bind fun v=>bif v then some (c,false)else(sub b none (some (IntKind.wrap .i64 ((b.length:Int) - (1:Int))))).bind fun w=>(sub f none (some (IntKind.wrap .i64 ((b.length:Int) - (1:Int))))).bind fun y=>(a w y c).bind fun g=>bif !g.2 then some (g.1,false)else(ix b (IntKind.wrap .i64 ((b.length:Int) - (1:Int)))).bind fun d=>(sub f (some (IntKind.wrap .i64 ((b.length:Int) - (1:Int)))) none).bind fun z=>(m d.f0 d.f1 d.f2 d.f3 d.f4 (5:Int) (0:Int) ([]:List UInt8) z g.1).bind fun p=>some (p.1,p.2)
theorem Cc{n:Nat}{g:gJ}(j:nH g){d:eS}(b:jF d):nH (nC n g d):=by
 intro Z a0 s a1 a2 a3 a4 a5 a6 t r h; unfold nC at h; refine bF Try.func96 rfl rfl<|gco 4 rfl<|wAe (Li aL []) rfl rfl rfl rfl<|goc 14 rfl<|cIf h rfl (fun T h=> ?_) (fun T h=> ?_)
 refine cRs<|oJn h [(6,7),(14,24)] [] (fun u=>(.n,[(6,Li aL t),(7,Bo u)],[])) (fun _ h=> ?_) (fun u h=> ?_)
 refine goo 5 rfl<|oIf 18 h rfl (fun U h=> ?_) (fun U h=> ?_)
 exact geo; exact geo; exact gec; refine gcc 5 rfl<|cIf h rfl (fun V h=> ?_) (fun V h=> ?_)
 refine cRs<|oJn h [(6,7),(27,37)] [] (fun v=>(.n,[(6,Li aL t),(7,Bo v)],[])) (fun _ h=> ?_) (fun v h=> ?_)
 refine goo 5 rfl<|oIf 31 h rfl (fun W h=> ?_) (fun W h=> ?_)
 exact geo; exact geo; exact gec; refine gcc 5 rfl<|cIf h rfl (fun X h=> ?_) (fun X h=> ?_)
 refine gcc 7 rfl<|cIf h rfl (fun Y h=> ?_) (fun Y h=> ?_)
 refine gco 5 rfl<|xC0 h (rH ·) rfl (fun c h=> ?_)
 refine wBd [.str s, .int .i64 c.1, .int .i64 c.2.1, .str c.2.2.1, .sl (c.2.2.2.map aD)] rfl rfl rfl rfl rfl rfl<|cS (L:=([aG.mk s c.1 c.2.1 c.2.2.1 c.2.2.2]:List aG)) (f:=aL) rfl rfl rfl rfl rfl rfl rfl<|wAp (f:=aL) h rfl rfl rfl rfl rfl rfl rfl rfl rfl (fun _=>rfl) rfl (fun R h=> ?_)
 exact geo; exact gec; refine gcc 5 rfl<|cIf h rfl (fun E h=> ?_) (fun E h=> ?_)
 refine gco 3 rfl<|oJn h [(54,65)] [] (fun m=>(.n,[(65,Bo m)],[])) (fun _ h=> ?_) (fun m h=> ?_)
 refine goo 4 rfl<|oIf 57 h rfl (fun G h=> ?_) (fun G h=> ?_)
 exact geo; exact goo 2 rfl<|xLn rfl<|goo 2 rfl<|xLn rfl<|geo
 refine cIf h rfl (fun H h=> ?_) (fun H h=> ?_)
 exact gec; refine gco 8 rfl<|xC0 h (b ·) rfl (fun C h=> ?_)
 exact geo; refine gcc 5 rfl<|cIf h rfl (fun I h=> ?_) (fun I h=> ?_)
 refine gco 3 rfl<|oJn h [(77,88)] [] (fun o=>(.n,[(88,Bo o)],[])) (fun _ h=> ?_) (fun o h=> ?_)
 refine goo 4 rfl<|oIf 80 h rfl (fun J h=> ?_) (fun J h=> ?_)
 exact geo; exact goo 2 rfl<|xLn rfl<|goo 2 rfl<|xLn rfl<|geo
 refine cIf h rfl (fun K h=> ?_) (fun K h=> ?_)
 exact gec; refine gco 8 rfl<|xC0 h (b ·) rfl (fun D h=> ?_)
 exact geo; refine gco 5 rfl<|xLn rfl<|goo 6 rfl<|oJn h [(102,111)] [] (fun l=>(.n,[(111,Bo l)],[])) (fun _ h=> ?_) (fun l h=> ?_)
 refine goo 4 rfl<|oIf 105 h rfl (fun M h=> ?_) (fun M h=> ?_)
 exact geo; exact goo 2 rfl<|xLn rfl<|geo
 refine cIf h rfl (fun N h=> ?_) (fun N h=> ?_)
 exact gec; refine gco 6 rfl<|wSl (rf:=aF) h rfl rfl rfl rfl .no (.so rfl) (fun a=>by rw[aO]; rfl) rfl (fun A h=> ?_)
 refine goo 3 rfl<|wSl (rf:=aD) h rfl rfl rfl rfl .no (.so rfl) (fun a=>by rw[aN]; rfl) rfl (fun B h=> ?_)
 refine xMv rfl<|xC0 h (b ·) rfl (fun w h=> ?_)
 refine goc 12 rfl<|cIf h rfl (fun Q h=> ?_) (fun Q h=> ?_)
 exact gec; refine gco 6 rfl<|xIx h aO rfl (fun z h=> ?_)
 refine goo 4 rfl<|wSl (rf:=aD) h rfl rfl rfl rfl (.so rfl) .no (fun a=>by rw[aN]; rfl) rfl (fun p h=> ?_)
 refine wBd [.int .i64 5, .int .i64 0, .str [], .sl (p.map aD)] rfl rfl rfl rfl rfl rfl<|xMv rfl<|xC0 h (j ·) rfl (fun y h=> ?_)
 exact geo
def kZ:Nat→(gJ)×(eS)
  | 0=>((fun _ _ _ _ _ _ _ _ _ _=>none),(fun _ _ _=>none))
  | n+1=>(nC n ((kZ n).1) ((kZ n).2),iX n ((kZ n).1) ((kZ n).2))
def eG(n:Nat):gJ:=(kZ n).1
def dM(n:Nat):eS:=(kZ n).2
theorem tJ(n:Nat):nH (eG n)∧jF (dM n):=by
  induction n with
  | zero=>exact⟨(fun h=>nomatch h),(fun h=>nomatch h)⟩
  | succ n ih=>exact⟨Cc (n:=n) (ih.1) (ih.2),yG (n:=n) (ih.1) (ih.2)⟩
theorem Dg{n:Nat}:nH (eG n):=(tJ n).1
theorem Kk{n:Nat}:jF (dM n):=(tJ n).2
theorem zV(n:Nat):eG (n+1)=nC n (eG n) (dM n):=rfl
theorem uV(n:Nat):dM (n+1)=iX n (eG n) (dM n):=rfl
abbrev Hj(p:Int→Int→(List UInt8)→(List aA)→(List aC)→Int→Int→(List UInt8)→(List aB)→Option ((List aG)×Bool)):Prop:= ∀ {a b:Int} {d:List UInt8} {f:List aA} {g:List aC} {j l:Int} {m:List UInt8} {o:List aB} {r:(List aG)×Bool},p a b d f g j l m o=some r→Big Try.prog τ An (.fn 27 [.one (.ag [.int .i64 a, .int .i64 b, .str d, .sl (f.map aF), .sl (g.map aE)]), .one (.ag [.int .i64 j, .int .i64 l, .str m, .sl (o.map aD)])] [] (.tup [.c (.sl (r.1.map aL)), .c (.bool r.2)]) none [] none)
def lD(n:Nat)(b:Int)(c:Int)(d:List UInt8)(f:List aA)(g:List aC)(j:Int)(l:Int)(m:List UInt8)(o:List aB):Option ((List aG)×Bool):=
  ((iU n b c d f g).bind fun t=>bif !t then some true else(fT n j l m o).bind fun p=>some (!p)).bind fun s=>bif s then some (([]:List aG),false)else(eG n b c d f g j l m o ([]:List aG)).bind fun a=>bif !a.2 then some (([]:List aG),false)else some (a.1,true)
theorem Dh{n:Nat}:Hj (lD n):=by
 intro l m o p s t u v w r h; unfold lD at h; refine bF Try.func27 rfl rfl<|gco 4 rfl<|wAe (Li aL []) rfl rfl rfl rfl<|goo 5 rfl<|oJn h [(8,15)] [] (fun a=>(.n,[(15,Bo a)],[])) (fun _ h=> ?_) (fun a h=> ?_)
 refine xLd rfl<|xC0 h (vL ·) rfl (fun d h=> ?_)
 refine goo 2 rfl<|oIf 11 h rfl (fun f h=> ?_) (fun f h=> ?_)
 exact geo; refine xLd rfl<|xC0 h (pA ·) rfl (fun b h=> ?_)
 exact geo; refine cIf h rfl (fun g h=> ?_) (fun g h=> ?_)
 exact cRs<|wAe (Li aL []) rfl rfl rfl rfl<|geo
 refine gco 5 rfl<|xC0 h (Dg ·) rfl (fun c h=> ?_)
 refine goc 12 rfl<|cIf h rfl (fun j h=> ?_) (fun j h=> ?_)
 exact cRs<|wAe (Li aL []) rfl rfl rfl rfl<|geo
 exact gec
abbrev bS:Type:=(List aB)→(List aB)→Option (Bool)
abbrev dE(p:bS):Prop:= ∀ {a b:List aB} {r:Bool},p a b=some r→Big Try.prog τ An (.fn 99 [.one (.c (.sl (a.map aD))), .one (.c (.sl (b.map aD))), .one (.fn 30 [])] [] (.one (.c (.bool r))) none [] none)
abbrev dP:Type:=Int→Int→(List UInt8)→(List aB)→Int→Int→(List UInt8)→(List aB)→Option (Bool)
abbrev jH(p:dP):Prop:= ∀ {a b:Int} {d:List UInt8} {f:List aB} {g j:Int} {l:List UInt8} {m:List aB} {r:Bool},p a b d f g j l m=some r→Big Try.prog τ An (.fn 30 [.one (.ag [.int .i64 a, .int .i64 b, .str d, .sl (f.map aD)]), .one (.ag [.int .i64 g, .int .i64 j, .str l, .sl (m.map aD)])] [] (.one (.c (.bool r))) none [] none)
def dG(n:Nat)(a:dP)(f:List aB)(j:List aB):(Int)→Option ((Int)⊕((Bool)⊕(Int×Bool)))
  | b=>bif decide (b<(f.length:Int))then(ix f b).bind fun c=>(ix j b).bind fun d=>(a c.f0 c.f1 c.f2 c.f3 d.f0 d.f1 d.f2 d.f3).bind fun g=>bif !g then some (.inr (.inl false))else some (.inl (IntKind.wrap .i64 (b+(1:Int))))else some (.inr (.inr (b,false)))
def dC(n:Nat)(a:dP)(b:bS)(c:List aB)(d:List aB):Option (Bool):=
  bif !decide ((c.length:Int)=(d.length:Int))then some false else(loopN (dG n a c d) n (0:Int)).bind fun q=>(match q with | .inl f=>some f | .inr (g,j)=>some true)
theorem qD{n:Nat}{b:dP}(c:jH b){a:bS}(d:dE a):dE (dC n b a):=by
 intro v w r h; unfold dC at h; refine bF Try.func99 rfl rfl<|gco 8 rfl<|xLn rfl<|xMv rfl<|xLn rfl<|goc 2 rfl<|cIf h rfl (fun t h=> ?_) (fun t h=> ?_)
 exact gec; refine gco 5 rfl<|xLn rfl<|goc 2 rfl<|cLp h [(6,9),(17,31)] [(8,9)] (fun f=>([(17,I64 f)],[])) (fun q=>match q with | .inl l=>(.r,[(6,Bo l)],[]) | .inr (g,j)=>(.e 0,[(17,I64 g),(18,Bo j)],[])) rfl (fun f _ h=> ?_) (fun q h=> ?_)
 unfold dG at h; refine gcc 5 rfl<|cIf h rfl (fun u h=> ?_) (fun u h=> ?_)
 refine gco 6 rfl<|xIx h aN rfl (fun p h=> ?_)
 refine xLd rfl<|xAz [.int .i64 0, .int .i64 0, .str [], .sl ([].map aD)] rfl<|goo 7 rfl<|xIx h aN rfl (fun s h=> ?_)
 refine xLd rfl<|xAz [.int .i64 0, .int .i64 0, .str [], .sl ([].map aD)] rfl<|goo 7 rfl<|xC0 h (c ·) rfl (fun o h=> ?_)
 refine goc 2 rfl<|cIf h rfl (fun m h=> ?_) (fun m h=> ?_)
 exact gec; exact gec; exact gec; rcases q with l | ⟨g,j⟩; exact en; exact gec
def iZ(n:Nat)(b:dP)(a:bS)(d:Int)(f:Int)(g:List UInt8)(j:List aB)(l:Int)(m:Int)(o:List UInt8)(p:List aB):Option (Bool):=
  (bif decide (d=l)then bif decide (f=m)then bif decide (g=o)then(a j p).bind fun c=>some c else some false else some false else some false).bind fun s=>some s
theorem yI{n:Nat}{c:dP}(d:jH c){a:bS}(b:dE a):jH (iZ n c a):=by
 intro o p s t u v w y r h; unfold iZ at h; refine bF Try.func30 rfl rfl<|gco 8 rfl<|oJn h [(4,30)] [] (fun f=>(.n,[(4,Bo f)],[])) (fun _ h=> ?_) (fun f h=> ?_)
 refine goo 6 rfl<|oIf 10 h rfl (fun j h=> ?_) (fun j h=> ?_)
 refine goo 7 rfl<|oIf 17 h rfl (fun l h=> ?_) (fun l h=> ?_)
 refine goo 7 rfl<|oIf 24 h rfl (fun m h=> ?_) (fun m h=> ?_)
 refine goo 4 rfl<|xC0 h (b ·) rfl (fun g h=> ?_)
 exact geo; exact geo; exact geo; exact geo; exact gec
def gE:Nat→(dP)×(bS)
  | 0=>((fun _ _ _ _ _ _ _ _=>none),(fun _ _=>none))
  | n+1=>(iZ n ((gE n).1) ((gE n).2),dC n ((gE n).1) ((gE n).2))
def dN(n:Nat):dP:=(gE n).1
def cI(n:Nat):bS:=(gE n).2
theorem qF(n:Nat):jH (dN n)∧dE (cI n):=by
  induction n with
  | zero=>exact⟨(fun h=>nomatch h),(fun h=>nomatch h)⟩
  | succ n ih=>exact⟨yI (n:=n) (ih.1) (ih.2),qD (n:=n) (ih.1) (ih.2)⟩
theorem AA{n:Nat}:jH (dN n):=(qF n).1
theorem Dx{n:Nat}:dE (cI n):=(qF n).2
theorem uX(n:Nat):dN (n+1)=iZ n (dN n) (cI n):=rfl
theorem oP(n:Nat):cI (n+1)=dC n (dN n) (cI n):=rfl
abbrev Cu(p:(List Int)→Option (Bool)):Prop:= ∀ {a:List Int} {r:Bool},p a=some r→Big Try.prog τ An (.fn 4 [.one (.c (.sl (a.map rI_u8)))] [] (.one (.c (.bool r))) none [] none)
def iP(n:Nat)(l:Int×Int×(List UInt8)×(List aA)×(List aC)×(List aG))(d:(List aG)×Bool):(Int)→Option ((Int)⊕((Bool)⊕(Int×Bool)))
  | b=>bif decide (b<(d.1.length:Int))then(ix d.1 b).bind fun g=>(gQ n l.2.2.2.2.2 g.f0).bind fun a=>(bif !a.2.2.2.2 then some true else(ix d.1 b).bind fun c=>(dN n a.1 a.2.1 a.2.2.1 a.2.2.2.1 c.f1 c.f2 c.f3 c.f4).bind fun f=>some (!f)).bind fun j=>bif j then some (.inr (.inl false))else some (.inl (IntKind.wrap .i64 (b+(1:Int))))else some (.inr (.inr (b,false)))
def mC(n:Nat)(j:List Int):Option (Bool):=
  (tW n j).bind fun m=>bif m then some true else(jE n j).bind fun a=>(rQ n a.1 a.2.1 a.2.2.1 a.2.2.2.1 a.2.2.2.2.1 a.2.2.2.2.2).bind fun b=>(rN n a.1 a.2.1 a.2.2.1 a.2.2.2.1 a.2.2.2.2.1 a.2.2.2.2.2).bind fun d=>(bif !(b.2.2.2.2 == d.2.2.2.2)then some true else some (!b.2.2.2.2)).bind fun p=>bif p then(bif (b.2.2.2.2 == d.2.2.2.2)then(rP n b.1 b.2.1 b.2.2.1 b.2.2.2.1).bind fun f=>some f else some false).bind fun s=>some s else(lD n a.1 a.2.1 a.2.2.1 a.2.2.2.1 a.2.2.2.2.1 b.1 b.2.1 b.2.2.1 b.2.2.2.1).bind fun c=>(bif !c.2 then some true else(fT n b.1 b.2.1 b.2.2.1 b.2.2.2.1).bind fun g=>some (!g)).bind fun l=>bif l then some false else(loopN (iP n a c) n (0:Int)).bind fun q=>(match q with | .inl o=>some o | .inr (t,u)=>some true)
theorem zZ{n:Nat}:Cu (mC n):=by
 intro L r h; unfold mC at h; refine bF Try.func4 rfl rfl<|gco 8 rfl<|xC0 h (HW ·) rfl (fun G h=> ?_)
 refine oNl<|cIf h rfl (fun I h=> ?_) (fun I h=> ?_)
 exact gec; refine gco 4 rfl<|xC0 h (zY ·) rfl (fun H h=> ?_)
 refine goo 3 rfl<|xAz [.int .i64 0, .int .i64 0, .str [], .sl ([].map aF), .sl ([].map aE)] rfl<|goo 7 rfl<|xC0 h (Fl ·) rfl (fun g h=> ?_)
 refine goo 3 rfl<|xAz [.int .i64 0, .int .i64 0, .str [], .sl ([].map aD)] rfl<|goo 7 rfl<|xC0 h (Fh ·) rfl (fun j h=> ?_)
 refine goo 3 rfl<|xAz [.int .i64 0, .int .i64 0, .str [], .sl ([].map aD)] rfl<|goo 6 rfl<|oJn h [(33,39)] [] (fun m=>(.n,[(39,Bo m)],[])) (fun _ h=> ?_) (fun m h=> ?_)
 refine goo 2 rfl<|wBi (.bool (!(g.2.2.2.2 == j.2.2.2.2))) rfl rfl rfl rfl rfl<|xMv rfl<|oIf 36 h rfl (fun J h=> ?_) (fun J h=> ?_)
 exact geo; exact geo; refine cIf h rfl (fun K h=> ?_) (fun K h=> ?_)
 refine cRs<|oJn h [(2,2),(40,46)] [] (fun o=>(.n,[(2,Bo o)],[])) (fun _ h=> ?_) (fun o h=> ?_)
 refine goo 2 rfl<|wBi (.bool ((g.2.2.2.2 == j.2.2.2.2))) rfl rfl rfl rfl rfl<|xMv rfl<|oIf 43 h rfl (fun z h=> ?_) (fun z h=> ?_)
 refine xLd rfl<|xC0 h (Fi ·) rfl (fun p h=> ?_)
 exact geo; exact geo; exact gec; refine gco 5 rfl<|xC0 h (Dh ·) rfl (fun s h=> ?_)
 refine goo 9 rfl<|oJn h [(53,59)] [] (fun c=>(.n,[(59,Bo c)],[])) (fun _ h=> ?_) (fun c h=> ?_)
 refine goo 3 rfl<|oIf 55 h rfl (fun A h=> ?_) (fun A h=> ?_)
 exact geo; refine xLd rfl<|xC0 h (pA ·) rfl (fun t h=> ?_)
 exact geo; refine cIf h rfl (fun B h=> ?_) (fun B h=> ?_)
 exact gec; refine gcc 6 rfl<|cLp h [(2,2),(11,13),(60,87)] [(12,12)] (fun a=>([(11,I64 a)],[])) (fun q=>match q with | .inl l=>(.r,[(2,Bo l)],[]) | .inr (b,d)=>(.e 0,[(11,I64 b),(63,Bo d)],[])) rfl (fun a _ h=> ?_) (fun q h=> ?_)
 unfold iP at h; refine gco 5 rfl<|xLn rfl<|goc 2 rfl<|cIf h rfl (fun C h=> ?_) (fun C h=> ?_)
 refine gco 8 rfl<|xIx h jB rfl (fun w h=> ?_)
 refine goo 2 rfl<|xC0 h (tS ·) rfl (fun u h=> ?_)
 refine goo 3 rfl<|xAz [.int .i64 0, .int .i64 0, .str [], .sl ([].map aD)] rfl<|goo 5 rfl<|oJn h [(76,87)] [] (fun f=>(.n,[(87,Bo f)],[])) (fun _ h=> ?_) (fun f h=> ?_)
 refine goo 3 rfl<|oIf 78 h rfl (fun D h=> ?_) (fun D h=> ?_)
 exact geo; refine goo 3 rfl<|xIx h jB rfl (fun y h=> ?_)
 refine goo 2 rfl<|xC0 h (AA ·) rfl (fun v h=> ?_)
 exact geo; refine cIf h rfl (fun E h=> ?_) (fun E h=> ?_)
 exact gec; exact gec; exact gec; rcases q with l | ⟨b,d⟩; exact en; exact gec
end Go.Own
