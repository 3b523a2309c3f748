import Derived.KernelRfl
import Derived.Test.YtdddliieplcejaaGreatD4
set_option linter.all false
set_option maxRecDepth 100000
set_option maxHeartbeats 0
noncomputable section
section
namespace Mn
open Go TL
def RZ(b:Y2×Unit)(c:uk):Int:=
 aN b.1.2.2.2.2.2.1 (ah c.1) 0
def RY(b:Y2×Unit)(e:uk):Int:=
 aq (aN b.1.2.2.2.2.1 (ah (aN e.2.2.1.1 (ah 0) 0)) aR).3
def nP(b:Y2×Unit)(e:uk)(g:Int×Unit):ax:=
 aN (aN b.1.2.2.2.2.1 (ah (aN e.2.2.1.1 (ah 0) 0)) aR).4 (ah g.1) aX
def IY(n:Nat)(g:Int×Unit):Y41:=
 some (LO.next (D.add .i64 g.1 1,()))
def IX(b:Y2×Unit)(e:uk)(g:Int×Unit):List au:=
 eo (nP b e g).3 1 (aq (nP b e g).3)
def acu(n:Nat)(b:Y2×Unit)(e:uk)(g:Int×Unit):Y41:=
 aj (D.aO (aq (nP b e g).3) 0) (IY n g) (aB (av 0 (nP b e g).3) (aj (D.aM (D.aO (aN (nP b e g).3 (ah 0) az).1 5)) (aB
 (eW 1 (aq (nP b e g).3) (aq (nP b e g).3)) (aj (D.aO (aq (IX b e g)) 0) (IY n g) (aB (av 0 (IX b e g)) (aj (D.aM (D.aO
 (aN (IX b e g) (ah 0) az).1 5)) (aB (eW 1 (aq (IX b e g)) (aq (IX b e g))) none) (aB (av 0 (IX b e g)) none))))) (aB
 (av 0 (nP b e g).3) none)))
def IW(b:Y2×Unit)(e:uk)(g:Int×Unit):List au:=
 eo (nP b e g).2 1 (aq (nP b e g).2)
def RX(b:Y2×Unit)(e:uk):Int:=
 aq (aN b.1.2.2.2.2.1 (ah (aN e.2.2.1.1 (ah (D.add .i64 0 1)) 0)) aR).3
def nO(b:Y2×Unit)(e:uk)(j:Int×Unit):ax:=
 aN (aN b.1.2.2.2.2.1 (ah (aN e.2.2.1.1 (ah (D.add .i64 0 1)) 0)) aR).4 (ah j.1) aX
def BA(b:Y2×Unit)(e:uk)(j:Int×Unit):List au:=
 eo (nO b e j).3 1 (aq (nO b e j).3)
def Yj(n:Nat)(b:Y2×Unit)(e:uk)(j:Int×Unit):Y41:=
 aj (D.aO (aq (nO b e j).3) 0) (IY n j) (aB (av 0 (nO b e j).3) (aj (D.aM (D.aO (aN (nO b e j).3 (ah 0) az).1 5)) (aB
 (eW 1 (aq (nO b e j).3) (aq (nO b e j).3)) (aj (D.aO (aq (BA b e j)) 0) (IY n j) (aB (av 0 (BA b e j)) (aj (D.aM
 (D.aO (aN (BA b e j) (ah 0) az).1 5)) (aB (eW 1 (aq (BA b e j)) (aq (BA b e j))) none) (aB (av 0 (BA b e j))
 none))))) (aB (av 0 (nO b e j).3) none)))
def Bz(b:Y2×Unit)(e:uk)(j:Int×Unit):List au:=
 eo (nO b e j).2 1 (aq (nO b e j).2)
def Kw(b:Y2×Unit)(m:uk):Int:=
 aq (aN b.1.2.2.2.2.1 (ah (aN m.2.2.1.1 (ah m.1) 0)) aR).3
def j7(b:Y2×Unit)(m:uk)(o:Int×Unit):ax:=
 aN (aN b.1.2.2.2.2.1 (ah (aN m.2.2.1.1 (ah m.1) 0)) aR).4 (ah o.1) aX
def By(b:Y2×Unit)(m:uk)(o:Int×Unit):List au:=
 eo (j7 b m o).3 1 (aq (j7 b m o).3)
def Yi(n:Nat)(b:Y2×Unit)(m:uk)(o:Int×Unit):Y41:=
 aj (D.aO (aq (j7 b m o).3) 0) (IY n o) (aB (av 0 (j7 b m o).3) (aj (D.aM (D.aO (aN (j7 b m o).3 (ah 0) az).1 5))
 (aB (eW 1 (aq (j7 b m o).3) (aq (j7 b m o).3)) (aj (D.aO (aq (By b m o)) 0) (IY n o) (aB (av 0 (By b m o)) (aj
 (D.aM (D.aO (aN (By b m o) (ah 0) az).1 5)) (aB (eW 1 (aq (By b m o)) (aq (By b m o))) none) (aB (av 0 (By b m
 o)) none))))) (aB (av 0 (j7 b m o).3) none)))
def Bx(b:Y2×Unit)(m:uk)(o:Int×Unit):List au:=
 eo (j7 b m o).2 1 (aq (j7 b m o).2)
def Yh(n:Nat)(b:Y2×Unit)(m:uk):Option (LO uk Unit Y42 Any):=
 ak (@iter (Int×Unit) (Unit) (Unit) (Any) (λo=>aj (D.bN o.1 (aq (aN b.1.2.2.2.2.1 (ah (aN m.2.2.1.1 (ah m.1) 0)) aR).4)) (aB
 (av o.1 (aN b.1.2.2.2.2.1 (ah (aN m.2.2.1.1 (ah m.1) 0)) aR).4) (aj (D.aO (aq (j7 b m o).2) 0) (Yi n b m o) (aB (av 0
 (j7 b m o).2) (aj (D.aM (D.aO (aN (j7 b m o).2 (ah 0) az).1 5)) (aB (eW 1 (aq (j7 b m o).2) (aq (j7 b m o).2)) (aj
 (D.aO (aq (Bx b m o)) 0) (Yi n b m o) (aB (av 0 (Bx b m o)) (aj (D.aM (D.aO (aN (Bx b m o) (ah 0) az).1 5)) (aB
 (eW 1 (aq (Bx b m o)) (aq (Bx b m o))) none) (aB (av 0 (Bx b m o)) none))))) (aB (av 0 (j7 b m o).2) none))))) (some
 (LO.out 0 o))) n (0,())) λo=>LO.el o (λ_ _=>none) (λ_ _=>none) λ_ _=>none
def Yg(b:Y2×Unit)(m:uk):Bool:=
 av 0 (aN b.1.2.2.2.2.1 (ah (aN m.2.2.1.1 (ah m.1) 0)) aR).3
def Bw(b:Y2×Unit)(m:uk):List au:=
 eo (aN b.1.2.2.2.2.1 (ah (aN m.2.2.1.1 (ah m.1) 0)) aR).3 1 (Kw b m)
def yF(b:Y2×Unit)(p:uk)(s:Int×ua×Unit):aE:=
 aN b.1.2.2.2.2.1 (ah (aN p.2.2.1.1 (ah s.1) 0)) aR
def Gd(n:Nat)(p:uk)(t:Y44):Y46:=
 @iter (NF) (List au×Unit) (Unit) (Any) (λu=>aj (D.bN u.2.1 (aq t.1.1)) (aB (av u.2.1 u.1) (aB (cw (ah u.2.1) u.1) (aj (D.aO
 (aN u.1 (ah u.2.1) az).1 5) (aB (av u.2.1 u.1) (aB (cw (ah u.2.1) u.1) (some (LO.next (dQ u.1 (ah u.2.1) (au.mk (aN u.1
 (ah u.2.1) az).1 (KV (A:=sg.A) (Ty.int .i64) 0 (aN u.1 (ah u.2.1) az).2 p.2.1)),D.add .i64 u.2.1 1,()))))) (some (LO.next (u.1,
 D.add .i64 u.2.1 1,())))))) (some (LO.out 0 u))) n (t.1.1,0,())
def vG(y:Int×yU×Unit):ax:=
 aN y.2.1.2.2.2.1 (ah y.1) aX
def afC(n:Nat)(y:Int×yU×Unit)(c1:NF)(h1:NF):UL:=
 aB (av y.1 y.2.1.2.2.2.1) (aB (cw (ah y.1) y.2.1.2.2.2.1) (some (LO.next (D.add .i64 y.1 1,(y.2.1.1,y.2.1.2.1,y.2.1.2.2.1,dQ
 y.2.1.2.2.2.1 (ah y.1) (ax.mk (vG y).1 c1.1 h1.1),()),()))))
def afB(n:Nat)(y:Int×yU×Unit)(c1:NF)(h1:List au×Unit):UL:=
 aB (av y.1 y.2.1.2.2.2.1) (aB (cw (ah y.1) y.2.1.2.2.2.1) (some (LO.next (D.add .i64 y.1 1,(y.2.1.1,y.2.1.2.1,y.2.1.2.2.1,dQ
 y.2.1.2.2.2.1 (ah y.1) (ax.mk (vG y).1 c1.1 h1.1),()),()))))
def Yf(n:Nat)(p:uk)(y:Int×yU×Unit)(c1:NF):UL:=
 ak (F159 n ((vG y).3,())) λd1=>ak (Gd n p d1) λe1=>LO.el e1 (λ_ h1=>afC n y c1 h1) (λ_ h1=>afB n y c1 h1) λ_ _
 =>none
def afA(n:Nat)(y:Int×yU×Unit)(c1:List au×Unit)(h1:NF):UL:=
 aB (av y.1 y.2.1.2.2.2.1) (aB (cw (ah y.1) y.2.1.2.2.2.1) (some (LO.next (D.add .i64 y.1 1,(y.2.1.1,y.2.1.2.1,y.2.1.2.2.1,dQ
 y.2.1.2.2.2.1 (ah y.1) (ax.mk (vG y).1 c1.1 h1.1),()),()))))
def afz(n:Nat)(y:Int×yU×Unit)(c1:List au×Unit)(h1:List au×Unit):UL:=
 aB (av y.1 y.2.1.2.2.2.1) (aB (cw (ah y.1) y.2.1.2.2.2.1) (some (LO.next (D.add .i64 y.1 1,(y.2.1.1,y.2.1.2.1,y.2.1.2.2.1,dQ
 y.2.1.2.2.2.1 (ah y.1) (ax.mk (vG y).1 c1.1 h1.1),()),()))))
def Ye(n:Nat)(p:uk)(y:Int×yU×Unit)(c1:List au×Unit):UL:=
 ak (F159 n ((vG y).3,())) λd1=>ak (Gd n p d1) λe1=>LO.el e1 (λ_ h1=>afA n y c1 h1) (λ_ h1=>afz n y c1 h1) λ_ _
 =>none
def afy(n:Nat)(b:Y2×Unit)(p:uk)(s:Int×ua×Unit)(w:NF):Y49:=
 ak (F160 n ((yF b p s).4,())) λx=>ak (@iter (Int×yU×Unit) (Unit) (yU×Unit) (Any) (λy=>aj (D.bN y.1 (aq x.1.1)) (aB (av
 y.1 y.2.1.2.2.2.1) (aB (cw (ah y.1) y.2.1.2.2.2.1) (ak (F159 n ((vG y).2,())) λz=>ak (Gd n p z) λa1=>LO.el a1 (λ_ c1=>
 Yf n p y c1) (λ_ c1=>Ye n p y c1) λ_ _=>none))) (some (LO.out 0 y))) n (0,((yF b p s).1,(yF b p s).2,w.1,x.1),())) λy
 =>LO.el y (λ_ a1=>aB (cY s.2.1.1 [aE.mk a1.2.1.1 a1.2.1.2.1 a1.2.1.2.2.1 a1.2.1.2.2.2.1]) (some (LO.next (D.add .i64 s.1 1,(cM s.2.1.1
 [aE.mk a1.2.1.1 a1.2.1.2.1 a1.2.1.2.2.1 a1.2.1.2.2.2.1],s.2.1.2),())))) (λ_ _=>aB (cY s.2.1.1 [aR]) (some (LO.next (D.add .i64 s.1
 1,(cM s.2.1.1 [aR],s.2.1.2),())))) λ_ _=>none
def afx(n:Nat)(b:Y2×Unit)(p:uk)(s:Int×ua×Unit)(w:List au×Unit):Y49:=
 ak (F160 n ((yF b p s).4,())) λx=>ak (@iter (Int×yU×Unit) (Unit) (yU×Unit) (Any) (λy=>aj (D.bN y.1 (aq x.1.1)) (aB (av
 y.1 y.2.1.2.2.2.1) (aB (cw (ah y.1) y.2.1.2.2.2.1) (ak (F159 n ((vG y).2,())) λz=>ak (Gd n p z) λa1=>LO.el a1 (λ_ c1=>
 Yf n p y c1) (λ_ c1=>Ye n p y c1) λ_ _=>none))) (some (LO.out 0 y))) n (0,((yF b p s).1,(yF b p s).2,w.1,x.1),())) λy
 =>LO.el y (λ_ a1=>aB (cY s.2.1.1 [aE.mk a1.2.1.1 a1.2.1.2.1 a1.2.1.2.2.1 a1.2.1.2.2.2.1]) (some (LO.next (D.add .i64 s.1 1,(cM s.2.1.1
 [aE.mk a1.2.1.1 a1.2.1.2.1 a1.2.1.2.2.1 a1.2.1.2.2.2.1],s.2.1.2),())))) (λ_ _=>aB (cY s.2.1.1 [aR]) (some (LO.next (D.add .i64 s.1
 1,(cM s.2.1.1 [aR],s.2.1.2),())))) λ_ _=>none
def Yd(b:Y2×Unit)(v:Int×ua×Unit):Int:=
 aN b.1.2.2.2.2.2.1 (ah v.1) 0
def PY(n:Nat)(b:Y2×Unit)(p:uk):Option Y50:=
 ak (F90 n (b.1.2.2.2.2.2.2.1,())) λq=>ak (F49 n (b.1.2.2.2.2.2.2.2.1,())) λr=>ak (@iter (Int×ua×Unit) (Unit) (ua×Unit) (Any)
 (λs=>aj (D.bN s.1 (aq p.2.2.1.1)) (aB (av s.1 p.2.2.1.1) (aB (cw (ah s.1) p.2.2.1.1) (aB (av (aN p.2.2.1.1 (ah s.1) 0)
 b.1.2.2.2.2.1) (ak (F159 n ((yF b p s).3,())) λt=>ak (Gd n p t) λu=>LO.el u (λ_ w=>afy n b p s w) (λ_ w=>afx n b p
 s w) λ_ _=>none)))) (some (LO.out 0 s))) n (0,([],[],q.1.1,r.1.1,b.1.2.2.2.2.2.2.2.2),())) λs=>LO.el s (λ_ u=>ak (@iter (Int×
 ua×Unit) (Unit) (ua×Unit) (Any) (λv=>aj (D.bN v.1 (aq b.1.2.2.2.2.2.1)) (aB (av v.1 b.1.2.2.2.2.2.1) (aB (cY v.2.1.2.1 [KV (A:=
 sg.A) (Ty.int .i64) 0 (Yd b v) p.2.1]) (some (LO.next (D.add .i64 v.1 1,(v.2.1.1,cM v.2.1.2.1 [KV (A:=sg.A) (Ty.int .i64) 0 (Yd b v)
 p.2.1],v.2.1.2.2),()))))) (some (LO.out 0 v))) n (0,u.2)) λv=>LO.el v (λ_ x=>some ((ai.mk x.2.1.1 x.2.1.2.1 x.2.1.2.2.1
 x.2.1.2.2.2.1 x.2.1.2.2.2.2.1,()),b)) (λ_ _=>some ((bS,()),b)) λ_ _=>none) (λ_ _=>some ((bS,()),b)) λ_ _=>
 none
def Yc(n:Nat)(b:Y2×Unit)(e:uk):Option Y50:=
 ak (@iter (uk) (Unit) (Y42) (Any) (λm=>aj (D.bN m.1 (aq m.2.2.1.1)) (aB (av m.1 m.2.2.1.1) (aB (cw (ah m.1) m.2.2.1.1) (aB (av
 (aN m.2.2.1.1 (ah m.1) 0) b.1.2.2.2.2.1) (aj (D.aO (Kw b m) 0) (Yh n b m) (aB (Yg b m) (aj (D.aM (D.aO (aN (aN b.1.2.2.2.2.1
 (ah (aN m.2.2.1.1 (ah m.1) 0)) aR).3 (ah 0) az).1 5)) (aB (eW 1 (Kw b m) (Kw b m)) (aj (D.aO (aq (Bw b m)) 0)
 (Yh n b m) (aB (av 0 (Bw b m)) (aj (D.aM (D.aO (aN (Bw b m) (ah 0) az).1 5)) (aB (eW 1 (aq (Bw b m)) (aq (Bw
 b m))) none) (aB (av 0 (Bw b m)) none))))) (aB (Yg b m) none))))))) (some (LO.out 0 m))) n (D.add .i64 (D.add .i64 0 1) 1,e.2)) λm=>
 LO.el m (λ_ p=>PY n b p) (λ_ _=>some ((bS,()),b)) λ_ _=>none
def Yb(n:Nat)(b:Y2×Unit)(e:uk):Option Y50:=
 ak (@iter (Int×Unit) (Unit) (Unit) (Any) (λj=>aj (D.bN j.1 (aq (aN b.1.2.2.2.2.1 (ah (aN e.2.2.1.1 (ah (D.add .i64 0 1)) 0))
 aR).4)) (aB (av j.1 (aN b.1.2.2.2.2.1 (ah (aN e.2.2.1.1 (ah (D.add .i64 0 1)) 0)) aR).4) (aj (D.aO (aq (nO b e j).2) 0)
 (Yj n b e j) (aB (av 0 (nO b e j).2) (aj (D.aM (D.aO (aN (nO b e j).2 (ah 0) az).1 5)) (aB (eW 1 (aq (nO b e j).2)
 (aq (nO b e j).2)) (aj (D.aO (aq (Bz b e j)) 0) (Yj n b e j) (aB (av 0 (Bz b e j)) (aj (D.aM (D.aO (aN (Bz b e j)
 (ah 0) az).1 5)) (aB (eW 1 (aq (Bz b e j)) (aq (Bz b e j))) none) (aB (av 0 (Bz b e j)) none))))) (aB (av 0 (nO b e
 j).2) none))))) (some (LO.out 0 j))) n (0,())) λj=>LO.el j (λ_ _=>Yc n b e) (λ_ _=>Yc n b e) λ_ _=>none
def Ya(b:Y2×Unit)(e:uk):Bool:=
 av 0 (aN b.1.2.2.2.2.1 (ah (aN e.2.2.1.1 (ah (D.add .i64 0 1)) 0)) aR).3
def Bv(b:Y2×Unit)(e:uk):List au:=
 eo (aN b.1.2.2.2.2.1 (ah (aN e.2.2.1.1 (ah (D.add .i64 0 1)) 0)) aR).3 1 (RX b e)
def X9(n:Nat)(b:Y2×Unit)(e:uk):Option Y50:=
 aj (D.bN (D.add .i64 0 1) (aq e.2.2.1.1)) (aB (av (D.add .i64 0 1) e.2.2.1.1) (aB (cw (ah (D.add .i64 0 1)) e.2.2.1.1) (aB (av (aN
 e.2.2.1.1 (ah (D.add .i64 0 1)) 0) b.1.2.2.2.2.1) (aj (D.aO (RX b e) 0) (Yb n b e) (aB (Ya b e) (aj (D.aM (D.aO (aN (aN
 b.1.2.2.2.2.1 (ah (aN e.2.2.1.1 (ah (D.add .i64 0 1)) 0)) aR).3 (ah 0) az).1 5)) (aB (eW 1 (RX b e) (RX b e)) (aj (D.aO
 (aq (Bv b e)) 0) (Yb n b e) (aB (av 0 (Bv b e)) (aj (D.aM (D.aO (aN (Bv b e) (ah 0) az).1 5)) (aB (eW 1 (aq
 (Bv b e)) (aq (Bv b e))) none) (aB (av 0 (Bv b e)) none))))) (aB (Ya b e) none))))))) (PY n b e)
def X8(n:Nat)(b:Y2×Unit)(e:uk):Option Y50:=
 ak (@iter (Int×Unit) (Unit) (Unit) (Any) (λg=>aj (D.bN g.1 (aq (aN b.1.2.2.2.2.1 (ah (aN e.2.2.1.1 (ah 0) 0)) aR).4)) (aB
 (av g.1 (aN b.1.2.2.2.2.1 (ah (aN e.2.2.1.1 (ah 0) 0)) aR).4) (aj (D.aO (aq (nP b e g).2) 0) (acu n b e g) (aB (av 0 (nP b
 e g).2) (aj (D.aM (D.aO (aN (nP b e g).2 (ah 0) az).1 5)) (aB (eW 1 (aq (nP b e g).2) (aq (nP b e g).2)) (aj (D.aO (aq
 (IW b e g)) 0) (acu n b e g) (aB (av 0 (IW b e g)) (aj (D.aM (D.aO (aN (IW b e g) (ah 0) az).1 5)) (aB (eW 1 (aq (IW
 b e g)) (aq (IW b e g))) none) (aB (av 0 (IW b e g)) none))))) (aB (av 0 (nP b e g).2) none))))) (some (LO.out 0 g))) n (0,())) λg
 =>LO.el g (λ_ _=>X9 n b e) (λ_ _=>X9 n b e) λ_ _=>none
def Bu(b:Y2×Unit)(e:uk):List au:=
 eo (aN b.1.2.2.2.2.1 (ah (aN e.2.2.1.1 (ah 0) 0)) aR).3 1 (RY b e)
def F60:Y51:=
 λn b=>ak (@iter (uk) (Unit) (Y42) (Any) (λc=>aj (D.bN c.1 (aq b.1.2.2.2.2.2.1)) (aB (av c.1 b.1.2.2.2.2.2.1) (aj (D.aM (EZ (A
 :=sg.A) (Ty.int .i64) (RZ b c) c.2.1)) (aB (cY c.2.2.1.1 [RZ b c]) (some (LO.next (D.add .i64 c.1 1,n3 (A:=sg.A) (Ty.int .i64) (RZ b
 c) (aq c.2.2.1.1) c.2.1,(cM c.2.2.1.1 [RZ b c],()),())))) (some (LO.next (D.add .i64 c.1 1,c.2))))) (some (LO.out 0 c))) n (0,[],([],()),
 ())) λc=>LO.el c (λ_ e=>aj (D.bN 0 (aq e.2.2.1.1)) (aB (av 0 e.2.2.1.1) (aB (cw (ah 0) e.2.2.1.1) (aB (av (aN e.2.2.1.1 (ah
 0) 0) b.1.2.2.2.2.1) (aj (D.aO (RY b e) 0) (X8 n b e) (aB (av 0 (aN b.1.2.2.2.2.1 (ah (aN e.2.2.1.1 (ah 0) 0)) aR).3) (aj
 (D.aM (D.aO (aN (aN b.1.2.2.2.2.1 (ah (aN e.2.2.1.1 (ah 0) 0)) aR).3 (ah 0) az).1 5)) (aB (eW 1 (RY b e) (RY b e))
 (aj (D.aO (aq (Bu b e)) 0) (X8 n b e) (aB (av 0 (Bu b e)) (aj (D.aM (D.aO (aN (Bu b e) (ah 0) az).1 5)) (aB (eW
 1 (aq (Bu b e)) (aq (Bu b e))) none) (aB (av 0 (Bu b e)) none))))) (aB (av 0 (aN b.1.2.2.2.2.1 (ah (aN e.2.2.1.1 (ah 0) 0))
 aR).3) none))))))) (PY n b e)) (λ_ _=>some ((bS,()),b)) λ_ _=>none
def k60(n:Nat):OC:=⟨60,⟨P52,K53,false,F60 n⟩,cq [k49 n,k90 n,ahd n,adz n] [(60,0,⟨[(24,cW),(0,.box (.map (.int .i64) (.int .i64))),(0,aeR)],[.cell (.slot 3) 0,.slot 4],[],0⟩),(60,2,⟨[(8,cW),(0,.box (.map (.int .i64) (.int .i64))),(0,aeR)],[.cell (.slot 3) 0,.slot 4],[],2⟩),(60,6,⟨[(75,cW),(0,b6z)],[.slot 11],[],0⟩),(60,8,⟨[(101,cW),(0,b6z)],[.slot 11],[],0⟩),(91,0,⟨[(21,cW),(0,aeU)],[.slot 2],[(19,1002003)],0⟩),(158,0,⟨[(0,.one (.own (.st 4))),(10,cW)],[],[(8,0)],0⟩),(167,0,⟨[(15,cW)],[],[],0⟩)] n 3 60⟩
def F28:Nat->Y17->Option Y30:=
 λn b=>ak (F46 n (b.1,())) λc=>aj (D.aM (D.aO c.1.1 0)) (some ((bS,2,()),())) (ak (F99 n (cr.mk b.1 b.2.1,())) λ
 d=>aj (D.aM d.1.1) (some ((bS,2,()),())) (ak (F60 n ((b.1.1,b.1.2,b.1.3,b.1.4,b.2.1.1,b.2.1.2,b.2.1.3,b.2.1.4,b.2.1.5,()),
 ())) λe=>some ((e.1.1,0,()),())))
def k28(n:Nat):OC:=⟨28,⟨P67,K55,false,F28 n⟩,cq [k46 n,k60 n,k99 n] [] n 10 28⟩
def F32:ajw:=
 λn b=>ak (F46 n (b.1,())) λc=>aj (D.aM (D.aO c.1.1 0)) (some ((bS,aZ,0,2,()),())) (ak (F99 n (cr.mk b.1
 b.2.1,())) λd=>aj (D.aM d.1.1) (some ((bS,aZ,0,2,()),())) (ak (F59 n ((b.1.1,b.1.2,b.1.3,b.1.4,b.2.1.1,b.2.1.2,
 b.2.1.3,b.2.1.4,b.2.1.5,()),b.2.2)) λe=>aj (D.aM (D.aO e.1.2.2.1 0)) (some ((bS,aZ,0,e.1.2.2),())) (ak (F51 n e.2)
 λg=>some ((g.1.1,e.1.1,e.1.2.1,0,()),()))))
def k32(n:Nat):OC:=⟨32,⟨P68,K69,false,F32 n⟩,cq [k46 n,k51 n,k59 n,k99 n] [] n 10 32⟩
def KB(n:Nat)(c:Int×Unit):Option Ud:=
 some (LO.next (D.add .i64 c.1 1,()))
def F284:Nat->Y64->Dv:=
 λn b=>ak (@iter (Int×Unit) (Int×Unit) (Unit) (Any) (λc=>aj (D.bN c.1 (aq b.1)) (aB (av c.1 b.1) (aj (D.aO (lH b.1 c.1) 32)
 (KB n c) (aB (av c.1 b.1) (aj (D.aO (lH b.1 c.1) 9) (KB n c) (aB (av c.1 b.1) (aj (D.aO (lH b.1 c.1) 10) (KB n c) (aj (D.eu
 2 (D.dN .i64 (aq b.1) c.1)) (aB (eW c.1 (D.add .i64 c.1 2) (aq b.1)) (aj (gf (eo b.1 c.1 (D.add .i64 c.1 2)) [47,47]) (ak (@iter (Int×
 Unit) (Int×Unit) (Unit) (Any) (λd=>aj (D.bN d.1 (aq b.1)) (aB (av d.1 b.1) (aj (D.aM (D.aO (lH b.1 d.1) 10)) (KB n d) (some
 (LO.out 0 d)))) (some (LO.out 0 d))) n c) λd=>LO.el d (λ_ g=>some (LO.next g)) (λ_ g=>some (LO.ret () g)) λ_ _=>none) (some (LO.ret
 () c)))) (some (LO.ret () c))))))))) (some (LO.out 0 c))) n b.2) λc=>LO.el c (λ_ e=>some (e,())) (λ_ e=>some (e,())) λ_ _=>none
def amg(n:Nat):OC:=⟨284,⟨P70,K2,false,F284 n⟩,cq [] [(284,0,⟨[(1,cW)],[],[],0⟩),(284,2,⟨[(1,cW)],[],[],0⟩)] n 10 284⟩
def F142:Nat->ajs->Option fe:=
 λn b=>ak (@iter (Int×Unit) (Bool×Unit) (Unit) (Any) (λc=>aj (D.bN c.1 (aq b.1)) (aB (av c.1 b.1) (aj (gf (aN b.1 (ah c.1)
 []) b.2.1) (some (LO.ret () (true,()))) (some (LO.next (D.add .i64 c.1 1,()))))) (some (LO.out 0 c))) n (0,())) λc=>LO.el c (λ_ _=>some
 ((false,()),())) (λ_ e=>some (e,())) λ_ _=>none
def aaa(n:Nat):OC:=⟨142,⟨P71,K4,false,F142 n⟩,cq [] [(142,0,⟨[(5,cW)],[],[],0⟩)] n 10 142⟩
def F290:Y85:=
 λn _=>some (([[98,111,111,108],[99,101,108,108],[99,104,97,110],[101,108,115,101],[102,97,108,115,101],[102,117,110],[103,
 101,116],[105,102],[105,110],[105,110,112,117,116],[105,110,116],[106,111,105,110],[108,101,116],[109,97,116,99,104],[109,
 111,100,117,108,101],[111,117,116],[112,97,117,115,101],[112,117,116],[114,101,115,101,116],[115,101,110,100],[115,104,105,
 102,116],[115,112,97,119,110],[116,97,107,101],[116,97,115,107],[116,104,101,110],[116,114,117,101],[116,121,112,101],[117,
 110,105,116]],()),())
def ame(n:Nat):OC:=⟨290,⟨[],K72,false,F290 n⟩,cq [] [] n 10 290⟩
def F250:Y33:=
 λn b=>ak (F290 n ()) λc=>ak (F142 n (c.1.1,b)) λd=>some d
def ag2(n:Nat):OC:=⟨250,⟨P7,K4,false,F250 n⟩,cq [aaa n,ame n] [] n 10 250⟩
def F299:Y36:=
 λn b=>aj (D.eu 97 b.1) (some ((D.eu b.1 122,()),())) (some ((false,()),()))
def agX(n:Nat):OC:=⟨299,⟨P73,K4,false,F299 n⟩,cq [] [] n 10 299⟩
def F302:Y36:=
 λn b=>aj (D.eu 48 b.1) (some ((D.eu b.1 57,()),())) (some ((false,()),()))
def agV(n:Nat):OC:=⟨302,⟨P73,K4,false,F302 n⟩,cq [] [] n 10 302⟩
def Yt(n:Nat)(b:ajg)(c:Int×Unit):Option Ud:=
 aj (D.aM b.2.2.1) (aB (av c.1 b.1) (ak (F299 n (lH b.1 c.1,())) λe=>aj e.1.1 (some (LO.next (D.add .i64 c.1 1,()))) (some (LO.out 0
 c)))) (some (LO.out 0 c))
def F300:Nat->ajg->Dv:=
 λn b=>ak (@iter (Int×Unit) (Int×Unit) (Unit) (Any) (λc=>aj (D.bN c.1 (aq b.1)) (aj b.2.2.1 (aB (av c.1 b.1) (ak (F302 n (lH
 b.1 c.1,())) λd=>aj d.1.1 (some (LO.next (D.add .i64 c.1 1,()))) (Yt n b c))) (Yt n b c)) (some (LO.out 0 c))) n (b.2.1,())) λc=>
 LO.el c (λ_ e=>some ((D.dN .i64 e.1 b.2.1,()),())) (λ_ e=>some (e,())) λ_ _=>none
def agW(n:Nat):OC:=⟨300,⟨P74,K2,false,F300 n⟩,cq [agX n,agV n] [(300,0,⟨[(7,cW)],[],[],0⟩)] n 10 300⟩
def F301:Y36:=
 λn b=>aj (D.eu 65 b.1) (some ((D.eu b.1 90,()),())) (some ((false,()),()))
def amb(n:Nat):OC:=⟨301,⟨P73,K4,false,F301 n⟩,cq [] [] n 10 301⟩
def F303:Nat->Y64->Dv:=
 λn b=>aB (av b.2.1 b.1) (ak (aj (D.aO (lH b.1 b.2.1) 126) (some (LO.next (D.add .i64 b.2.1 1,true,()))) (some (LO.next (b.2.1,false,
 ())))) λ(c:LO (Int×Bool×Unit) (Int×Unit) Unit Any)=>LO.jn c (λd=>ak (F300 n (b.1,d.1,true,())) λe=>aj (D.aO e.1.1 0) (some
 ((0,()),())) (aj (D.bN 10 e.1.1) (some ((0,()),())) (aB (av d.1 b.1) (aj (D.aO (lH b.1 d.1) 48) (aj (D.bN 1 e.1.1) (some ((0,()),()))
 (aj (D.bN b.2.1 d.1) (some ((0,()),())) (some ((D.add .i64 (D.dN .i64 d.1 b.2.1) e.1.1,()),())))) (some ((D.add .i64 (D.dN .i64 d.1 b.2.1)
 e.1.1,()),())))))) (λ_ _=>none) (λ_ e=>some (e,())) λ_ _=>none)
def ama(n:Nat):OC:=⟨303,⟨P70,K2,false,F303 n⟩,cq [agW n] [(303,1000003,⟨[(5,cW),(11,cZ)],[],[],0⟩)] n 10 303⟩
abbrev Vk(F:Fn P7 K2 false):lF sg:=⟨P7,K2,false,F⟩
def B304:Nat->(List UInt8×Unit->Dv)->List UInt8×Unit->Dv:=
 λn f304 c=>aB (av 0 c.1) (aj (D.aO (lH c.1 0) 126) (aB (eW 1 (aq c.1) (aq c.1)) (ak (f304 (eo c.1 1 (aq c.1),())) λd=>
 some ((D.neg .i64 d.1.1,()),()))) (ak (@iter (Int×Int×Unit) (Int×Unit) (Unit) (Any) (λd=>aj (D.bN d.2.1 (aq c.1)) (aB (av d.2.1
 c.1) (some (LO.next (D.add .i64 (D.mul .i64 10 d.1) (D.conv .i64 (D.dN .u8 (lH c.1 d.2.1) 48)),D.add .i64 d.2.1 1,())))) (some (LO.out 0 d))) n
 (0,0,())) λd=>LO.el d (λ_ g=>some ((g.1,()),())) (λ_ g=>some (g,())) λ_ _=>none))
def D304(n:Nat)(f304:Fn P7 K2 false)(ao6:bC prog 304 (Vk f304)):bC prog 304 (Vk (B304 n f304)):=cq [⟨304,Vk f304,ao6⟩] [(304,0,⟨[(3,cW),(4,cW)],[],[],0⟩)] n 10 304
def R304(n k:Nat):(Fn P7 K2 false):=Nat.rec (motive:=λ_=>(Fn P7 K2 false)) (λ_=>none) (λ_ r=>B304 n r) k
def F304(n:Nat):Fn P7 K2 false:=(R304 n n)
def acD(n:Nat):∀k,bC prog 304 (Vk (R304 n k))
 |0=>bY (enters 304 (by kernel_rfl))
 |k+1=>have ih:=acD n k
  D304 n _ ih
def al9(n:Nat):OC:=⟨304,Vk (F304 n),(acD n n)⟩
def F311:Y85:=
 λn _=>some (([[61,62],[61,61],[45,62],[61],[60],[43],[45],[42],[40],[41],[123],[125],[124],[44],[59],[58],[95],[63]],()),())
def al5(n:Nat):OC:=⟨311,⟨[],K72,false,F311 n⟩,cq [] [] n 10 311⟩
def F305:Nat->Y64->ajh:=
 λn b=>ak (F311 n ()) λc=>ak (@iter (Int×Unit) (List UInt8×Unit) (Unit) (Any) (λd=>aj (D.bN d.1 (aq c.1.1)) (aB (av d.1
 c.1.1) (aj (D.eu (aq (aN c.1.1 (ah d.1) [])) (D.dN .i64 (aq b.1) b.2.1)) (aB (av d.1 c.1.1) (aB (eW b.2.1 (D.add .i64 b.2.1 (aq (aN
 c.1.1 (ah d.1) []))) (aq b.1)) (aB (av d.1 c.1.1) (aj (gf (eo b.1 b.2.1 (D.add .i64 b.2.1 (aq (aN c.1.1 (ah d.1) [])))) (aN c.1.1
 (ah d.1) [])) (aB (av d.1 c.1.1) (some (LO.ret () (aN c.1.1 (ah d.1) [],())))) (some (LO.next (D.add .i64 d.1 1,()))))))) (some (LO.next
 (D.add .i64 d.1 1,()))))) (some (LO.out 0 d))) n (0,())) λd=>LO.el d (λ_ _=>some (([],()),())) (λ_ g=>some (g,())) λ_ _=>none
def al8(n:Nat):OC:=⟨305,⟨P70,K10,false,F305 n⟩,cq [al5 n] [(305,0,⟨[(6,cW)],[],[],0⟩)] n 10 305⟩
def Qd(b:Y64)(d:(Int×Unit)×Unit):Bool:=
 eW b.2.1 (D.add .i64 b.2.1 d.1.1) (aq b.1)
def yG(b:Y64)(d:(Int×Unit)×Unit):List UInt8:=
 eo b.1 b.2.1 (D.add .i64 b.2.1 d.1.1)
def Qc(n:Nat):Bool×Y65×Unit->Y66:=
 λh=>some ((e9.mk h.2.1.1 h.2.1.2.1 h.2.1.2.2.1 h.2.1.2.2.2.1,()),())
def Yv(n:Nat)(b:Y64):Y66:=
 ak (F303 n b) λg=>ak (aj (D.bN 0 g.1.1) (aB (Qd b g) (aB (Qd b g) (ak (F304 n (yG b g,())) λh=>some (LO.next (true,(4,
 yG b g,h.1.1,b.2),()))))) (some (LO.next (false,(0,[],0,b.2),())))) λ(h:Y67)=>LO.jn h (Qc n) (λ_ _=>none) (λ_ _=>some
 ((dx,()),())) λ_ _=>none
def F285:Nat->Y64->Y66:=
 λn b=>aB (av b.2.1 b.1) (ak (F299 n (lH b.1 b.2.1,())) λc=>aj c.1.1 (ak (F300 n (b.1,b.2.1,false,())) λd=>aB (Qd b d)
 (ak (F250 n (yG b d,())) λe=>ak (aj e.1.1 (some (LO.next (true,(3,yG b d,0,b.2),()))) (ak (aj (D.eu (aq (yG b d)) 8)
 (some (LO.next (true,(1,yG b d,0,b.2),()))) (some (LO.next (false,(0,yG b d,0,b.2),())))) λ(g:Y67)=>LO.jn g (λh=>some
 (LO.next (false,h.2))) (λ_ _=>none) (λh _=>some (LO.ret h ())) λ_ _=>none)) λ(g:Y67)=>LO.jn g (Qc n) (λ_ _=>none) (λ
 _ _=>some ((dx,()),())) λ_ _=>none)) (aB (av b.2.1 b.1) (ak (F301 n (lH b.1 b.2.1,())) λd=>aj d.1.1 (ak (F300 n (b.1,
 D.add .i64 b.2.1 1,false,())) λe=>aB (eW b.2.1 (D.add .i64 (D.add .i64 b.2.1 1) e.1.1) (aq b.1)) (ak (aj (D.eu (aq (eo b.1 b.2.1
 (D.add .i64 (D.add .i64 b.2.1 1) e.1.1))) 8) (some (LO.next (true,(2,eo b.1 b.2.1 (D.add .i64 (D.add .i64 b.2.1 1) e.1.1),0,b.2),()))) (some
 (LO.next (false,(0,eo b.1 b.2.1 (D.add .i64 (D.add .i64 b.2.1 1) e.1.1),0,b.2),())))) λ(g:Y67)=>LO.jn g (Qc n) (λ_ _=>none) (λ
 _ _=>some ((dx,()),())) λ_ _=>none)) (aB (av b.2.1 b.1) (ak (F302 n (lH b.1 b.2.1,())) λe=>aj e.1.1 (Yv n b) (aB
 (av b.2.1 b.1) (aj (D.aO (lH b.1 b.2.1) 126) (Yv n b) (ak (F305 n b) λg=>aj (D.aM (gf g.1.1 [])) (some ((e9.mk 5 g.1.1 0
 b.2.1,()),())) (some ((e9.mk 0 g.1.1 0 b.2.1,()),()))))))))))
def amf(n:Nat):OC:=⟨285,⟨P70,K75,false,F285 n⟩,cq [ag2 n,agX n,agW n,amb n,agV n,ama n,al9 n,al8 n] [(285,1000005,⟨[(24,cZ),(0,abd)],[.slot 5],[],0⟩),(285,1000007,⟨[(29,cZ),(0,abd)],[.slot 5],[],0⟩),(285,1000012,⟨[(50,cZ),(0,abd)],[.slot 5],[],0⟩),(285,1000017,⟨[(67,cZ),(0,abd)],[.slot 5],[],0⟩)] n 10 285⟩
def F245:Y61:=
 λn b=>ak (F284 n (b.1,0,())) λc=>ak (@iter (Y60) (Y60) (Unit) (Any) (λd=>aj (D.bN d.2.1 (aq b.1)) (ak (F285 n (b.1,d.2)) λe
 =>aj (D.aO e.1.1.1 0) (some (LO.ret () d)) (aB (cY d.1 [e.1.1]) (ak (F284 n (b.1,D.add .i64 d.2.1 (aq e.1.1.2),())) λg=>some (LO.next
 (cM d.1 [e.1.1],g.1))))) (some (LO.out 0 d))) n ([],c.1)) λd=>LO.el d (λ_ g=>some ((g.1,aq b.1,()),())) (λ_ g=>some (g,()))
 λ_ _=>none
def amq(n:Nat):OC:=⟨245,⟨P7,K76,false,F245 n⟩,cq [amg n,amf n] [(245,0,⟨[(4,.one (.own (.st 25))),(5,cW)],[],[],0⟩)] n 10 245⟩
def F179:Y61:=
 λn b=>aj (D.bN 8000 (aq b.1)) (some (([],3,()),())) (ak (F245 n b) λc=>aj (D.bN c.1.2.1 (aq b.1)) (some (([],4,()),())) (some
 ((c.1.1,0,()),())))
def am2(n:Nat):OC:=⟨179,⟨P7,K76,false,F179 n⟩,cq [amq n] [] n 10 179⟩
def F247:Nat->bD×List UInt8×Unit->Option fe:=
 λn b=>aj b.1.3 (some ((false,()),())) (aj (D.eu (aq b.1.1) b.1.2) (some ((false,()),())) (aB (av b.1.2 b.1.1) (aj (D.aO (aN b.1.1
 (ah b.1.2) dx).1 5) (some ((gf (aN b.1.1 (ah b.1.2) dx).2 b.2.1,()),())) (aj (D.aO (aN b.1.1 (ah b.1.2) dx).1 3)
 (some ((gf (aN b.1.1 (ah b.1.2) dx).2 b.2.1,()),())) (some ((false,()),()))))))
def ads(n:Nat):OC:=⟨247,⟨P77,K4,false,F247 n⟩,cq [] [] n 10 247⟩
def F182:Nat->ajB->Option afh:=
 λn b=>ak (F247 n (bD.mk b.1.1 b.1.2.1 b.1.2.2.1,b.2)) λc=>aj c.1.1 (some (c.1,(b.1.1,D.add .i64 b.1.2.1 1,b.1.2.2),()))
 (some (c.1,b.1,()))
def EL(n:Nat):OC:=⟨182,⟨P78,K4,false,F182 n⟩,cq [ads n] [] n 10 182⟩
def F180:Nat->ajB->abm:=
 λn b=>ak (F182 n b) λc=>aj (D.aM c.1.1) (some ((),(c.2.1.1,c.2.1.2.1,true,()),())) (some ((),c.2))
def EM(n:Nat):OC:=⟨180,⟨P78,[],false,F180 n⟩,cq [EL n] [] n 10 180⟩
def F246:Nat->bD×Int×Unit->Option fe:=
 λn b=>aj (D.aM b.1.3) (aj (D.bN b.1.2 (aq b.1.1)) (aB (av b.1.2 b.1.1) (some ((D.aO (aN b.1.1 (ah b.1.2) dx).1 b.2.1,()),
 ()))) (some ((false,()),()))) (some ((false,()),()))
def adt(n:Nat):OC:=⟨246,⟨P79,K4,false,F246 n⟩,cq [] [] n 10 246⟩
def F181:Nat->Y7×Int×Unit->Option ((e9×Unit)×Y7×Unit):=
 λn b=>ak (F246 n (bD.mk b.1.1 b.1.2.1 b.1.2.2.1,b.2)) λc=>aj (D.aM c.1.1) (some ((dx,()),(b.1.1,b.1.2.1,true,
 ()),())) (aB (av b.1.2.1 b.1.1) (some ((aN b.1.1 (ah b.1.2.1) dx,()),(b.1.1,D.add .i64 b.1.2.1 1,b.1.2.2),())))
def JN(n:Nat):OC:=⟨181,⟨NL,K75,false,F181 n⟩,cq [adt n] [] n 10 181⟩
abbrev Oo(F:Fn kO K82 false):lF sg:=⟨kO,K82,false,F⟩
def Qt(e:Y95):ck:=
 ck.mk e.1.1.1 e.1.1.2 e.1.1.3 e.1.1.4
def B248:Nat->Y96->Y96->Y7×Unit->Option Y95:=
 λn f248 f286 d=>ak (f286 d) λe=>ak (F182 n (e.2.1,[45,62],())) λg=>aj g.1.1 (ak (f248 g.2) λh=>some ((ck.mk 4 0 []
 [Qt e,Qt h],()),h.2)) (some ((Qt e,()),g.2))
abbrev SN(F:Fn kO K82 false):lF sg:=⟨kO,K82,false,F⟩
def Qs(n:Nat)(f248:Y96)(f306:ajq):Y95->Option Y95:=
 λj=>some ((ck.mk j.1.1.1 j.1.1.2 j.1.1.3 j.1.1.4,()),j.2)
def B286:Nat->Y96->ajq->Y7×Unit->Option Y95:=
 λn f248 f306 d=>ak (F182 n (d.1,[105,110,116],())) λe=>aj e.1.1 (some ((ck.mk 1 0 [] [],()),e.2)) (ak (F182 n (e.2.1,[98,
 111,111,108],())) λg=>aj g.1.1 (some ((ck.mk 2 0 [] [],()),g.2)) (ak (F182 n (g.2.1,[117,110,105,116],())) λh=>aj h.1.1
 (some ((ck.mk 3 0 [] [],()),h.2)) (ak (F182 n (h.2.1,[99,101,108,108],())) λi=>aj i.1.1 (ak (f306 (i.2.1,5,())) (Qs n f248
 f306)) (ak (F182 n (i.2.1,[99,104,97,110],())) λj=>aj j.1.1 (ak (f306 (j.2.1,6,())) (Qs n f248 f306)) (ak (F182 n (j.2.1,[116,97,
 115,107],())) λk=>aj k.1.1 (ak (f306 (k.2.1,7,())) (Qs n f248 f306)) (ak (F182 n (k.2.1,[63],())) λl=>aj l.1.1 (ak (F181 n
 (l.2.1,4,())) λm=>some ((ck.mk 9 m.1.1.3 [] [],()),m.2)) (ak (F182 n (l.2.1,[40],())) λm=>aj m.1.1 (ak (f248 m.2) λo=>ak
 (F180 n (o.2.1,[41],())) λp=>some ((ck.mk o.1.1.1 o.1.1.2 o.1.1.3 o.1.1.4,()),p.2)) (ak (F181 n (m.2.1,2,())) λo=>some
 ((ck.mk 8 0 o.1.1.2 [],()),o.2)))))))))
abbrev ZC(F:Fn NL K82 false):lF sg:=⟨NL,K82,false,F⟩
def B306:Nat->Y96->Y7×Int×Unit->Option Y95:=
 λn f286 c=>ak (f286 (c.1,())) λd=>some ((ck.mk c.2.1 0 [] [ck.mk d.1.1.1 d.1.1.2 d.1.1.3 d.1.1.4],()),d.2)
def D248(n:Nat)(f248:Fn kO K82 false)(f286:Fn kO K82 false)(aex:bC prog 248 (Oo f248))(aew:bC prog 286 (SN f286)):bC prog 248 (Oo (B248 n f248 f286)):=cq [EL n,⟨248,Oo f248,aex⟩,⟨286,SN f286,aew⟩] [] n 10 248
def D286(n:Nat)(f248:Fn kO K82 false)(f306:Fn NL K82 false)(aex:bC prog 248 (Oo f248))(ao5:bC prog 306 (ZC f306)):bC prog 286 (SN (B286 n f248 f306)):=cq [EM n,JN n,EL n,⟨248,Oo f248,aex⟩,⟨306,ZC f306,ao5⟩] [] n 10 286
def D306(n:Nat)(f286:Fn kO K82 false)(aew:bC prog 286 (SN f286)):bC prog 306 (ZC (B306 n f286)):=cq [⟨286,SN f286,aew⟩] [] n 10 306
def R248(n k:Nat):(Fn kO K82 false)×(Fn kO K82 false)×(Fn NL K82 false):=Nat.rec (motive:=λ_=>(Fn kO K82 false)×(Fn kO K82 false)×(Fn NL K82 false)) ((λ_=>none,λ_=>none,λ_=>none)) (λ_ r=>(B248 n r.1 r.2.1,B286 n r.1 r.2.2,B306 n r.2.1)) k
def F248(n:Nat):Fn kO K82 false:=(R248 n n).1
def acL(n:Nat):∀k,bC prog 248 (Oo (R248 n k).1)∧bC prog 286 (SN (R248 n k).2.1)∧bC prog 306 (ZC (R248 n k).2.2)
 |0=>⟨bY (enters 248 (by kernel_rfl)),bY (enters 286 (by kernel_rfl)),bY (enters 306 (by kernel_rfl))⟩
 |k+1=>have ih:=acL n k
  ⟨D248 n _ _ ih.1 ih.2.1,D286 n _ _ ih.1 ih.2.2,D306 n _ ih.2.1⟩
def ag3(n:Nat):OC:=⟨248,Oo (F248 n),(acL n n).1⟩
def F183:Nat->Y7×Unit->Option ((jK×Unit)×Y7×Unit):=
 λn b=>ak (F181 n (b.1,2,())) λc=>ak (F180 n (c.2.1,[61],())) λd=>ak (@iter (Bool×Y7×ajA×Unit) (Unit) (Y7×ajA×Unit)
 (Any) (λe=>aj e.1 (aj (D.aM e.2.1.2.2.1) (ak (F181 n (e.2.1,2,())) λg=>ak (F182 n (g.2.1,[40],())) λh=>ak (aj h.1.1 (ak
 (@iter (ajz) (Unit) (Y7×afg×Unit) (Any) (λi=>aj i.1 (aj (D.aM i.2.1.2.2.1) (ak (F248 n (i.2.1,())) λj=>aB (cY i.2.2.1.2.1
 [ck.mk j.1.1.1 j.1.1.2 j.1.1.3 j.1.1.4]) (ak (F182 n (j.2.1,[44],())) λk=>some (LO.next (k.1.1,k.2.1,(i.2.2.1.1,cM i.2.2.1.2.1
 [ck.mk j.1.1.1 j.1.1.2 j.1.1.3 j.1.1.4],()),())))) (some (LO.out 0 i))) (some (LO.out 0 i))) n (true,h.2.1,(g.1.1.2,[],()),())) λi=>
 LO.el i (λ_ k=>ak (F180 n (k.2.1,[41],())) λl=>some (LO.next (true,l.2.1,k.2.2))) (λj _=>some (LO.ret j ())) λ_ _=>none) (some
 (LO.next (false,h.2.1,(g.1.1.2,[],()),())))) λ(i:LO ajz Unit (Y7×afg×Unit) Any)=>LO.jn i (λj=>aB (cY e.2.2.1.2.1
 [g9.mk j.2.2.1.1 j.2.2.1.2.1]) (ak (F182 n (j.2.1,[124],())) λk=>some (LO.next (k.1.1,k.2.1,(e.2.2.1.1,cM e.2.2.1.2.1
 [g9.mk j.2.2.1.1 j.2.2.1.2.1],()),())))) (λ_ _=>none) (λj _=>some (LO.ret (j.1,e.2.2) ())) λ_ _=>none) (some (LO.out 0 e)))
 (some (LO.out 0 e))) n (true,d.2.1,(c.1.1.2,[],()),())) λe=>LO.el e (λ_ h=>ak (F180 n (h.2.1,[59],())) λi=>some ((jK.mk
 h.2.2.1.1 h.2.2.1.2.1,()),i.2)) (λg _=>some ((kV,()),g.1,())) λ_ _=>none
def am1(n:Nat):OC:=⟨183,⟨kO,K83,false,F183 n⟩,cq [EM n,JN n,EL n,ag3 n] [(183,0,⟨[(4,cZ),(0,wN),(0,.box (.cells [.dat (.str),.own (.st 18)]))],[.slot 0,.slot 3],[],0⟩),(183,2,⟨[(6,cZ),(0,wN),(0,aiU)],[.slot 0,.slot 5],[],0⟩),(183,1000007,⟨[(27,cZ),(0,wN),(0,aiU)],[.slot 0,.slot 5],[],0⟩)] n 10 183⟩
def F289:Nat->Int×Term×Term×Unit->Option XU:=
 λn b=>some ((Term.mk b.1 0 [] [Term.mk b.2.1.1 b.2.1.2 b.2.1.3 b.2.1.4 b.2.1.5,Term.mk b.2.2.1.1 b.2.2.1.2 b.2.2.1.3 b.2.2.1.4 b.2.2.1.5] [],
 ()),())
def Z4(n:Nat):OC:=⟨289,⟨P84,K85,false,F289 n⟩,cq [] [] n 10 289⟩
abbrev Vi(F:Fn kO K86 false):lF sg:=⟨kO,K86,false,F⟩
def B319:Nat->(Y7×Unit->Option Y8)->Y7×Unit->Option Y8:=
 λn f319 c=>ak (F182 n (c.1,[95],())) λd=>aj d.1.1 (some ((aC.mk 1 0 [] [],()),d.2)) (ak (F246 n (bD.mk d.2.1.1
 d.2.1.2.1 d.2.1.2.2.1,1,())) λe=>aj e.1.1 (ak (F181 n (d.2.1,1,())) λg=>some ((aC.mk 2 0 g.1.1.2 [],()),g.2)) (ak (F246 n
 (bD.mk d.2.1.1 d.2.1.2.1 d.2.1.2.2.1,4,())) λg=>aj g.1.1 (ak (F181 n (d.2.1,4,())) λh=>some ((aC.mk 3 h.1.1.3 []
 [],()),h.2)) (ak (F182 n (d.2.1,[116,114,117,101],())) λh=>aj h.1.1 (some ((aC.mk 4 1 [] [],()),h.2)) (ak (F182 n (h.2.1,[102,
 97,108,115,101],())) λi=>aj i.1.1 (some ((aC.mk 4 0 [] [],()),i.2)) (ak (F182 n (i.2.1,[40],())) λj=>aj j.1.1 (ak (F180 n
 (j.2.1,[41],())) λk=>some ((aC.mk 5 0 [] [],()),k.2)) (ak (F181 n (j.2.1,2,())) λk=>ak (F182 n (k.2.1,[40],())) λl=>aj
 l.1.1 (ak (@iter (Bool×Y7×Y9×Unit) (Unit) (Y7×Y9×Unit) (Any) (λm=>aj m.1 (aj (D.aM m.2.1.2.2.1) (ak (f319 (m.2.1,())) λo=>
 aB (cY m.2.2.1.2.2.2.1 [aC.mk o.1.1.1 o.1.1.2 o.1.1.3 o.1.1.4]) (ak (F182 n (o.2.1,[44],())) λp=>some (LO.next (p.1.1,p.2.1,
 (m.2.2.1.1,m.2.2.1.2.1,m.2.2.1.2.2.1,cM m.2.2.1.2.2.2.1 [aC.mk o.1.1.1 o.1.1.2 o.1.1.3 o.1.1.4],()),())))) (some (LO.out 0 m))) (some
 (LO.out 0 m))) n (true,l.2.1,(6,0,k.1.1.2,[],()),())) λm=>LO.el m (λ_ p=>ak (F180 n (p.2.1,[41],())) λq=>some ((aC.mk
 p.2.2.1.1 p.2.2.1.2.1 p.2.2.1.2.2.1 p.2.2.1.2.2.2.1,()),q.2)) (λo _=>some ((aK,()),o.1,())) λ_ _=>none) (some ((aC.mk 6 0
 k.1.1.2 [],()),l.2))))))))
def D319(n:Nat)(f319:Fn kO K86 false)(aoY:bC prog 319 (Vi f319)):bC prog 319 (Vi (B319 n f319)):=cq [EM n,JN n,EL n,adt n,⟨319,Vi f319,aoY⟩] [(319,1,⟨[(4,cZ),(0,wN),(0,aeT)],[.slot 0,.slot 3],[],0⟩)] n 10 319
def R319(n k:Nat):(Fn kO K86 false):=Nat.rec (motive:=λ_=>(Fn kO K86 false)) (λ_=>none) (λ_ r=>B319 n r) k
def F319(n:Nat):Fn kO K86 false:=(R319 n n)
def acB(n:Nat):∀k,bC prog 319 (Vi (R319 n k))
 |0=>bY (enters 319 (by kernel_rfl))
 |k+1=>have ih:=acB n k
  D319 n _ ih
def al3(n:Nat):OC:=⟨319,Vi (F319 n),(acB n n)⟩
def F318:Nat->List UInt8×Unit->Option ajn:=
 λn b=>aj (gf b.1 [99,101,108,108]) (some ((16,1,()),())) (aj (gf b.1 [103,101,116]) (some ((17,1,()),())) (aj (gf b.1 [112,
 117,116]) (some ((18,2,()),())) (aj (gf b.1 [115,112,97,119,110]) (some ((19,1,()),())) (aj (gf b.1 [106,111,105,110]) (some ((20,
 1,()),())) (aj (gf b.1 [99,104,97,110]) (some ((21,0,()),())) (aj (gf b.1 [115,101,110,100]) (some ((22,2,()),())) (aj (gf b.1
 [116,97,107,101]) (some ((23,1,()),())) (aj (gf b.1 [111,117,116]) (some ((24,(-1),()),())) (aj (gf b.1 [105,110,112,117,116])
 (some ((25,0,()),())) (aj (gf b.1 [114,101,115,101,116]) (some ((26,1,()),())) (aj (gf b.1 [112,97,117,115,101]) (some ((28,0,
 ()),())) (some ((0,0,()),())))))))))))))
def agU(n:Nat):OC:=⟨318,⟨P7,K41,false,F318 n⟩,cq [] [] n 10 318⟩
def F314:Y89:=
 λn b=>aj b.1.3 (some ((false,()),())) (aj (D.eu (aq b.1.1) b.1.2) (some ((false,()),())) (aB (av b.1.2 b.1.1) (aj (D.aO (aN b.1.1
 (ah b.1.2) dx).1 3) (ak (F318 n ((aN b.1.1 (ah b.1.2) dx).2,())) λc=>aj (D.aM (D.aO c.1.1 0)) (some ((true,()),()))
 (aj (gf (aN b.1.1 (ah b.1.2) dx).2 [116,114,117,101]) (some ((true,()),())) (aj (gf (aN b.1.1 (ah b.1.2) dx).2 [102,
 97,108,115,101]) (some ((true,()),())) (some ((gf (aN b.1.1 (ah b.1.2) dx).2 [109,97,116,99,104],()),()))))) (aj (D.aM
 (D.aO (aN b.1.1 (ah b.1.2) dx).1 5)) (some ((true,()),())) (some ((gf (aN b.1.1 (ah b.1.2) dx).2 [40],()),()))))))
def al4(n:Nat):OC:=⟨314,⟨P87,K4,false,F314 n⟩,cq [agU n] [] n 10 314⟩
abbrev xP(F:Fn kO K85 false):lF sg:=⟨kO,K85,false,F⟩
def nL(h:ue):Term:=
 Term.mk h.1.1.1 h.1.1.2 h.1.1.3 h.1.1.4 h.1.1.5
def YO(o:XU):Term:=
 Term.mk o.1.1.1 o.1.1.2 o.1.1.3 o.1.1.4 o.1.1.5
def B249:Nat->ud->(Y7×Int×Unit->Option ue)->ud->Y7×Unit->Option ue:=
 λn f249 f287 f288 e=>ak (F182 n (e.1,[102,117,110],())) λg=>aj g.1.1 (ak (f287 (g.2.1,5,())) λh=>some ((nL h,()),h.2))
 (ak (F182 n (g.2.1,[115,104,105,102,116],())) λh=>aj h.1.1 (ak (f287 (h.2.1,27,())) λi=>some ((nL i,()),i.2)) (ak (F182 n
 (h.2.1,[108,101,116],())) λi=>aj i.1.1 (ak (F181 n (i.2.1,1,())) λj=>ak (F180 n (j.2.1,[61],())) λk=>ak (f249 k.2) λl=>
 ak (F180 n (l.2.1,[105,110],())) λm=>ak (f249 m.2) λo=>some ((Term.mk 7 0 j.1.1.2 [nL l,nL o] [],()),o.2)) (ak (F182 n
 (i.2.1,[105,102],())) λj=>aj j.1.1 (ak (f249 j.2) λk=>ak (F180 n (k.2.1,[116,104,101,110],())) λl=>ak (f249 l.2) λm=>
 ak (F180 n (m.2.1,[101,108,115,101],())) λo=>ak (f249 o.2) λp=>some ((Term.mk 8 0 [] [nL k,nL m,nL p] [],()),p.2))
 (ak (f288 j.2) λk=>ak (F182 n (k.2.1,[60],())) λl=>aj l.1.1 (ak (f288 l.2) λm=>ak (F289 n (12,nL k,nL m,())) λo=>
 some ((YO o,()),m.2)) (ak (F182 n (l.2.1,[61,61],())) λm=>aj m.1.1 (ak (f288 m.2) λo=>ak (F289 n (13,nL k,nL o,()))
 λp=>some ((YO p,()),o.2)) (some ((nL k,()),m.2)))))))
abbrev ZE(F:Fn NL K85 false):lF sg:=⟨NL,K85,false,F⟩
def B287:Nat->ud->Y7×Int×Unit->Option ue:=
 λn f249 c=>ak (F181 n (c.1,1,())) λd=>ak (F180 n (d.2.1,[61,62],())) λe=>ak (f249 e.2) λg=>some ((Term.mk c.2.1 0 d.1.1.2
 [Term.mk g.1.1.1 g.1.1.2 g.1.1.3 g.1.1.4 g.1.1.5] [],()),g.2)
abbrev ZD(F:Fn kO K85 false):lF sg:=⟨kO,K85,false,F⟩
def YN(e:Y7×qL×Unit):Term:=
 Term.mk e.2.1.1 e.2.1.2.1 e.2.1.2.2.1 e.2.1.2.2.2.1 e.2.1.2.2.2.2.1
def afO(l:XU):qL×Unit:=
 ((l.1.1.1,l.1.1.2,l.1.1.3,l.1.1.4,l.1.1.5,()),())
def YM(n:Nat)(f307:ud)(e:Y7×qL×Unit):Option (LO (Y7×qL×Unit) Unit (Y7×qL×Unit) Any):=
 ak (F247 n (bD.mk e.1.1 e.1.2.1 e.1.2.2.1,[43],())) λh=>ak (aj h.1.1 (some (LO.next (9,true,()))) (some (LO.next (10,false,
 ())))) λ(i:abt)=>LO.jn i (λj=>ak (f307 ((e.1.1,D.add .i64 e.1.2.1 1,e.1.2.2),())) λk=>ak (F289 n (j.1,YN e,Term.mk k.1.1.1
 k.1.1.2 k.1.1.3 k.1.1.4 k.1.1.5,())) λl=>some (LO.next (k.2.1,afO l))) (λ_ _=>none) (λ_ _=>some (LO.ret e ())) λ_ _=>none
def afN(d:ue):qL×Unit:=
 ((d.1.1.1,d.1.1.2,d.1.1.3,d.1.1.4,d.1.1.5,()),())
def B288:abr:=
 λn f307 c=>ak (f307 c) λd=>ak (@iter (Y7×qL×Unit) (Unit) (Y7×qL×Unit) (Any) (λe=>aj (D.aM e.1.2.2.1) (ak (F247 n
 (bD.mk e.1.1 e.1.2.1 e.1.2.2.1,[43],())) λg=>aj g.1.1 (YM n f307 e) (ak (F247 n (bD.mk e.1.1 e.1.2.1
 e.1.2.2.1,[45],())) λh=>aj h.1.1 (YM n f307 e) (some (LO.out 0 e)))) (some (LO.out 0 e))) n (d.2.1,afN d)) λe=>LO.el e (λ_ h=>
 some ((YN h,()),h.1,())) (λg _=>some ((ql,()),g.1,())) λ_ _=>none
abbrev ZB(F:Fn kO K85 false):lF sg:=⟨kO,K85,false,F⟩
def YL(e:Y7×qL×Unit):Term:=
 Term.mk e.2.1.1 e.2.1.2.1 e.2.1.2.2.1 e.2.1.2.2.2.1 e.2.1.2.2.2.2.1
def afM(i:XU):qL×Unit:=
 ((i.1.1.1,i.1.1.2,i.1.1.3,i.1.1.4,i.1.1.5,()),())
def afL(d:ue):qL×Unit:=
 ((d.1.1.1,d.1.1.2,d.1.1.3,d.1.1.4,d.1.1.5,()),())
def B307:abr:=
 λn f312 c=>ak (f312 c) λd=>ak (@iter (Y7×qL×Unit) (Unit) (Y7×qL×Unit) (Any) (λe=>ak (F182 n (e.1,[42],())) λg=>aj
 g.1.1 (ak (f312 g.2) λh=>ak (F289 n (11,YL e,Term.mk h.1.1.1 h.1.1.2 h.1.1.3 h.1.1.4 h.1.1.5,())) λi=>some (LO.next (h.2.1,afM
 i))) (some (LO.out 0 (g.2.1,e.2)))) n (d.2.1,afL d)) λe=>LO.el e (λ_ h=>some ((YL h,()),h.1,())) (λg _=>some ((ql,()),
 g.1,())) λ_ _=>none
abbrev ZA(F:Fn kO K85 false):lF sg:=⟨kO,K85,false,F⟩
def YK(e:Y7×qL×Unit):Term:=
 Term.mk e.2.1.1 e.2.1.2.1 e.2.1.2.2.1 e.2.1.2.2.2.1 e.2.1.2.2.2.2.1
def afK(i:XU):qL×Unit:=
 ((i.1.1.1,i.1.1.2,i.1.1.3,i.1.1.4,i.1.1.5,()),())
def afJ(d:ue):qL×Unit:=
 ((d.1.1.1,d.1.1.2,d.1.1.3,d.1.1.4,d.1.1.5,()),())
def B312:abr:=
 λn f313 c=>ak (f313 c) λd=>ak (@iter (Y7×qL×Unit) (Unit) (Y7×qL×Unit) (Any) (λe=>ak (F314 n (bD.mk e.1.1
 e.1.2.1 e.1.2.2.1,())) λg=>aj g.1.1 (ak (f313 (e.1,())) λh=>ak (F289 n (6,YK e,Term.mk h.1.1.1 h.1.1.2 h.1.1.3 h.1.1.4 h.1.1.5,
 ())) λi=>some (LO.next (h.2.1,afK i))) (some (LO.out 0 e))) n (d.2.1,afJ d)) λe=>LO.el e (λ_ h=>some ((YK h,()),h.1,()))
 (λg _=>some ((ql,()),g.1,())) λ_ _=>none
abbrev Zz(F:Fn kO K85 false):lF sg:=⟨kO,K85,false,F⟩
def Qr(g:Y7×Unit):bD:=
 bD.mk g.1.1 g.1.2.1 g.1.2.2.1
def YJ(n:Nat)(f249:ud)(f315:afj)(f316:ud)(f317:ud):ue->Option ue:=
 λo=>some ((Term.mk o.1.1.1 o.1.1.2 o.1.1.3 o.1.1.4 o.1.1.5,()),o.2)
def B313:Nat->ud->afj->ud->ud->Y7×Unit->Option ue:=
 λn f249 f315 f316 f317 g=>ak (F246 n (Qr g,4,())) λh=>aj h.1.1 (ak (F181 n (g.1,4,())) λi=>some ((Term.mk 1 i.1.1.3 [] [] [],
 ()),i.2)) (ak (F246 n (Qr g,1,())) λi=>aj i.1.1 (ak (F181 n (g.1,1,())) λj=>some ((Term.mk 4 0 j.1.1.2 [] [],()),j.2)) (ak
 (F246 n (Qr g,2,())) λj=>aj j.1.1 (ak (F181 n (g.1,2,())) λk=>ak (F247 n (bD.mk k.2.1.1 k.2.1.2.1 k.2.1.2.2.1,
 [40],())) λl=>ak (aj l.1.1 (ak (f315 (k.2.1,(-1),())) λm=>some (LO.next (true,m.2.1,(14,0,k.1.1.2,m.1.1,[],()),()))) (some
 (LO.next (false,k.2.1,(14,0,k.1.1.2,[],[],()),())))) λ(m:LO ajE Unit (Y7×qL×Unit) Any)=>LO.jn m (λo=>some ((Term.mk
 o.2.2.1.1 o.2.2.1.2.1 o.2.2.1.2.2.1 o.2.2.1.2.2.2.1 [],()),o.2.1,())) (λ_ _=>none) (λo _=>some ((ql,()),o.1,())) λ_ _=>none)
 (ak (F182 n (g.1,[116,114,117,101],())) λk=>aj k.1.1 (some ((Term.mk 2 1 [] [] [],()),k.2)) (ak (F182 n (k.2.1,[102,97,108,115,
 101],())) λl=>aj l.1.1 (some ((Term.mk 2 0 [] [] [],()),l.2)) (ak (F182 n (l.2.1,[109,97,116,99,104],())) λm=>aj m.1.1 (ak (f316
 m.2) (YJ n f249 f315 f316 f317)) (ak (F182 n (m.2.1,[40],())) λo=>aj o.1.1 (ak (F182 n (o.2.1,[41],())) λp=>aj p.1.1 (some
 ((Term.mk 3 0 [] [] [],()),p.2)) (ak (f249 p.2) λq=>ak (F180 n (q.2.1,[41],())) λr=>some ((Term.mk q.1.1.1 q.1.1.2 q.1.1.3 q.1.1.4
 q.1.1.5,()),r.2))) (ak (F246 n (bD.mk o.2.1.1 o.2.1.2.1 o.2.1.2.2.1,3,())) λp=>aj p.1.1 (ak (f317 o.2) (YJ n f249 f315
 f316 f317)) (some ((ql,()),(o.2.1.1,o.2.1.2.1,true,()),())))))))))
abbrev SM(F:Fn NL K88 false):lF sg:=⟨NL,K88,false,F⟩
def KQ(n:Nat)(f249:ud)(c:Y7×Int×Unit)(g:afh):Option XQ:=
 aj (D.bN 0 c.2.1) (ak (F180 n (g.2.1,[44],())) λh=>some (LO.next (true,h.2))) (some (LO.next (false,g.2)))
def nK(e:ue):List Term:=
 [Term.mk e.1.1.1 e.1.1.2 e.1.1.3 e.1.1.4 e.1.1.5]
def Qq(n:Nat)(f249:ud)(k:XP):XQ->Option (LO XP (List Term×Unit) (Y7×Unit) Any):=
 λm=>LO.jn m (λo=>ak (f249 o.2) λp=>aB (cY k.1 (nK p)) (some (LO.next (cM k.1 (nK p),p.2)))) (λ_ _=>none) (λo p=>
 some (LO.ret o p)) λ_ _=>none
def afI(n:Nat)(f249:ud)(c:Y7×Int×Unit)(k:XP):Option XQ:=
 aj (D.bN 0 c.2.1) (ak (F180 n (k.2.1,[44],())) λl=>some (LO.next (true,l.2))) (some (LO.next (false,k.2)))
def afH(n:Nat)(m:XP):abm:=
 F180 n (m.2.1,[41],())
def Qp(n:Nat)(f249:ud)(c:Y7×Int×Unit)(e:ue):XQ->afk:=
 λh=>LO.jn h (λi=>ak (f249 i.2) λj=>aB (cY (nK e) (nK j)) (ak (@iter (XP) (List Term×Unit) (Y7×Unit) (Any) (λk=>
 aj (D.bN c.2.1 0) (ak (F182 n (k.2.1,[44],())) λl=>aj l.1.1 (ak (KQ n f249 c l) (Qq n f249 k)) (aj (D.bN (aq k.1) c.2.1) (aj
 (D.aM l.2.1.2.2.1) (ak (KQ n f249 c l) (Qq n f249 k)) (some (LO.out 0 (k.1,l.2)))) (some (LO.out 0 (k.1,l.2))))) (aj (D.bN (aq k.1)
 c.2.1) (aj (D.aM k.2.1.2.2.1) (ak (afI n f249 c k) (Qq n f249 k)) (some (LO.out 0 k))) (some (LO.out 0 k)))) n (cM (nK e) (nK j),
 j.2)) λk=>LO.el k (λ_ m=>ak (afH n m) λo=>some ((m.1,()),o.2)) (λl m=>some (m,l)) λ_ _=>none)) (λ_ _=>none) (λi
 j=>some (j,i)) λ_ _=>none
def YI(n:Nat)(g:afh):abm:=
 F180 n (g.2.1,[41],())
def afG(n:Nat)(f249:ud)(c:Y7×Int×Unit)(e:ue):Option XQ:=
 aj (D.bN 0 c.2.1) (ak (F180 n (e.2.1,[44],())) λg=>some (LO.next (true,g.2))) (some (LO.next (false,e.2)))
def YH(n:Nat)(e:ue):abm:=
 F180 n (e.2.1,[41],())
def B315:Nat->ud->Y7×Int×Unit->afk:=
 λn f249 c=>ak (F180 n (c.1,[40],())) λd=>ak (f249 d.2) λe=>aj (D.bN c.2.1 0) (ak (F182 n (e.2.1,[44],())) λg=>aj g.1.1
 (ak (KQ n f249 c g) (Qp n f249 c e)) (aj (D.bN (aq (nK e)) c.2.1) (aj (D.aM g.2.1.2.2.1) (ak (KQ n f249 c g) (Qp n f249 c
 e)) (ak (YI n g) λh=>some ((nK e,()),h.2))) (ak (YI n g) λh=>some ((nK e,()),h.2)))) (aj (D.bN (aq (nK e))
 c.2.1) (aj (D.aM e.2.1.2.2.1) (ak (afG n f249 c e) (Qp n f249 c e)) (ak (YH n e) λg=>some ((nK e,()),g.2))) (ak (YH n
 e) λg=>some ((nK e,()),g.2)))
abbrev Zy(F:Fn kO K85 false):lF sg:=⟨kO,K85,false,F⟩
def yQ(d:ue):List Term:=
 [Term.mk d.1.1.1 d.1.1.2 d.1.1.3 d.1.1.4 d.1.1.5]
def Qo(l:Y8):List aC:=
 [aC.mk l.1.1.1 l.1.1.2 l.1.1.3 l.1.1.4]
def B316:abr:=
 λn f249 c=>ak (f249 c) λd=>ak (F180 n (d.2.1,[123],())) λe=>aj (D.aM e.2.1.2.2.1) (ak (F319 n e.2) λg=>ak (F180 n (g.2.1,
 [45,62],())) λh=>ak (f249 h.2) λi=>aB (cY (yQ d) (yQ i)) (ak (F182 n (i.2.1,[124],())) λj=>ak (@iter (ajE) (Unit) (Y7
 ×qL×Unit) (Any) (λk=>aj k.1 (aj (D.aM k.2.1.2.2.1) (ak (F319 n (k.2.1,())) λl=>ak (F180 n (l.2.1,[45,62],())) λm=>ak
 (f249 m.2) λo=>aB (cY k.2.2.1.2.2.2.2.1 (Qo l)) (aB (cY k.2.2.1.2.2.2.1 (yQ o)) (ak (F182 n (o.2.1,[124],())) λp=>some
 (LO.next (p.1.1,p.2.1,(k.2.2.1.1,k.2.2.1.2.1,k.2.2.1.2.2.1,cM k.2.2.1.2.2.2.1 (yQ o),cM k.2.2.1.2.2.2.2.1 (Qo l),()),()))))) (some
 (LO.out 0 k))) (some (LO.out 0 k))) n (j.1.1,j.2.1,(15,0,[],cM (yQ d) (yQ i),Qo g,()),())) λk=>LO.el k (λ_ m=>ak (F180
 n (m.2.1,[125],())) λo=>some ((Term.mk m.2.2.1.1 m.2.2.1.2.1 m.2.2.1.2.2.1 m.2.2.1.2.2.2.1 m.2.2.1.2.2.2.2.1,()),o.2)) (λl _=>some
 ((ql,()),l.1,())) λ_ _=>none)) (ak (F180 n (e.2.1,[125],())) λg=>some ((Term.mk 15 0 [] (yQ d) [],()),g.2))
abbrev Zx(F:Fn kO K85 false):lF sg:=⟨kO,K85,false,F⟩
def Qn(d:Y7×Unit):Y7:=
 (d.1.1,D.add .i64 d.1.2.1 1,d.1.2.2)
def B317:Nat->ud->afj->Y7×Unit->Option ue:=
 λn f249 f315 d=>aB (av d.1.2.1 d.1.1) (ak (F318 n ((aN d.1.1 (ah d.1.2.1) dx).2,())) λe=>aj (D.aO e.1.1 0) (some ((ql,
 ()),(d.1.1,d.1.2.1,true,()),())) (aj (D.bN 0 e.1.2.1) (ak (f315 (Qn d,e.1.2)) λg=>some ((Term.mk e.1.1 0 [] g.1.1 [],()),g.2)) (aj
 (D.bN e.1.2.1 0) (ak (F180 n (Qn d,[40],())) λg=>ak (F181 n (g.2.1,4,())) λh=>ak (F180 n (h.2.1,[44],())) λi=>ak (f249
 i.2) λj=>ak (F180 n (j.2.1,[41],())) λk=>some ((Term.mk e.1.1 h.1.1.3 [] [Term.mk j.1.1.1 j.1.1.2 j.1.1.3 j.1.1.4 j.1.1.5] [],()),k.2))
 (some ((Term.mk e.1.1 0 [] [] [],()),Qn d,())))))
def D249(n:Nat)(f249:Fn kO K85 false)(f287:Fn NL K85 false)(f288:Fn kO K85 false)(E1:bC prog 249 (xP f249))(ao8:bC prog 287 (ZE f287))(ao7:bC prog 288 (ZD f288)):bC prog 249 (xP (B249 n f249 f287 f288)):=cq [EM n,JN n,EL n,⟨249,xP f249,E1⟩,⟨287,ZE f287,ao8⟩,⟨288,ZD f288,ao7⟩,Z4 n] [] n 10 249
def D287(n:Nat)(f249:Fn kO K85 false)(E1:bC prog 249 (xP f249)):bC prog 287 (ZE (B287 n f249)):=cq [EM n,JN n,⟨249,xP f249,E1⟩] [] n 10 287
def D288(n:Nat)(f307:Fn kO K85 false)(ao4:bC prog 307 (ZB f307)):bC prog 288 (ZD (B288 n f307)):=cq [ads n,Z4 n,⟨307,ZB f307,ao4⟩] [(288,0,⟨[(0,wN),(0,b7z)],[.slot 0,.slot 3],[],0⟩),(288,1000005,⟨[(4,cW),(22,cZ)],[],[],0⟩)] n 10 288
def D307(n:Nat)(f312:Fn kO K85 false)(ao2:bC prog 312 (ZA f312)):bC prog 307 (ZB (B307 n f312)):=cq [EL n,Z4 n,⟨312,ZA f312,ao2⟩] [(307,0,⟨[(0,wN),(0,b7z)],[.slot 0,.slot 3],[],0⟩)] n 10 307
def D312(n:Nat)(f313:Fn kO K85 false)(ao1:bC prog 313 (Zz f313)):bC prog 312 (ZA (B312 n f313)):=cq [Z4 n,⟨313,Zz f313,ao1⟩,al4 n] [(312,0,⟨[(0,wN),(0,b7z)],[.slot 0,.slot 3],[],0⟩)] n 10 312
def D313(n:Nat)(f249:Fn kO K85 false)(f315:Fn NL K88 false)(f316:Fn kO K85 false)(f317:Fn kO K85 false)(E1:bC prog 249 (xP f249))(aev:bC prog 315 (SM f315))(ao0:bC prog 316 (Zy f316))(aoZ:bC prog 317 (Zx f317)):bC prog 313 (Zz (B313 n f249 f315 f316 f317)):=cq [EM n,JN n,EL n,adt n,ads n,⟨249,xP f249,E1⟩,⟨315,SM f315,aev⟩,⟨316,Zy f316,ao0⟩,⟨317,Zx f317,aoZ⟩] [(313,1000008,⟨[(27,cZ),(0,wN),(0,.box (.cells [lD,lD,.dat (.str),.dat (.sl (.st 20)),.nil (.st 0)]))],[.slot 0,.slot 3],[],0⟩)] n 10 313
def D315(n:Nat)(f249:Fn kO K85 false)(E1:bC prog 249 (xP f249)):bC prog 315 (SM (B315 n f249)):=cq [EM n,EL n,⟨249,xP f249,E1⟩] [(315,0,⟨[(6,.one (.own (.st 20))),(0,wN)],[.slot 0],[],1⟩),(315,1000006,⟨[(34,cZ),(0,wN)],[.slot 0],[],0⟩)] n 10 315
def D316(n:Nat)(f249:Fn kO K85 false)(E1:bC prog 249 (xP f249)):bC prog 316 (Zy (B316 n f249)):=cq [EM n,EL n,⟨249,xP f249,E1⟩,al3 n] [(316,0,⟨[(5,cZ),(0,wN),(0,.box (.cells [lD,lD,.dat (.str),.own (.st 20),.own (.st 0)]))],[.slot 0,.slot 4],[],1⟩)] n 10 316
def D317(n:Nat)(f249:Fn kO K85 false)(f315:Fn NL K88 false)(E1:bC prog 249 (xP f249))(aev:bC prog 315 (SM f315)):bC prog 317 (Zx (B317 n f249 f315)):=cq [EM n,JN n,⟨249,xP f249,E1⟩,⟨315,SM f315,aev⟩,agU n] [] n 10 317
def R249(n k:Nat):(Fn kO K85 false)×(Fn NL K85 false)×(Fn kO K85 false)×(Fn kO K85 false)×(Fn kO K85 false)×(Fn kO K85 false)×(Fn NL K88 false)×(Fn kO K85 false)×(Fn kO K85 false):=Nat.rec (motive:=λ_=>(Fn kO K85 false)×(Fn NL K85 false)×(Fn kO K85 false)×(Fn kO K85 false)×(Fn kO K85 false)×(Fn kO K85 false)×(Fn NL K88 false)×(Fn kO K85 false)×(Fn kO K85 false)) ((λ_=>none,λ_=>none,λ_=>none,λ_=>none,λ_=>none,λ_=>none,λ_=>none,λ_=>none,λ_=>none)) (λ_ r=>(B249 n r.1 r.2.1 r.2.2.1,B287 n r.1,B288 n r.2.2.2.1,B307 n r.2.2.2.2.1,B312 n r.2.2.2.2.2.1,B313 n r.1 r.2.2.2.2.2.2.1 r.2.2.2.2.2.2.2.1 r.2.2.2.2.2.2.2.2,B315 n r.1,B316 n r.1,B317 n r.1 r.2.2.2.2.2.2.1)) k
def F249(n:Nat):Fn kO K85 false:=(R249 n n).1
def acK(n:Nat):∀k,bC prog 249 (xP (R249 n k).1)∧bC prog 287 (ZE (R249 n k).2.1)∧bC prog 288 (ZD (R249 n k).2.2.1)∧bC prog 307 (ZB (R249 n k).2.2.2.1)∧bC prog 312 (ZA (R249 n k).2.2.2.2.1)∧bC prog 313 (Zz (R249 n k).2.2.2.2.2.1)∧bC prog 315 (SM (R249 n k).2.2.2.2.2.2.1)∧bC prog 316 (Zy (R249 n k).2.2.2.2.2.2.2.1)∧bC prog 317 (Zx (R249 n k).2.2.2.2.2.2.2.2)
 |0=>⟨bY (enters 249 (by kernel_rfl)),bY (enters 287 (by kernel_rfl)),bY (enters 288 (by kernel_rfl)),bY (enters 307 (by kernel_rfl)),bY (enters 312 (by kernel_rfl)),bY (enters 313 (by kernel_rfl)),bY (enters 315 (by kernel_rfl)),bY (enters 316 (by kernel_rfl)),bY (enters 317 (by kernel_rfl))⟩
 |k+1=>have ih:=acK n k
  ⟨D249 n _ _ _ ih.1 ih.2.1 ih.2.2.1,D287 n _ ih.1,D288 n _ ih.2.2.2.1,D307 n _ ih.2.2.2.2.1,D312 n _ ih.2.2.2.2.2.1,D313 n _ _ _ _ ih.1 ih.2.2.2.2.2.2.1 ih.2.2.2.2.2.2.2.1 ih.2.2.2.2.2.2.2.2,D315 n _ ih.1,D316 n _ ih.1,D317 n _ _ ih.1 ih.2.2.2.2.2.2.1⟩
def amp(n:Nat):OC:=⟨249,xP (F249 n),(acK n n).1⟩
def F184:Nat->Y7×Unit->Option ajo:=
 λn b=>ak (F181 n (b.1,1,())) λc=>ak (F180 n (c.2.1,[40],())) λd=>ak (F181 n (d.2.1,1,())) λe=>ak (F180 n (e.2.1,[58],
 ())) λg=>ak (F248 n g.2) λh=>ak (F180 n (h.2.1,[41],())) λi=>ak (F180 n (i.2.1,[58],())) λj=>ak (F248 n j.2) λk=>ak
 (F180 n (k.2.1,[61],())) λl=>ak (F249 n l.2) λm=>ak (F180 n (m.2.1,[59],())) λo=>some ((cD.mk c.1.1.2 e.1.1.2 (ck.mk
 h.1.1.1 h.1.1.2 h.1.1.3 h.1.1.4) (ck.mk k.1.1.1 k.1.1.2 k.1.1.3 k.1.1.4) (Term.mk m.1.1.1 m.1.1.2 m.1.1.3 m.1.1.4 m.1.1.5),()),o.2)
def am0(n:Nat):OC:=⟨184,⟨kO,K89,false,F184 n⟩,cq [EM n,JN n,ag3 n,amp n] [] n 10 184⟩
def YF(l:ajo):List cD:=
 [cD.mk l.1.1.1 l.1.1.2 (ck.mk l.1.1.3.1 l.1.1.3.2 l.1.1.3.3 l.1.1.3.4) (ck.mk l.1.1.4.1 l.1.1.4.2 l.1.1.4.3 l.1.1.4.4) (Term.mk
 l.1.1.5.1 l.1.1.5.2 l.1.1.5.3 l.1.1.5.4 l.1.1.5.5)]
def F136:Nat->Y7×Unit->Option ((dS×Unit)×Y7×Unit):=
 λn b=>ak (F180 n (b.1,[109,111,100,117,108,101],())) λc=>ak (F181 n (c.2.1,1,())) λd=>ak (F180 n (d.2.1,[123],())) λe
 =>ak (@iter (abl) (Unit) (abl) (Any) (λg=>ak (F182 n (g.1,[116,121,112,101],())) λh=>aj h.1.1 (ak (F183 n h.2) λi=>aB (cY
 g.2.1.2.1 [i.1.1]) (some (LO.next (i.2.1,(g.2.1.1,cM g.2.1.2.1 [i.1.1],g.2.1.2.2),())))) (some (LO.out 0 (h.2.1,g.2)))) n (e.2.1,(d.1.1.2,[],
 [],()),())) λg=>LO.el g (λ_ i=>ak (@iter (abl) (Unit) (abl) (Any) (λj=>ak (F182 n (j.1,[102,117,110],())) λk=>aj k.1.1
 (ak (F184 n k.2) λl=>aB (cY j.2.1.2.2.1 (YF l)) (some (LO.next (l.2.1,(j.2.1.1,j.2.1.2.1,cM j.2.1.2.2.1 (YF l),()),())))) (some
 (LO.out 0 (k.2.1,j.2)))) n i) λj=>LO.el j (λ_ l=>ak (F180 n (l.1,[125],())) λm=>some ((dS.mk l.2.1.1 l.2.1.2.1 l.2.1.2.2.1,
 ()),m.2)) (λk _=>some ((jH,()),k.1,())) λ_ _=>none) (λh _=>some ((jH,()),h.1,())) λ_ _=>none
def ann(n:Nat):OC:=⟨136,⟨kO,K90,false,F136 n⟩,cq [EM n,JN n,EL n,am1 n,am0 n] [(136,0,⟨[(0,wN),(0,aiV)],[.slot 0,.slot 3],[],0⟩),(136,2,⟨[(0,wN),(0,aiV)],[.slot 0,.slot 3],[],0⟩)] n 10 136⟩
def F137:Y89:=
 λn b=>aj (D.aM b.1.3) (some ((D.aO b.1.2 (aq b.1.1),()),())) (some ((false,()),()))
def anm(n:Nat):OC:=⟨137,⟨P87,K4,false,F137 n⟩,cq [] [] n 10 137⟩
def F161:Y33:=
 λn b=>ak (@iter (Int×Unit) (Bool×Unit) (Unit) (Any) (λc=>aj (D.bN c.1 (aq b.1)) (aB (av c.1 b.1) (aj (D.bN (lH b.1 c.1) 97)
 (some (LO.ret () (false,()))) (aB (av c.1 b.1) (aj (D.bN 122 (lH b.1 c.1)) (some (LO.ret () (false,()))) (some (LO.next (D.add .i64 c.1 1,
 ()))))))) (some (LO.out 0 c))) n (0,())) λc=>LO.el c (λ_ _=>some ((true,()),())) (λ_ e=>some (e,())) λ_ _=>none
def ahc(n:Nat):OC:=⟨161,⟨P7,K4,false,F161 n⟩,cq [] [(161,0,⟨[(3,cW)],[],[],0⟩)] n 10 161⟩
def F185:Y33:=
 λn b=>aj (D.eu 1 (aq b.1)) (aj (D.eu (aq b.1) 8) (ak (F161 n b) λc=>aj c.1.1 (ak (F250 n b) λd=>some ((D.aM d.1.1,()),
 ())) (some ((false,()),()))) (some ((false,()),()))) (some ((false,()),()))
def adv(n:Nat):OC:=⟨185,⟨P7,K4,false,F185 n⟩,cq [ahc n,ag2 n] [] n 10 185⟩
def F186:Y69:=
 λn b=>aj (D.eu b.2.1 b.1) (some ((D.eu b.1 b.2.2.1,()),())) (some ((false,()),()))
def Wc(n:Nat):OC:=⟨186,⟨P6,K4,false,F186 n⟩,cq [] [] n 10 186⟩
def F93:Y33:=
 λn b=>aj (D.eu 1 (aq b.1)) (aj (D.eu (aq b.1) 8) (aB (av 0 b.1) (aj (D.eu 65 (lH b.1 0)) (aB (av 0 b.1) (aj (D.eu (lH b.1 0)
 90) (aB (eW 1 (aq b.1) (aq b.1)) (ak (F161 n (eo b.1 1 (aq b.1),())) λc=>some c)) (some ((false,()),())))) (some ((false,()),
 ())))) (some ((false,()),()))) (some ((false,()),()))
def k93(n:Nat):OC:=⟨93,⟨P7,K4,false,F93 n⟩,cq [ahc n] [] n 10 93⟩
abbrev Vq(F:Fn P91 K2 false):lF sg:=⟨P91,K2,false,F⟩
def B251:Nat->(aja->Dv)->aja->Dv:=
 λn f251 c=>aj (D.bN c.2.1 1) (some (((-1),()),())) (ak (@iter (Int×Int×Unit) (Int×Unit) (Unit) (Any) (λd=>aj (D.bN d.2.1 (aq
 c.1.4)) (aj (D.eu 0 d.1) (aB (av d.2.1 c.1.4) (ak (f251 (aN c.1.4 (ah d.2.1) mG,d.1,())) λe=>some (LO.next (e.1.1,D.add .i64
 d.2.1 1,())))) (some (LO.out 0 d))) (some (LO.out 0 d))) n (D.dN .i64 c.2.1 1,0,())) λd=>LO.el d (λ_ g=>some ((g.1,()),())) (λ_ g
 =>some (g,())) λ_ _=>none)
def D251(n:Nat)(f251:Fn P91 K2 false)(ape:bC prog 251 (Vq f251)):bC prog 251 (Vq (B251 n f251)):=cq [⟨251,Vq f251,ape⟩] [(251,0,⟨[(1,cW),(5,cW)],[],[],0⟩)] n 10 251
def R251(n k:Nat):(Fn P91 K2 false):=Nat.rec (motive:=λ_=>(Fn P91 K2 false)) (λ_=>none) (λ_ r=>B251 n r) k
def F251(n:Nat):Fn P91 K2 false:=(R251 n n)
def acJ(n:Nat):∀k,bC prog 251 (Vq (R251 n k))
 |0=>bY (enters 251 (by kernel_rfl))
 |k+1=>have ih:=acJ n k
  D251 n _ ih
def amo(n:Nat):OC:=⟨251,Vq (F251 n),(acJ n n)⟩
abbrev Vp(F:Fn P92 K4 false):lF sg:=⟨P92,K4,false,F⟩
def B252:Nat->(ajx->Option fe)->ajx->Option fe:=
 λn f252 c=>ak (aj (D.aO c.1.1 1) (some (LO.next (true,()))) (ak (aj (D.aO c.1.1 2) (some (LO.next (true,()))) (some (LO.next (D.aO c.1.1
 3,())))) λ(d:FW)=>LO.jn d (λe=>some (LO.next e)) (λ_ _=>none) (λ_ g=>some (LO.ret () g)) λ_ _=>none)) λ(d:FW)=>
 LO.jn d (λe=>ak (aj e.1 (aj (D.aO (aq c.1.4) 0) (aj (D.aO c.1.2 0) (some (LO.next (gf c.1.3 [],true,()))) (some (LO.next (false,true,
 ())))) (some (LO.next (false,true,())))) (ak (aj (D.aO c.1.1 4) (aj (D.aO (aq c.1.4) 2) (aj (D.aO c.1.2 0) (some (LO.next (gf c.1.3 [],
 true,()))) (some (LO.next (false,true,())))) (some (LO.next (false,true,())))) (ak (aj (D.aO c.1.1 5) (some (LO.next (true,()))) (ak (aj
 (D.aO c.1.1 6) (some (LO.next (true,()))) (some (LO.next (D.aO c.1.1 7,())))) λ(g:FW)=>LO.jn g (λh=>some (LO.next h)) (λ_ _=>
 none) (λ_ i=>some (LO.ret () i)) λ_ _=>none)) λ(g:FW)=>LO.jn g (λh=>ak (aj h.1 (aj (D.aO (aq c.1.4) 1) (aj (D.aO c.1.2
 0) (some (LO.next (gf c.1.3 [],true,()))) (some (LO.next (false,true,())))) (some (LO.next (false,true,())))) (ak (aj (D.aO c.1.1 8) (aj
 (D.aO (aq c.1.4) 0) (aj (D.aO c.1.2 0) (ak (F93 n (c.1.3,())) λi=>some (LO.next (i.1.1,true,()))) (some (LO.next (false,true,()))))
 (some (LO.next (false,true,())))) (ak (aj (D.aO c.1.1 9) (aj c.2.1 (aj (D.aO (aq c.1.4) 0) (aj (gf c.1.3 []) (ak (F186 n (c.1.2,0,99,
 ())) λi=>some (LO.next (i.1.1,true,()))) (some (LO.next (false,true,())))) (some (LO.next (false,true,())))) (some (LO.next (false,true,
 ())))) (some (LO.next (false,false,())))) λ(i:KY)=>LO.jn i (λj=>some (LO.next (j.1,false,()))) (λ_ _=>none) (λ_ k=>some
 (LO.ret () k)) λ_ _=>none)) λ(i:KY)=>LO.jn i (λj=>some (LO.next (j.1,false,()))) (λ_ _=>none) (λ_ k=>some (LO.ret () k))
 λ_ _=>none)) λ(i:KY)=>LO.jn i (λj=>some (LO.next (j.1,false,()))) (λ_ _=>none) (λ_ k=>some (LO.ret () k)) λ_ _=>
 none) (λ_ _=>none) (λ_ i=>some (LO.ret () i)) λ_ _=>none)) λ(g:KY)=>LO.jn g (λh=>some (LO.next (h.1,false,()))) (λ_ _
 =>none) (λ_ i=>some (LO.ret () i)) λ_ _=>none)) λ(g:KY)=>LO.jn g (λh=>ak (@iter (Bool×Int×Unit) (Bool×Unit) (Unit) (Any)
 (λi=>aj (D.bN i.2.1 (aq c.1.4)) (aj i.1 (aB (av i.2.1 c.1.4) (ak (f252 (aN c.1.4 (ah i.2.1) mG,c.2)) λj=>some (LO.next
 (j.1.1,D.add .i64 i.2.1 1,())))) (some (LO.out 0 i))) (some (LO.out 0 i))) n (h.1,0,())) λi=>LO.el i (λ_ k=>some ((k.1,()),())) (λ_
 k=>some (k,())) λ_ _=>none) (λ_ _=>none) (λ_ i=>some (i,())) λ_ _=>none) (λ_ _=>none) (λ_ g=>some (g,())) λ_ _=>
 none
def D252(n:Nat)(f252:Fn P92 K4 false)(apd:bC prog 252 (Vp f252)):bC prog 252 (Vp (B252 n f252)):=cq [k93 n,Wc n,⟨252,Vp f252,apd⟩] [(252,1,⟨[(6,cZ),(7,cW)],[],[],0⟩),(252,1000005,⟨[(13,cZ)],[],[],0⟩),(252,1000006,⟨[(13,cZ)],[],[],0⟩),(252,1000007,⟨[(6,cZ),(13,cZ)],[],[],0⟩),(252,1000009,⟨[(6,cZ),(29,cZ)],[],[],0⟩),(252,1000011,⟨[(43,cZ)],[],[],0⟩),(252,1000012,⟨[(43,cZ)],[],[],0⟩),(252,1000013,⟨[(6,cZ),(43,cZ)],[],[],0⟩),(252,1000015,⟨[(6,cZ),(59,cZ)],[],[],0⟩),(252,1000017,⟨[(6,cZ),(73,cZ)],[],[],0⟩)] n 10 252
def R252(n k:Nat):(Fn P92 K4 false):=Nat.rec (motive:=λ_=>(Fn P92 K4 false)) (λ_=>none) (λ_ r=>B252 n r) k
def F252(n:Nat):Fn P92 K4 false:=(R252 n n)
def acI(n:Nat):∀k,bC prog 252 (Vp (R252 n k))
 |0=>bY (enters 252 (by kernel_rfl))
 |k+1=>have ih:=acI n k
  D252 n _ ih
def amn(n:Nat):OC:=⟨252,Vp (F252 n),(acI n n)⟩
def F188:Nat->ck×Unit->Option fe:=
 λn b=>ak (F251 n (ck.mk b.1.1 b.1.2 b.1.3 b.1.4,12,())) λc=>aj (D.eu 0 c.1.1) (ak (F252 n (ck.mk b.1.1 b.1.2 b.1.3 b.1.4,
 false,())) λd=>some d) (some ((false,()),()))
def ag8(n:Nat):OC:=⟨188,⟨P93,K4,false,F188 n⟩,cq [amo n,amn n] [] n 10 188⟩
def F187:Nat->jK×Unit->Option fe:=
 λn b=>ak (F93 n (b.1.1,())) λc=>aj (D.aM c.1.1) (some ((false,()),())) (ak (F186 n (aq b.1.2,1,5,())) λd=>aj (D.aM
 d.1.1) (some ((false,()),())) (ak (@iter (Int×Unit) (Bool×Unit) (Unit) (Any) (λe=>aj (D.bN e.1 (aq b.1.2)) (aB (av e.1 b.1.2) (ak
 (F93 n ((aN b.1.2 (ah e.1) gT).1,())) λg=>aj (D.aM g.1.1) (some (LO.ret () (false,()))) (aj (D.bN 3 (aq (aN b.1.2 (ah e.1)
 gT).2)) (some (LO.ret () (false,()))) (ak (@iter (Int×Unit) (Bool×Unit) (Unit) (Any) (λh=>aj (D.bN h.1 (aq (aN b.1.2 (ah
 e.1) gT).2)) (aB (av h.1 (aN b.1.2 (ah e.1) gT).2) (ak (F188 n (aN (aN b.1.2 (ah e.1) gT).2 (ah h.1) mG,
 ())) λi=>aj (D.aM i.1.1) (some (LO.ret () (false,()))) (some (LO.next (D.add .i64 h.1 1,()))))) (some (LO.out 0 h))) n (0,())) λh=>
 LO.el h (λ_ _=>some (LO.next (D.add .i64 e.1 1,()))) (λ_ j=>some (LO.ret () j)) λ_ _=>none)))) (some (LO.out 0 e))) n (0,())) λe=>
 LO.el e (λ_ _=>some ((true,()),())) (λ_ h=>some (h,())) λ_ _=>none))
def amZ(n:Nat):OC:=⟨187,⟨P94,K4,false,F187 n⟩,cq [k93 n,Wc n,ag8 n] [(187,0,⟨[(3,cW)],[],[],0⟩),(187,2,⟨[(5,cW)],[],[],0⟩)] n 10 187⟩
abbrev Vo(F:Fn P95 K2 false):lF sg:=⟨P95,K2,false,F⟩
def B253:Nat->(Y57->Dv)->Y57->Dv:=
 λn f253 c=>aj (D.bN c.2.1 1) (some (((-1),()),())) (aj (D.bN c.2.2.1 1) (some (((-1),()),())) (ak (@iter (Int×Int×Unit) (Int×Unit)
 (Unit) (Any) (λd=>aj (D.bN d.2.1 (aq c.1.4)) (aj (D.eu 0 d.1) (aB (av d.2.1 c.1.4) (ak (f253 (aN c.1.4 (ah d.2.1) ql,d.1,D.dN .i64
 c.2.2.1 1,())) λe=>some (LO.next (e.1.1,D.add .i64 d.2.1 1,())))) (some (LO.out 0 d))) (some (LO.out 0 d))) n (D.dN .i64 c.2.1 1,0,())) λ
 d=>LO.el d (λ_ g=>some ((g.1,()),())) (λ_ g=>some (g,())) λ_ _=>none))
def D253(n:Nat)(f253:Fn P95 K2 false)(apc:bC prog 253 (Vo f253)):bC prog 253 (Vo (B253 n f253)):=cq [⟨253,Vo f253,apc⟩] [(253,0,⟨[(1,cW),(7,cW)],[],[],0⟩)] n 10 253
def R253(n k:Nat):(Fn P95 K2 false):=Nat.rec (motive:=λ_=>(Fn P95 K2 false)) (λ_=>none) (λ_ r=>B253 n r) k
def F253(n:Nat):Fn P95 K2 false:=(R253 n n)
def acH(n:Nat):∀k,bC prog 253 (Vo (R253 n k))
 |0=>bY (enters 253 (by kernel_rfl))
 |k+1=>have ih:=acH n k
  D253 n _ ih
def amm(n:Nat):OC:=⟨253,Vo (F253 n),(acH n n)⟩
def Ys(n:Nat)(b:aff):Option fe:=
 aj b.2.2.2.1 (some ((true,()),())) (some ((D.aO (aq b.1.5) 0,()),()))
def Yr(n:Nat)(b:aff):Option fe:=
 aj b.2.2.1 (Ys n b) (aj (gf b.1.3 []) (Ys n b) (some ((false,()),())))
def F308:Nat->aff->Option fe:=
 λn b=>aj b.2.1 (Yr n b) (aj (D.aO b.1.2 0) (Yr n b) (some ((false,()),())))
def al7(n:Nat):OC:=⟨308,⟨P96,K4,false,F308 n⟩,cq [] [] n 10 308⟩
def Ge(b:Term×Unit):Term:=
 Term.mk b.1.1 b.1.2 b.1.3 b.1.4 b.1.5
def Qb(n:Nat)(b:Term×Unit):Option fe:=
 F308 n (Ge b,true,false,false,())
def iU(n:Nat):Option fe:=
 some ((false,()),())
def Yu(n:Nat):FW->Option FW:=
 λc=>LO.jn c (λd=>some (LO.next d)) (λ_ _=>none) (λ_ e=>some (LO.ret () e)) λ_ _=>none
def KA(n:Nat)(b:Term×Unit):Option fe:=
 ak (F308 n (Ge b,false,false,false,())) λe=>some e
def Qa(n:Nat)(b:Term×Unit):Option fe:=
 ak (F308 n (Ge b,false,true,false,())) λe=>aj e.1.1 (ak (F185 n (b.1.3,())) λg=>some g) (iU n)
def Kz(n:Nat):FW->Option FW:=
 λh=>LO.jn h (λi=>some (LO.next i)) (λ_ _=>none) (λ_ j=>some (LO.ret () j)) λ_ _=>none
def BB(n:Nat):FW->Option FW:=
 λj=>LO.jn j (λk=>some (LO.next k)) (λ_ _=>none) (λ_ l=>some (LO.ret () l)) λ_ _=>none
def Ky(n:Nat):Unit->Bool×Unit->Option fe:=
 λ_ l=>some (l,())
def F291:Y86:=
 λn b=>aj (D.aO b.1.1 1) (aj (D.aO (aq b.1.4) 0) (ak (Qb n b) λc=>aj c.1.1 (ak (F186 n (b.1.2,(-1000000000),1000000000,()))
 λd=>some d) (iU n)) (iU n)) (aj (D.aO b.1.1 2) (aj (D.aO (aq b.1.4) 0) (ak (Qb n b) λc=>aj c.1.1 (ak (F186 n (b.1.2,0,
 1,())) λd=>some d) (iU n)) (iU n)) (ak (aj (D.aO b.1.1 3) (some (LO.next (true,()))) (ak (aj (D.aO b.1.1 21) (some (LO.next (true,
 ()))) (ak (aj (D.aO b.1.1 25) (some (LO.next (true,()))) (some (LO.next (D.aO b.1.1 28,())))) (Yu n))) (Yu n))) λ(c:FW)=>LO.jn c
 (λd=>aj d.1 (aj (D.aO (aq b.1.4) 0) (KA n b) (iU n)) (aj (D.aO b.1.1 4) (aj (D.aO (aq b.1.4) 0) (Qa n b) (iU n)) (ak
 (aj (D.aO b.1.1 5) (some (LO.next (true,()))) (some (LO.next (D.aO b.1.1 27,())))) λ(e:FW)=>LO.jn e (λg=>aj g.1 (aj (D.aO (aq
 b.1.4) 1) (Qa n b) (iU n)) (aj (D.aO b.1.1 7) (aj (D.aO (aq b.1.4) 2) (Qa n b) (iU n)) (aj (D.aO b.1.1 8) (aj (D.aO (aq
 b.1.4) 3) (KA n b) (iU n)) (aj (D.aO b.1.1 14) (aj (D.eu (aq b.1.4) 3) (ak (F308 n (Ge b,false,true,false,())) λh=>aj
 h.1.1 (ak (F93 n (b.1.3,())) λi=>some i) (iU n)) (iU n)) (aj (D.aO b.1.1 15) (ak (F186 n (aq b.1.5,1,5,())) λh=>aj h.1.1
 (aj (D.aO (aq b.1.4) (D.add .i64 1 (aq b.1.5))) (ak (F308 n (Ge b,false,false,true,())) λi=>some i) (iU n)) (iU n)) (ak
 (aj (D.aO b.1.1 16) (some (LO.next (true,()))) (ak (aj (D.aO b.1.1 17) (some (LO.next (true,()))) (ak (aj (D.aO b.1.1 19) (some (LO.next
 (true,()))) (ak (aj (D.aO b.1.1 20) (some (LO.next (true,()))) (ak (aj (D.aO b.1.1 23) (some (LO.next (true,()))) (some (LO.next (D.aO b.1.1
 26,())))) (Kz n))) (Kz n))) (Kz n))) (Kz n))) λ(h:FW)=>LO.jn h (λi=>aj i.1 (aj (D.aO (aq b.1.4) 1) (KA n b)
 (iU n)) (aj (D.aO b.1.1 24) (aj (D.aO (aq b.1.4) 1) (ak (Qb n b) λj=>aj j.1.1 (ak (F186 n (b.1.2,0,3,())) λk=>some k)
 (iU n)) (iU n)) (ak (aj (D.aO b.1.1 6) (some (LO.next (true,()))) (ak (aj (D.aO b.1.1 9) (some (LO.next (true,()))) (ak (aj (D.aO
 b.1.1 10) (some (LO.next (true,()))) (ak (aj (D.aO b.1.1 11) (some (LO.next (true,()))) (ak (aj (D.aO b.1.1 12) (some (LO.next (true,())))
 (ak (aj (D.aO b.1.1 13) (some (LO.next (true,()))) (ak (aj (D.aO b.1.1 18) (some (LO.next (true,()))) (some (LO.next (D.aO b.1.1 22,()))))
 (BB n))) (BB n))) (BB n))) (BB n))) (BB n))) (BB n))) λ(j:FW)=>LO.jn j (λk=>aj k.1 (aj (D.aO (aq b.1.4) 2)
 (KA n b) (iU n)) (iU n)) (λ_ _=>none) (Ky n) λ_ _=>none))) (λ_ _=>none) (Ky n) λ_ _=>none)))))) (λ_ _=>
 none) (Ky n) λ_ _=>none))) (λ_ _=>none) (Ky n) λ_ _=>none))
def amd(n:Nat):OC:=⟨291,⟨P97,K4,false,F291 n⟩,cq [k93 n,adv n,Wc n,al7 n] [(291,1000008,⟨[(35,cZ)],[],[],0⟩),(291,1000009,⟨[(35,cZ)],[],[],0⟩),(291,1000010,⟨[(35,cZ)],[],[],0⟩),(291,1000015,⟨[(59,cZ)],[],[],0⟩),(291,1000026,⟨[(125,cZ)],[],[],0⟩),(291,1000027,⟨[(125,cZ)],[],[],0⟩),(291,1000028,⟨[(125,cZ)],[],[],0⟩),(291,1000029,⟨[(125,cZ)],[],[],0⟩),(291,1000030,⟨[(125,cZ)],[],[],0⟩),(291,1000035,⟨[(151,cZ)],[],[],0⟩),(291,1000036,⟨[(151,cZ)],[],[],0⟩),(291,1000037,⟨[(151,cZ)],[],[],0⟩),(291,1000038,⟨[(151,cZ)],[],[],0⟩),(291,1000039,⟨[(151,cZ)],[],[],0⟩),(291,1000040,⟨[(151,cZ)],[],[],0⟩),(291,1000041,⟨[(151,cZ)],[],[],0⟩)] n 10 291⟩
def F94:ajc:=
 λn b=>ak (@iter (Int×Unit) (Bool×Unit) (Unit) (Any) (λc=>aj (D.bN c.1 (aq b.1)) (aB (eW 0 c.1 (aq b.1)) (aB (av c.1 b.1)
 (ak (F142 n (eo b.1 0 c.1,aN b.1 (ah c.1) [],())) λd=>aj d.1.1 (some (LO.ret () (false,()))) (some (LO.next (D.add .i64 c.1 1,()))))))
 (some (LO.out 0 c))) n (0,())) λc=>LO.el c (λ_ _=>some ((true,()),())) (λ_ e=>some (e,())) λ_ _=>none
def k94(n:Nat):OC:=⟨94,⟨P9,K4,false,F94 n⟩,cq [aaa n] [(94,0,⟨[(3,cW)],[],[],0⟩)] n 10 94⟩
abbrev Vm(F:Fn P3 K72 false):lF sg:=⟨P3,K72,false,F⟩
def B255:Nat->(aC×Unit->Option (T9×Unit))->aC×Unit->Option (T9×Unit):=
 λn f255 c=>aj (D.aO c.1.1 2) (some (([c.1.3],()),())) (ak (@iter (Uc) (T9) (Unit) (Any) (λd=>aj (D.bN d.2.1 (aq c.1.4)) (aB
 (av d.2.1 c.1.4) (ak (f255 (aN c.1.4 (ah d.2.1) aK,())) λe=>aB (cY d.1 e.1.1) (some (LO.next (cM d.1 e.1.1,D.add .i64 d.2.1 1,
 ()))))) (some (LO.out 0 d))) n ([],0,())) λd=>LO.el d (λ_ g=>some ((g.1,()),())) (λ_ g=>some (g,())) λ_ _=>none)
def D255(n:Nat)(f255:Fn P3 K72 false)(apa:bC prog 255 (Vm f255)):bC prog 255 (Vm (B255 n f255)):=cq [⟨255,Vm f255,apa⟩] [(255,0,⟨[(3,.one (.own (.str))),(4,cW)],[],[],0⟩)] n 10 255
def R255(n k:Nat):(Fn P3 K72 false):=Nat.rec (motive:=λ_=>(Fn P3 K72 false)) (λ_=>none) (λ_ r=>B255 n r) k
def F255(n:Nat):Fn P3 K72 false:=(R255 n n)
def acF(n:Nat):∀k,bC prog 255 (Vm (R255 n k))
 |0=>bY (enters 255 (by kernel_rfl))
 |k+1=>have ih:=acF n k
  D255 n _ ih
def ag1(n:Nat):OC:=⟨255,Vm (F255 n),(acF n n)⟩
abbrev Vj(F:Fn P3 K4 false):lF sg:=⟨P3,K4,false,F⟩
def B309:Y37:=
 λn f309 c=>ak (aj (D.aO c.1.1 1) (some (LO.next (true,()))) (some (LO.next (D.aO c.1.1 5,())))) λ(d:FW)=>LO.jn d (λe=>ak (aj
 e.1 (aj (D.aO (aq c.1.4) 0) (aj (D.aO c.1.2 0) (some (LO.next (gf c.1.3 [],true,()))) (some (LO.next (false,true,())))) (some (LO.next
 (false,true,())))) (ak (aj (D.aO c.1.1 2) (aj (D.aO (aq c.1.4) 0) (aj (D.aO c.1.2 0) (ak (F185 n (c.1.3,())) λg=>some (LO.next
 (g.1.1,true,()))) (some (LO.next (false,true,())))) (some (LO.next (false,true,())))) (ak (aj (D.aO c.1.1 3) (aj (D.aO (aq c.1.4) 0) (aj
 (gf c.1.3 []) (ak (F186 n (c.1.2,(-1000000000),1000000000,())) λg=>some (LO.next (g.1.1,true,()))) (some (LO.next (false,true,()))))
 (some (LO.next (false,true,())))) (ak (aj (D.aO c.1.1 4) (aj (D.aO (aq c.1.4) 0) (aj (gf c.1.3 []) (ak (F186 n (c.1.2,0,1,())) λg=>
 some (LO.next (g.1.1,true,()))) (some (LO.next (false,true,())))) (some (LO.next (false,true,())))) (ak (aj (D.aO c.1.1 6) (aj (D.eu (aq
 c.1.4) 3) (aj (D.aO c.1.2 0) (ak (F93 n (c.1.3,())) λg=>some (LO.next (g.1.1,true,()))) (some (LO.next (false,true,())))) (some (LO.next
 (false,true,())))) (some (LO.next (false,false,())))) λ(g:KY)=>LO.jn g (λh=>some (LO.next (h.1,false,()))) (λ_ _=>none) (λ_
 i=>some (LO.ret () i)) λ_ _=>none)) λ(g:KY)=>LO.jn g (λh=>some (LO.next (h.1,false,()))) (λ_ _=>none) (λ_ i=>some
 (LO.ret () i)) λ_ _=>none)) λ(g:KY)=>LO.jn g (λh=>some (LO.next (h.1,false,()))) (λ_ _=>none) (λ_ i=>some (LO.ret () i))
 λ_ _=>none)) λ(g:KY)=>LO.jn g (λh=>some (LO.next (h.1,false,()))) (λ_ _=>none) (λ_ i=>some (LO.ret () i)) λ_ _=>
 none)) λ(g:KY)=>LO.jn g (λh=>ak (@iter (Bool×Int×Unit) (Bool×Unit) (Unit) (Any) (λi=>aj (D.bN i.2.1 (aq c.1.4)) (aj i.1
 (aB (av i.2.1 c.1.4) (ak (f309 (aN c.1.4 (ah i.2.1) aK,())) λj=>some (LO.next (j.1.1,D.add .i64 i.2.1 1,())))) (some (LO.out 0
 i))) (some (LO.out 0 i))) n (h.1,0,())) λi=>LO.el i (λ_ k=>some ((k.1,()),())) (λ_ k=>some (k,())) λ_ _=>none) (λ_ _=>
 none) (λ_ i=>some (i,())) λ_ _=>none) (λ_ _=>none) (λ_ g=>some (g,())) λ_ _=>none
def D309(n:Nat)(f309:Fn P3 K4 false)(ao3:bC prog 309 (Vj f309)):bC prog 309 (Vj (B309 n f309)):=cq [k93 n,adv n,Wc n,⟨309,Vj f309,ao3⟩] [(309,1,⟨[(4,cZ),(5,cW)],[],[],0⟩),(309,1000005,⟨[(11,cZ)],[],[],0⟩),(309,1000006,⟨[(4,cZ),(11,cZ)],[],[],0⟩),(309,1000008,⟨[(4,cZ),(26,cZ)],[],[],0⟩),(309,1000010,⟨[(4,cZ),(40,cZ)],[],[],0⟩),(309,1000012,⟨[(4,cZ),(54,cZ)],[],[],0⟩),(309,1000014,⟨[(4,cZ),(68,cZ)],[],[],0⟩)] n 10 309
def R309(n k:Nat):(Fn P3 K4 false):=Nat.rec (motive:=λ_=>(Fn P3 K4 false)) (λ_=>none) (λ_ r=>B309 n r) k
def F309(n:Nat):Fn P3 K4 false:=(R309 n n)
def acC(n:Nat):∀k,bC prog 309 (Vj (R309 n k))
 |0=>bY (enters 309 (by kernel_rfl))
 |k+1=>have ih:=acC n k
  D309 n _ ih
def al6(n:Nat):OC:=⟨309,Vj (F309 n),(acC n n)⟩
def F292:Y11:=
 λn b=>ak (F83 n (aC.mk b.1.1 b.1.2 b.1.3 b.1.4,12,())) λc=>aj (D.eu 0 c.1.1) (ak (F309 n (aC.mk b.1.1 b.1.2 b.1.3 b.1.4,()))
 λd=>aj d.1.1 (ak (F255 n (aC.mk b.1.1 b.1.2 b.1.3 b.1.4,())) λe=>ak (F94 n e.1) λg=>some g) (some ((false,()),()))) (some
 ((false,()),()))
def amc(n:Nat):OC:=⟨292,⟨P3,K4,false,F292 n⟩,cq [k83 n,k94 n,ag1 n,al6 n] [] n 10 292⟩
abbrev Vn(F:Fn P97 K4 false):lF sg:=⟨P97,K4,false,F⟩
def B254:Nat->(Term×Unit->Option fe)->Term×Unit->Option fe:=
 λn f254 c=>ak (F291 n (Term.mk c.1.1 c.1.2 c.1.3 c.1.4 c.1.5,())) λd=>aj (D.aM d.1.1) (some ((false,()),())) (ak (@iter (Int×Unit)
 (Bool×Unit) (Unit) (Any) (λe=>aj (D.bN e.1 (aq c.1.5)) (aB (av e.1 c.1.5) (ak (F292 n (aN c.1.5 (ah e.1) aK,())) λg=>aj
 (D.aM g.1.1) (some (LO.ret () (false,()))) (some (LO.next (D.add .i64 e.1 1,()))))) (some (LO.out 0 e))) n (0,())) λe=>LO.el e (λ_ _=>
 ak (@iter (Int×Unit) (Bool×Unit) (Unit) (Any) (λi=>aj (D.bN i.1 (aq c.1.4)) (aB (av i.1 c.1.4) (ak (f254 (aN c.1.4 (ah i.1) ql,
 ())) λj=>aj (D.aM j.1.1) (some (LO.ret () (false,()))) (some (LO.next (D.add .i64 i.1 1,()))))) (some (LO.out 0 i))) n (0,())) λi=>
 LO.el i (λ_ _=>some ((true,()),())) (λ_ k=>some (k,())) λ_ _=>none) (λ_ h=>some (h,())) λ_ _=>none)
def D254(n:Nat)(f254:Fn P97 K4 false)(apb:bC prog 254 (Vn f254)):bC prog 254 (Vn (B254 n f254)):=cq [⟨254,Vn f254,apb⟩,amd n,amc n] [(254,0,⟨[(3,cW)],[],[],0⟩),(254,2,⟨[(4,cW)],[],[],0⟩)] n 10 254
def R254(n k:Nat):(Fn P97 K4 false):=Nat.rec (motive:=λ_=>(Fn P97 K4 false)) (λ_=>none) (λ_ r=>B254 n r) k
def F254(n:Nat):Fn P97 K4 false:=(R254 n n)
def acG(n:Nat):∀k,bC prog 254 (Vn (R254 n k))
 |0=>bY (enters 254 (by kernel_rfl))
 |k+1=>have ih:=acG n k
  D254 n _ ih
def aml(n:Nat):OC:=⟨254,Vn (F254 n),(acG n n)⟩
def F189:Y86:=
 λn b=>ak (F253 n (Term.mk b.1.1 b.1.2 b.1.3 b.1.4 b.1.5,60,14,())) λc=>aj (D.eu 0 c.1.1) (ak (F254 n (Term.mk b.1.1 b.1.2 b.1.3 b.1.4
 b.1.5,())) λd=>some d) (some ((false,()),()))
def amY(n:Nat):OC:=⟨189,⟨P97,K4,false,F189 n⟩,cq [amm n,aml n] [] n 10 189⟩
def kP(b:dS×Unit)(i:Int×Unit):cD:=
 aN b.1.3 (ah i.1) dG
def Gm(n:Nat):Option (LO (Int×Unit) (Bool×Unit) Unit Any):=
 some (LO.ret () (false,()))
def F138:Nat->dS×Unit->Option fe:=
 λn b=>ak (F185 n (b.1.1,())) λc=>aj (D.aM c.1.1) (some ((false,()),())) (aj (D.bN 4 (aq b.1.2)) (some ((false,()),())) (ak
 (F186 n (aq b.1.3,1,5,())) λd=>aj (D.aM d.1.1) (some ((false,()),())) (ak (@iter (Int×Unit) (Bool×Unit) (Unit) (Any) (λe=>aj
 (D.bN e.1 (aq b.1.2)) (aB (av e.1 b.1.2) (ak (F187 n (aN b.1.2 (ah e.1) kV,())) λg=>aj (D.aM g.1.1) (some (LO.ret () (false,
 ()))) (some (LO.next (D.add .i64 e.1 1,()))))) (some (LO.out 0 e))) n (0,())) λe=>LO.el e (λ_ _=>ak (@iter (Int×Unit) (Bool×Unit)
 (Unit) (Any) (λi=>aj (D.bN i.1 (aq b.1.3)) (aB (av i.1 b.1.3) (ak (F185 n ((kP b i).1,())) λj=>aj (D.aM j.1.1) (Gm n)
 (ak (F185 n ((kP b i).2,())) λk=>aj (D.aM k.1.1) (Gm n) (ak (F188 n (ck.mk (kP b i).3.1 (kP b i).3.2 (kP b i).3.3
 (kP b i).3.4,())) λl=>aj (D.aM l.1.1) (Gm n) (ak (F188 n (ck.mk (kP b i).4.1 (kP b i).4.2 (kP b i).4.3 (kP b
 i).4.4,())) λm=>aj (D.aM m.1.1) (Gm n) (ak (F189 n (Term.mk (kP b i).5.1 (kP b i).5.2 (kP b i).5.3 (kP b i).5.4 (kP b
 i).5.5,())) λo=>aj (D.aM o.1.1) (Gm n) (some (LO.next (D.add .i64 i.1 1,()))))))))) (some (LO.out 0 i))) n (0,())) λi=>LO.el i (λ
 _ _=>some ((true,()),())) (λ_ k=>some (k,())) λ_ _=>none) (λ_ h=>some (h,())) λ_ _=>none)))
def ahf(n:Nat):OC:=⟨138,⟨P98,K4,false,F138 n⟩,cq [adv n,Wc n,amZ n,ag8 n,amY n] [(138,0,⟨[(3,cW)],[],[],0⟩),(138,2,⟨[(4,cW)],[],[],0⟩)] n 10 138⟩
def F85:Nat->List UInt8×Unit->Option ((dS×Int×Unit)×Unit):=
 λn b=>ak (F179 n b) λc=>aj (D.aM (D.aO c.1.2.1 0)) (some ((jH,c.1.2),())) (ak (F136 n ((c.1.1,0,false,()),())) λd=>
 ak (F137 n (bD.mk d.2.1.1 d.2.1.2.1 d.2.1.2.2.1,())) λe=>aj (D.aM e.1.1) (some ((jH,4,()),())) (ak (F138 n d.1)
 λg=>aj (D.aM g.1.1) (some ((jH,2,()),())) (some ((d.1.1,0,()),()))))
def k85(n:Nat):OC:=⟨85,⟨P7,K99,false,F85 n⟩,cq [ann n,anm n,ahf n,am2 n] [] n 10 85⟩
def F139:Nat->dS×Unit->Option (T9×Unit):=
 λn b=>ak (@iter (Uc) (T9) (Unit) (Any) (λc=>aj (D.bN c.2.1 (aq b.1.3)) (aB (av c.2.1 b.1.3) (aB (cY c.1 [(aN b.1.3 (ah
 c.2.1) dG).1]) (some (LO.next (cM c.1 [(aN b.1.3 (ah c.2.1) dG).1],D.add .i64 c.2.1 1,()))))) (some (LO.out 0 c))) n ([],0,
 ())) λc=>LO.el c (λ_ e=>some ((e.1,()),())) (λ_ e=>some (e,())) λ_ _=>none
def anl(n:Nat):OC:=⟨139,⟨P98,K72,false,F139 n⟩,cq [] [(139,0,⟨[(3,.one (.own (.str))),(4,cW)],[],[],0⟩)] n 10 139⟩
def YE(b:dS×Unit)(c:abo)(d:abo):List cz:=
 [cz.mk (aN (aN b.1.2 (ah c.2.1) kV).2 (ah d.2.1) gT).1 (aq (aN (aN b.1.2 (ah c.2.1) kV).2 (ah d.2.1)
 gT).2)]
def F140:Nat->dS×Unit->Option ((List cz×Unit)×Unit):=
 λn b=>ak (@iter (abo) (List cz×Unit) (Unit) (Any) (λc=>aj (D.bN c.2.1 (aq b.1.2)) (ak (@iter (abo) (List cz×Unit)
 (Unit) (Any) (λd=>aB (av c.2.1 b.1.2) (aj (D.bN d.2.1 (aq (aN b.1.2 (ah c.2.1) kV).2)) (aB (av c.2.1 b.1.2) (aB (av d.2.1
 (aN b.1.2 (ah c.2.1) kV).2) (aB (cY d.1 (YE b c d)) (some (LO.next (cM d.1 (YE b c d),D.add .i64 d.2.1 1,())))))) (some
 (LO.out 0 d)))) n (c.1,0,())) λd=>LO.el d (λ_ g=>some (LO.next (g.1,D.add .i64 c.2.1 1,()))) (λ_ g=>some (LO.ret () g)) λ_ _=>
 none) (some (LO.out 0 c))) n ([],0,())) λc=>LO.el c (λ_ e=>some ((e.1,()),())) (λ_ e=>some (e,())) λ_ _=>none
def anj(n:Nat):OC:=⟨140,⟨P98,K100,false,F140 n⟩,cq [] [(140,0,⟨[(3,.one (.own (.st 2))),(4,cW)],[],[],0⟩),(140,2,⟨[(3,.one (.own (.st 2))),(5,cW)],[],[],0⟩)] n 10 140⟩
def F141:Nat->List cz×Unit->Option (T9×Unit):=
 λn b=>ak (@iter (Uc) (T9) (Unit) (Any) (λc=>aj (D.bN c.2.1 (aq b.1)) (aB (av c.2.1 b.1) (aB (cY c.1 [(aN b.1 (ah c.2.1)
 bE).1]) (some (LO.next (cM c.1 [(aN b.1 (ah c.2.1) bE).1],D.add .i64 c.2.1 1,()))))) (some (LO.out 0 c))) n ([],0,())) λc=>
 LO.el c (λ_ e=>some ((e.1,()),())) (λ_ e=>some (e,())) λ_ _=>none
def ani(n:Nat):OC:=⟨141,⟨ajM,K72,false,F141 n⟩,cq [] [(141,0,⟨[(3,.one (.own (.str))),(4,cW)],[],[],0⟩)] n 10 141⟩
def F190:Nat->List cz×List UInt8×Unit->Dv:=
 λn b=>ak (@iter (Int×Unit) (Int×Unit) (Unit) (Any) (λc=>aj (D.bN c.1 (aq b.1)) (aB (av c.1 b.1) (aj (gf (aN b.1 (ah c.1)
 bE).1 b.2.1) (some (LO.ret () c)) (some (LO.next (D.add .i64 c.1 1,()))))) (some (LO.out 0 c))) n (0,())) λc=>LO.el c (λ_ _=>some
 (((-1),()),())) (λ_ e=>some (e,())) λ_ _=>none
def Z9(n:Nat):OC:=⟨190,⟨aqV,K2,false,F190 n⟩,cq [] [(190,0,⟨[(5,cW)],[],[],0⟩)] n 10 190⟩
abbrev Vu(F:Fn Un K4 false):lF sg:=⟨Un,K4,false,F⟩
def B191:Nat->(Y12->Option fe)->Y12->Option fe:=
 λn f191 c=>ak (aj (D.aO c.2.1.1 6) (ak (F190 n (c.1.2,c.2.1.3,())) λd=>aj (D.bN d.1.1 0) (some (LO.ret () (false,()))) (aB (av
 d.1.1 c.1.2) (aj (D.aM (D.aO (aN c.1.2 (ah d.1.1) bE).2 (aq c.2.1.4))) (some (LO.ret () (false,()))) (some (LO.next (false,true,
 ())))))) (some (LO.next (false,false,())))) λ(d:KY)=>LO.jn d (λ_=>ak (@iter (Int×Unit) (Bool×Unit) (Unit) (Any) (λg=>aj
 (D.bN g.1 (aq c.2.1.4)) (aB (av g.1 c.2.1.4) (ak (f191 (c.1,aN c.2.1.4 (ah g.1) aK,())) λh=>aj (D.aM h.1.1) (some (LO.ret ()
 (false,()))) (some (LO.next (D.add .i64 g.1 1,()))))) (some (LO.out 0 g))) n (0,())) λg=>LO.el g (λ_ _=>some ((true,()),())) (λ_ i=>
 some (i,())) λ_ _=>none) (λ_ _=>none) (λ_ g=>some (g,())) λ_ _=>none
def D191(n:Nat)(f191:Fn Un K4 false)(apj:bC prog 191 (Vu f191)):bC prog 191 (Vu (B191 n f191)):=cq [Z9 n,⟨191,Vu f191,apj⟩] [(191,0,⟨[(6,cW)],[],[],0⟩),(191,1000002,⟨[(4,cZ),(9,cZ)],[],[],0⟩)] n 10 191
def R191(n k:Nat):(Fn Un K4 false):=Nat.rec (motive:=λ_=>(Fn Un K4 false)) (λ_=>none) (λ_ r=>B191 n r) k
def F191(n:Nat):Fn Un K4 false:=(R191 n n)
def acP(n:Nat):∀k,bC prog 191 (Vu (R191 n k))
 |0=>bY (enters 191 (by kernel_rfl))
 |k+1=>have ih:=acP n k
  D191 n _ ih
def amX(n:Nat):OC:=⟨191,Vu (F191 n),(acP n n)⟩
def F192:Nat->List (List UInt8)×List (List UInt8)×Unit->Option (T9×Unit):=
 λn b=>aB (cY b.1 b.2.1) (some ((cM b.1 b.2.1,()),()))
def ag7(n:Nat):OC:=⟨192,⟨aqU,K72,false,F192 n⟩,cq [] [] n 10 192⟩
def F193:Nat->Term×Int×Unit->Option (T9×Unit):=
 λn b=>ak (aj (D.aO b.1.1 5) (some (LO.next (true,()))) (some (LO.next (D.aO b.1.1 27,())))) λ(c:LO (Bool×Unit) T9 Unit Any)=>LO.jn
 c (λd=>aj d.1 (some (([b.1.3],()),())) (aj (D.aO b.1.1 7) (aj (D.aO b.2.1 1) (some (([b.1.3],()),())) (some (([],()),()))) (aj (D.aO
 b.1.1 15) (aj (D.bN 0 b.2.1) (aB (av (D.dN .i64 b.2.1 1) b.1.5) (ak (F255 n (aN b.1.5 (ah (D.dN .i64 b.2.1 1)) aK,())) λe=>
 some e)) (some (([],()),()))) (some (([],()),()))))) (λ_ _=>none) (λ_ e=>some (e,())) λ_ _=>none
def ag6(n:Nat):OC:=⟨193,⟨aqT,K72,false,F193 n⟩,cq [ag1 n] [(193,1000003,⟨[(7,cZ)],[],[],0⟩)] n 10 193⟩
abbrev VA(F:Fn Um K4 false):lF sg:=⟨Um,K4,false,F⟩
def B143:Nat->(ajl->Option fe)->ajl->Option fe:=
 λn f143 c=>aj (D.aO c.2.1.1 4) (ak (F142 n (c.2.2.1,c.2.1.3,())) λd=>aj d.1.1 (some ((true,()),())) (ak (F142 n (c.1.1,c.2.1.3,
 ())) λe=>some e)) (ak (aj (D.aO c.2.1.1 14) (ak (F190 n (c.1.2,c.2.1.3,())) λd=>aj (D.bN d.1.1 0) (some (LO.ret () (false,()))) (aB
 (av d.1.1 c.1.2) (aj (D.aM (D.aO (aN c.1.2 (ah d.1.1) bE).2 (aq c.2.1.4))) (some (LO.ret () (false,()))) (some (LO.next (false,true,
 ())))))) (some (LO.next (false,false,())))) λ(d:KY)=>LO.jn d (λ_=>ak (@iter (Int×Unit) (Bool×Unit) (Unit) (Any) (λg=>aj
 (D.bN g.1 (aq c.2.1.5)) (aB (av g.1 c.2.1.5) (ak (F191 n (c.1,aN c.2.1.5 (ah g.1) aK,())) λh=>aj (D.aM h.1.1) (some (LO.ret
 () (false,()))) (some (LO.next (D.add .i64 g.1 1,()))))) (some (LO.out 0 g))) n (0,())) λg=>LO.el g (λ_ _=>ak (@iter (Int×Unit) (Bool×
 Unit) (Unit) (Any) (λj=>aj (D.bN j.1 (aq c.2.1.4)) (aB (av j.1 c.2.1.4) (ak (F193 n (Term.mk c.2.1.1 c.2.1.2 c.2.1.3 c.2.1.4 c.2.1.5,j))
 λk=>ak (F192 n (c.2.2.1,k.1)) λl=>ak (f143 (c.1,aN c.2.1.4 (ah j.1) ql,l.1)) λm=>aj (D.aM m.1.1) (some (LO.ret () (false,
 ()))) (some (LO.next (D.add .i64 j.1 1,()))))) (some (LO.out 0 j))) n (0,())) λj=>LO.el j (λ_ _=>some ((true,()),())) (λ_ l=>some
 (l,())) λ_ _=>none) (λ_ i=>some (i,())) λ_ _=>none) (λ_ _=>none) (λ_ g=>some (g,())) λ_ _=>none)
def D143(n:Nat)(f143:Fn Um K4 false)(apm:bC prog 143 (VA f143)):bC prog 143 (VA (B143 n f143)):=cq [aaa n,⟨143,VA f143,apm⟩,Z9 n,amX n,ag7 n,ag6 n] [(143,0,⟨[(8,cW)],[],[],0⟩),(143,2,⟨[(9,cW)],[],[],0⟩),(143,1000004,⟨[(6,cZ),(28,cZ)],[],[],0⟩)] n 10 143
def R143(n k:Nat):(Fn Um K4 false):=Nat.rec (motive:=λ_=>(Fn Um K4 false)) (λ_=>none) (λ_ r=>B143 n r) k
def F143(n:Nat):Fn Um K4 false:=(R143 n n)
def acS(n:Nat):∀k,bC prog 143 (VA (R143 n k))
 |0=>bY (enters 143 (by kernel_rfl))
 |k+1=>have ih:=acS n k
  D143 n _ ih
def anh(n:Nat):OC:=⟨143,VA (F143 n),(acS n n)⟩
def F144:Nat->ajs->Dv:=
 λn b=>ak (@iter (Int×Unit) (Int×Unit) (Unit) (Any) (λc=>aj (D.eu 0 c.1) (aB (av c.1 b.1) (aj (gf (aN b.1 (ah c.1) []) b.2.1)
 (some (LO.ret () c)) (some (LO.next (D.dN .i64 c.1 1,()))))) (some (LO.out 0 c))) n (D.dN .i64 (aq b.1) 1,())) λc=>LO.el c (λ_ _=>
 some (((-1),()),())) (λ_ e=>some (e,())) λ_ _=>none
def ahe(n:Nat):OC:=⟨144,⟨P71,K2,false,F144 n⟩,cq [] [(144,0,⟨[(5,cW)],[],[],0⟩)] n 10 144⟩
abbrev Vt(F:Fn Ul K86 false):lF sg:=⟨Ul,K86,false,F⟩
def Qv(g:Y24):Ah:=
 (g.2.1.1,g.2.1.2.1,ja (S:=sg) 1 2 (Ty.int .i64) g.2.1.2.2.1 (yx (S:=sg) 1 2 (Ty.int .i64) g.2.1.2.2.1),())
def afQ(h:Y25):Ah:=
 (h.2.1.1,h.2.1.2.1,ja (S:=sg) 1 2 (Ty.int .i64) h.2.1.2.2.1 (yx (S:=sg) 1 2 (Ty.int .i64) h.2.1.2.2.1),())
def YP(c:Y26):Ah:=
 (c.1.1,c.1.2.1,ja (S:=sg) 1 2 (Ty.int .i64) c.1.2.2.1 (yx (S:=sg) 1 2 (Ty.int .i64) c.1.2.2.1),())
def afP(h:Ah×Y9×Unit):Ah:=
 (h.1.1,h.1.2.1,ja (S:=sg) 1 2 (Ty.int .i64) h.1.2.2.1 (yx (S:=sg) 1 2 (Ty.int .i64) h.1.2.2.1),())
def B194:Nat->(Y26->Option Y25)->Y26->Option Y25:=
 λn f194 c=>ak (aj (D.aO c.2.1.1 6) (ak (F190 n (c.1.2.1,c.2.1.3,())) λd=>some (LO.next (true,(c.2.1.1,d.1.1,[],[],()),()))) (some
 (LO.next (false,(c.2.1.1,c.2.1.2,[],[],()),())))) λ(d:LO (Bool×Y9×Unit) Unit (Y9×Unit) Any)=>LO.jn d (λe=>ak (@iter (Y24)
 (Unit) (Ah×Y9×Unit) (Any) (λg=>aj (D.bN g.1 (aq c.2.1.4)) (aB (av g.1 c.2.1.4) (ak (f194 (Qv g,aN c.2.1.4 (ah g.1) aK,
 ())) λh=>aB (cY g.2.2.1.2.2.2.1 [h.1.1]) (some (LO.next (D.add .i64 g.1 1,afQ h,(g.2.2.1.1,g.2.2.1.2.1,g.2.2.1.2.2.1,cM
 g.2.2.1.2.2.2.1 [h.1.1],()),()))))) (some (LO.out 0 (g.1,Qv g,g.2.2)))) n (0,YP c,e.2)) λg=>LO.el g (λ_ i=>some ((aC.mk
 i.2.2.1.1 i.2.2.1.2.1 i.2.2.1.2.2.1 i.2.2.1.2.2.2.1,()),Qv i,())) (λh _=>some ((aK,()),afP h,())) λ_ _=>none) (λ_ _=>
 none) (λ_ _=>some ((aK,()),YP c,())) λ_ _=>none
def D194(n:Nat)(f194:Fn Ul K86 false)(api:bC prog 194 (Vt f194)):bC prog 194 (Vt (B194 n f194)):=cq [Z9 n,⟨194,Vt f194,api⟩] [(194,0,⟨[(6,cW),(0,T3),(0,aeT)],[.slot 0,.slot 5],[],0⟩),(194,1000003,⟨[(14,cZ),(0,aeT)],[.slot 5],[],0⟩)] n 10 194
def R194(n k:Nat):(Fn Ul K86 false):=Nat.rec (motive:=λ_=>(Fn Ul K86 false)) (λ_=>none) (λ_ r=>B194 n r) k
def F194(n:Nat):Fn Ul K86 false:=(R194 n n)
def acO(n:Nat):∀k,bC prog 194 (Vt (R194 n k))
 |0=>bY (enters 194 (by kernel_rfl))
 |k+1=>have ih:=acO n k
  D194 n _ ih
def amW(n:Nat):OC:=⟨194,Vt (F194 n),(acO n n)⟩
abbrev Vz(F:Fn Uk K2 false):lF sg:=⟨Uk,K2,false,F⟩
def Qy(g:Bool×NJ×Unit):NJ×Unit:=
 ((g.2.1.1,g.2.1.2.1,[],g.2.1.2.2.2),())
def Qx(i:afa):List (List Int):=
 yx (S:=sg) 1 2 (Ty.int .i64) i.2.1.2.2.1
def YR(i:afa):Ah:=
 (i.2.1.1,i.2.1.2.1,ja (S:=sg) 1 2 (Ty.int .i64) i.2.1.2.2.1 (Qx i),())
def afT(j:Y25):List (List Int):=
 yx (S:=sg) 1 2 (Ty.int .i64) j.2.1.2.2.1
def afS(j:Y25):Ah:=
 (j.2.1.1,j.2.1.2.1,ja (S:=sg) 1 2 (Ty.int .i64) j.2.1.2.2.1 (afT j),())
def YQ(c:NI):Ah:=
 (c.1.1,c.1.2.1,ja (S:=sg) 1 2 (Ty.int .i64) c.1.2.2.1 (yx (S:=sg) 1 2 (Ty.int .i64) c.1.2.2.1),())
def afR(l:Int×Ah×Unit):List (List Int):=
 yx (S:=sg) 1 2 (Ty.int .i64) l.2.1.2.2.1
def Qw(l:Int×Ah×Unit):Ah:=
 (l.2.1.1,l.2.1.2.1,ja (S:=sg) 1 2 (Ty.int .i64) l.2.1.2.2.1 (afR l),())
def vP(c:NI):Nat:=
 ah (aq c.1.2.2.1)
def Dy(p:PR):List (List Int):=
 yx (S:=sg) 1 2 (Ty.int .i64) p.2.1.2.2.1
def abx(m:Ah×Unit):Ah:=
 (m.1.1,m.1.2.1,ja (S:=sg) 1 2 (Ty.int .i64) m.1.2.2.1 (yx (S:=sg) 1 2 (Ty.int .i64) m.1.2.2.1),())
def abw(n:Nat)(f145:NI->Option PR)(m:Ah×Unit):ae9:=
 λo=>some (o,abx m,())
def abv(j:Ah×NJ×Unit):Ah:=
 (j.1.1,j.1.2.1,ja (S:=sg) 1 2 (Ty.int .i64) j.1.2.2.1 (yx (S:=sg) 1 2 (Ty.int .i64) j.1.2.2.1),())
def abu(n:Nat)(f145:NI->Option PR)(j:Ah×NJ×Unit):ae9:=
 λk=>some (k,abv j,())
def Si(n:Nat)(f145:NI->Option PR)(c:NI):ae9:=
 λi=>some (i,YQ c,())
def B145:Nat->(NI->Option PR)->NI->Option PR:=
 λn f145 c=>ak (aj (D.aO c.2.1.1 4) (ak (F144 n (c.2.2.1,c.2.1.3,())) λd=>ak (aj (D.bN d.1.1 0) (ak (F144 n (c.1.1,c.2.1.3,()))
 λe=>some (LO.next (true,(c.2.1.1,D.dN .i64 (-1) e.1.1,[],[],()),()))) (some (LO.next (false,(c.2.1.1,d.1.1,[],[],()),())))) λ(e :
 ae8)=>LO.jn e (λg=>some (LO.next (true,Qy g))) (λ_ _=>none) (λg h=>some (LO.ret ((g.1.1,g.1.2.1,[],g.1.2.2.2),()) h)) λ_
 _=>none) (some (LO.next (false,(c.2.1.1,c.2.1.2,[],[],()),())))) λ(d:ae8)=>LO.jn d (λe=>ak (aj (D.aO c.2.1.1 14) (ak (F190 n
 (c.1.2.1,c.2.1.3,())) λg=>some (LO.next (true,(e.2.1.1,g.1.1,[],e.2.1.2.2.2),()))) (some (LO.next (false,Qy e)))) λ(g:ae8)=>
 LO.jn g (λh=>ak (@iter (afa) (Int×Unit) (Ah×NJ×Unit) (Any) (λi=>aj (D.bN i.1 (aq c.2.1.5)) (aB (av i.1 c.2.1.5) (ak (F194
 n (YR i,aN c.2.1.5 (ah i.1) aK,())) λj=>aB (cY i.2.2.1.2.2.2.1 [j.1.1]) (some (LO.next (D.add .i64 i.1 1,afS j,(i.2.2.1.1,
 i.2.2.1.2.1,[],cM i.2.2.1.2.2.2.1 [j.1.1],()),()))))) (some (LO.out 0 (i.1,YR i,(i.2.2.1.1,i.2.2.1.2.1,[],i.2.2.1.2.2.2),())))) n (0,
 YQ c,Qy h)) λi=>LO.el i (λ_ k=>aB (D.ey (ZX k.2.1.2.2.1 (Qx k)) (cY k.2.1.2.2.1 [bp.mk k.2.2.1.1 k.2.2.1.2.1 []
 k.2.2.1.2.2.2.1])) (ak (@iter (Int×Ah×Unit) (Int×Unit) (Ah×Unit) (Any) (λl=>aj (D.bN l.1 (aq c.2.1.4)) (aB (av l.1 c.2.1.4) (ak
 (F193 n (Term.mk c.2.1.1 c.2.1.2 c.2.1.3 c.2.1.4 c.2.1.5,l.1,())) λm=>ak (F192 n (c.2.2.1,m.1)) λo=>ak (f145 (Qw l,aN c.2.1.4
 (ah l.1) ql,o.1)) λp=>aB (av (aq c.1.2.2.1) p.2.1.2.2.1) (aB (cw (vP c) p.2.1.2.2.1) (aB (D.ey (cw (vP c) (Dy p))
 (cY (aN (Dy p) (vP c) []) [p.1.1])) (aB (av (aq c.1.2.2.1) p.2.1.2.2.1) (aB (WA (vP c) p.2.1.2.2.1 (vP c) (vP c))
 (some (LO.next (D.add .i64 l.1 1,(p.2.1.1,p.2.1.2.1,ja (S:=sg) 1 2 (Ty.int .i64) p.2.1.2.2.1 (dQ (Dy p) (vP c) (cM (aN (Dy
 p) (vP c) []) [p.1.1])),()),()))))))))) (some (LO.out 0 (l.1,Qw l,())))) n (0,(k.2.1.1,k.2.1.2.1,ja (S:=sg) 1 2 (Ty.int .i64) (cM
 k.2.1.2.2.1 [bp.mk k.2.2.1.1 k.2.2.1.2.1 [] k.2.2.1.2.2.2.1]) (cM (Qx k) [[]]),()),())) λl=>LO.el l (λ_ o=>some ((aq
 c.1.2.2.1,()),Qw o,())) (λm=>abw n f145 m) λ_ _=>none)) (λj=>abu n f145 j) λ_ _=>none) (λ_ _=>none) (λ_=>
 Si n f145 c) λ_ _=>none) (λ_ _=>none) (λ_=>Si n f145 c) λ_ _=>none
def D145(n:Nat)(f145:Fn Uk K2 false)(apl:bC prog 145 (Vz f145)):bC prog 145 (Vz (B145 n f145)):=cq [ahe n,⟨145,Vz f145,apl⟩,Z9 n,ag7 n,ag6 n,amW n] [(145,0,⟨[(9,cW),(0,T3),(0,abe)],[.slot 0,.slot 8],[],0⟩),(145,2,⟨[(10,cW),(0,T3)],[.slot 0],[],0⟩),(145,1000004,⟨[(24,cZ),(0,abe)],[.slot 8],[],0⟩),(145,1000006,⟨[(32,cZ),(0,abe)],[.slot 8],[],0⟩),(145,1000008,⟨[(44,cZ),(0,abe)],[.slot 8],[],0⟩)] n 10 145
def R145(n k:Nat):(Fn Uk K2 false):=Nat.rec (motive:=λ_=>(Fn Uk K2 false)) (λ_=>none) (λ_ r=>B145 n r) k
def F145(n:Nat):Fn Uk K2 false:=(R145 n n)
def acR(n:Nat):∀k,bC prog 145 (Vz (R145 n k))
 |0=>bY (enters 145 (by kernel_rfl))
 |k+1=>have ih:=acR n k
  D145 n _ ih
def ang(n:Nat):OC:=⟨145,Vz (F145 n),(acR n n)⟩
def ajR(b:dS×Unit)(k:Int×Ko×Unit):ajt:=
 (Term.mk (aN b.1.3 (ah k.1) dG).5.1 (aN b.1.3 (ah k.1) dG).5.2 (aN b.1.3 (ah k.1) dG).5.3 (aN b.1.3 (ah k.1)
 dG).5.4 (aN b.1.3 (ah k.1) dG).5.5,[(aN b.1.3 (ah k.1) dG).2],())
def IU(k:Int×Ko×Unit):Ko×Unit:=
 (([],[],k.2.1.2.2.1,[],()),())
def X6(p:afe):List bp:=
 ja (S:=sg) 1 2 (Ty.int .i64) p.2.2.1.2.2.1 (yx (S:=sg) 1 2 (Ty.int .i64) p.2.2.1.2.2.1)
def ajQ(b:dS×Unit)(p:afe):ajt:=
 (Term.mk (aN b.1.3 (ah p.1) dG).5.1 (aN b.1.3 (ah p.1) dG).5.2 (aN b.1.3 (ah p.1) dG).5.3 (aN b.1.3 (ah p.1)
 dG).5.4 (aN b.1.3 (ah p.1) dG).5.5,[(aN b.1.3 (ah p.1) dG).2],())
def F86:Nat->dS×Unit->Option ((aG×Int×Unit)×Unit):=
 λn b=>ak (F138 n b) λc=>aj (D.aM c.1.1) (some ((kW,2,()),())) (ak (F139 n b) λd=>ak (F140 n b) λe=>ak (F94 n d.1)
 λg=>aj (D.aM g.1.1) (some ((kW,7,()),())) (ak (F141 n e.1) λh=>ak (F94 n h.1) λi=>aj (D.aM i.1.1) (some ((kW,
 7,()),())) (ak (F142 n (d.1.1,[109,97,105,110],())) λj=>aj (D.aM j.1.1) (some ((kW,7,()),())) (ak (@iter (Int×Ko×Unit)
 (Int×Unit) (Ko×Unit) (Any) (λk=>aj (D.bN k.1 (aq b.1.3)) (aB (av k.1 b.1.3) (aB (av k.1 b.1.3) (ak (F143 n (dA.mk
 d.1.1 e.1.1 [],ajR b k)) λl=>aj (D.aM l.1.1) (some (LO.ret (([],[],0,[],()),()) (7,()))) (some (LO.next (D.add .i64 k.1 1,IU
 k)))))) (some (LO.out 0 (k.1,IU k)))) n (0,([],[],0,[],()),())) λk=>LO.el k (λ_ m=>ak (F144 n (d.1.1,[109,97,105,110],()))
 λo=>ak (@iter (afe) (Int×Unit) (Ko×Ah×Unit) (Any) (λp=>aj (D.bN p.1 (aq b.1.3)) (aB (cY p.2.1.2.1 [aq p.2.2.1.2.2.1])
 (aB (av p.1 b.1.3) (aB (av p.1 b.1.3) (ak (F145 n ((p.2.2.1.1,p.2.2.1.2.1,X6 p,()),ajQ b p)) λq=>some (LO.next (D.add .i64 p.1 1,
 ([],cM p.2.1.2.1 [aq p.2.2.1.2.2.1],p.2.1.2.2),(q.2.1.1,q.2.1.2.1,ja (S:=sg) 1 2 (Ty.int .i64) q.2.1.2.2.1 (yx (S:=sg) 1 2 (Ty.int .i64)
 q.2.1.2.2.1),()),())))))) (some (LO.out 0 (p.1,([],p.2.1.2),(p.2.2.1.1,p.2.2.1.2.1,X6 p,()),())))) n (0,([],[],o.1.1,e.1),(d.1.1,
 e.1.1,[],()),())) λp=>LO.el p (λ_ r=>ak (@iter (Int×Ko×Unit) (Int×Unit) (Ko×Unit) (Any) (λs=>aj (D.bN s.1 (aq
 r.2.2.1.2.2.1)) (aB (av s.1 r.2.2.1.2.2.1) (aB (cw (ah s.1) r.2.2.1.2.2.1) (aj (D.aO (aN r.2.2.1.2.2.1 (ah s.1) aQ).1 4) (aB (av
 s.1 r.2.2.1.2.2.1) (aB (cw (ah s.1) r.2.2.1.2.2.1) (aj (D.eu 30 (aN r.2.2.1.2.2.1 (ah s.1) aQ).2) (some (LO.ret (([],[],0,[],()),
 ()) (3,()))) (some (LO.next (D.add .i64 s.1 1,IU s)))))) (some (LO.next (D.add .i64 s.1 1,IU s)))))) (some (LO.out 0 (s.1,IU s)))) n (0,
 IU m)) λs=>LO.el s (λ_ _=>some ((aG.mk (X6 r) r.2.1.2.1 r.2.1.2.2.1 r.2.1.2.2.2.1,0,()),())) (λt u=>some ((aG.mk []
 [] t.1.2.2.1 [],u),())) λ_ _=>none) (λ_ r=>some ((aG.mk [] [] m.2.1.2.2.1 [],r),())) λ_ _=>none) (λl m=>some
 ((aG.mk [] [] l.1.2.2.1 [],m),())) λ_ _=>none))))
def k86(n:Nat):OC:=⟨86,⟨P98,K109,false,F86 n⟩,cq [k94 n,ahf n,anl n,anj n,ani n,aaa n,anh n,ahe n,ang n] [(86,0,⟨[(5,cW),(0,aiW)],[.slot 2],[],0⟩),(86,2,⟨[(7,cW),(0,.box (.cells [.nil (.st 1),.own (.int .i64),lD,b8y])),(0,T3)],[.slot 6,.slot 18],[],0⟩),(86,4,⟨[(8,cW),(0,aiW)],[.slot 2],[],0⟩)] n 10 86⟩
def F45:Nat->List UInt8×Unit->aji:=
 λn b=>ak (F85 n b) λc=>ak (F86 n (c.1.1,())) λd=>some ((d.1.1,()),())
def k45(n:Nat):OC:=⟨45,⟨P7,K110,false,F45 n⟩,cq [k85 n,k86 n] [] n 10 45⟩
def acz(n:Nat):aji:=
 F45 n ([109,111,100,117,108,101,32,97,32,123,32,102,117,110,32,109,97,105,110,40,117,32,58,32,117,110,105,116,41,32,58,
 32,105,110,116,32,61,32,108,101,116,32,99,32,61,32,99,101,108,108,40,49,41,32,105,110,32,108,101,116,32,120,32,61,32,
 111,117,116,40,48,44,32,103,101,116,40,99,41,41,32,105,110,32,108,101,116,32,121,32,61,32,112,117,116,40,99,44,32,105,
 110,112,117,116,41,32,105,110,32,103,101,116,40,99,41,32,43,32,49,59,32,125],())
def xB(n:Nat):Option fe:=
 some ((false,()),())
def NW(e:Y80):aS:=
 aN e.1.2.1 (ah 2) aZ
def NV(e:Y80):aS:=
 aN e.1.2.1 (ah 5) aZ
def F13:Nat->Unit->Option fe:=
 λn _=>ak (F45 n ([109,111,100,117,108,101,32,98,32,123,32,102,117,110,32,119,111,114,107,40,99,32,58,32,99,104,97,110,
 32,105,110,116,41,32,58,32,117,110,105,116,32,61,32,108,101,116,32,120,32,61,32,115,101,110,100,40,99,44,32,53,41,32,
 105,110,32,115,101,110,100,40,99,44,32,54,41,59,32,102,117,110,32,109,97,105,110,40,117,32,58,32,117,110,105,116,41,
 32,58,32,105,110,116,32,61,32,108,101,116,32,99,32,61,32,99,104,97,110,32,105,110,32,108,101,116,32,116,32,61,32,115,
 112,97,119,110,40,102,117,110,32,117,32,61,62,32,119,111,114,107,32,99,41,32,105,110,32,116,97,107,101,40,99,41,32,43,
 32,114,101,115,101,116,40,49,32,43,32,40,115,104,105,102,116,32,107,32,61,62,32,107,32,40,107,32,49,48,41,41,41,59,
 32,125],())) λc=>ak (F14 n (c.1.1,[],())) λd=>ak (F21 n (c.1.1,d.1.1,[0,0,1,1,0,0,1],())) λe=>ak (F28 n (c.1.1,e.1.1,
 ())) λg=>ak (acz n) λh=>ak (F14 n (h.1.1,[],())) λi=>ak (acz n) λj=>ak (F32 n (j.1.1,i.1.1,0,())) λk=>aj (D.aM
 (D.aO d.1.2.1 0)) (xB n) (aj (D.aM (D.aO e.1.2.2.1 0)) (xB n) (aj (D.aM (D.aO g.1.2.1 0)) (xB n) (aj (D.aM (D.aO i.1.2.1 0))
 (xB n) (aj (D.aM (D.aO k.1.2.2.2.1 0)) (xB n) (aj (D.aM (D.aO (aq e.1.2.1) 7)) (xB n) (aB (av 2 e.1.2.1) (ak (F25 n (5,())) λ
 l=>aj (D.ey (D.aO (NW e).1 1) (D.ey (D.aO (NW e).2 22) (D.ey (D.aO (NW e).3 0) (D.ey (D.aO (NW e).4.1 l.1.1.1) (D.ey
 (D.aO (NW e).4.2 l.1.1.2) true))))) (aB (av 5 e.1.2.1) (ak (F25 n (17,())) λm=>aj (D.ey (D.aO (NV e).1 0) (D.ey (D.aO (NV
 e).2 0) (D.ey (D.aO (NV e).3 1) (D.ey (D.aO (NV e).4.1 m.1.1.1) (D.ey (D.aO (NV e).4.2 m.1.1.2) true))))) (aj (D.aO (aq g.1.1.1)
 2) (ak (F25 n (1,())) λo=>aj (D.ey (D.aO k.1.2.1.1 0) (D.ey (D.aO k.1.2.1.2 16) (D.ey (D.aO k.1.2.1.3 0) (D.ey (D.aO k.1.2.1.4.1
 o.1.1.1) (D.ey (D.aO k.1.2.1.4.2 o.1.1.2) true))))) (some ((D.aO k.1.2.2.1 8,()),())) (xB n)) (xB n)) (xB n))) (xB n))))))))
def k13(n:Nat):OC:=⟨13,⟨[],K4,false,F13 n⟩,cq [k14 n,k21 n,k25 n,k28 n,k32 n,k45 n] [] n 10 13⟩
def F52:Y69:=
 λn b=>aj (D.eu b.2.1 b.1) (some ((D.eu b.1 b.2.2.1,()),())) (some ((false,()),()))
def k52(n:Nat):OC:=⟨52,⟨P6,K4,false,F52 n⟩,cq [] [] n 10 52⟩
def F53:Nat->List cz×Unit->Option fe:=
 λn b=>ak (@iter (Uc) (Bool×Unit) (Unit) (Any) (λc=>aj (D.bN c.2.1 (aq b.1)) (aB (av c.2.1 b.1) (ak (F93 n ((aN b.1 (ah c.2.1)
 bE).1,())) λd=>aj (D.aM d.1.1) (some (LO.ret () (false,()))) (aB (av c.2.1 b.1) (ak (F52 n ((aN b.1 (ah c.2.1) bE).2,0,
 3,())) λe=>aj (D.aM e.1.1) (some (LO.ret () (false,()))) (aB (av c.2.1 b.1) (aB (cY c.1 [(aN b.1 (ah c.2.1) bE).1]) (some
 (LO.next (cM c.1 [(aN b.1 (ah c.2.1) bE).1],D.add .i64 c.2.1 1,()))))))))) (some (LO.out 0 c))) n ([],0,())) λc=>LO.el c (λ_ e
 =>aj (D.eu (aq b.1) 20) (ak (F94 n (e.1,())) λg=>some g) (some ((false,()),()))) (λ_ e=>some (e,())) λ_ _=>none
def k53(n:Nat):OC:=⟨53,⟨ajM,K4,false,F53 n⟩,cq [k52 n,k93 n,k94 n] [(53,0,⟨[(3,.one (.own (.str))),(4,cW)],[],[],0⟩)] n 10 53⟩
abbrev q95(F:Fn Uj K4 false):lF sg:=⟨Uj,K4,false,F⟩
def N1(n:Nat)(f95:Y52->Option fe)(c:Y52):Bool×Int×Unit->Option Y53:=
 λi=>aj (D.bN i.2.1 (aq c.1.4)) (aj i.1 (aB (av i.2.1 c.1.4) (ak (f95 (aN c.1.4 (ah i.2.1) aK,c.2)) λj=>some (LO.next
 (j.1.1,D.add .i64 i.2.1 1,())))) (some (LO.out 0 i))) (some (LO.out 0 i))
def NZ(n:Nat)(f95:Y52->Option fe):Y53->Option fe:=
 λi=>LO.el i (λ_ k=>some ((k.1,()),())) (λ_ k=>some (k,())) λ_ _=>none
def B95:Nat->(Y52->Option fe)->Y52->Option fe:=
 λn f95 c=>ak (aj (D.aO c.1.1 1) (some (LO.next (true,()))) (ak (aj (D.aO c.1.1 2) (some (LO.next (true,()))) (some (LO.next (D.aO c.1.1
 5,())))) λ(d:FW)=>LO.jn d (λe=>some (LO.next e)) (λ_ _=>none) (λ_ g=>some (LO.ret () g)) λ_ _=>none)) λ(d:FW)=>
 LO.jn d (λe=>ak (aj e.1 (aj (D.aO (aq c.1.4) 0) (some (LO.next (D.aO c.1.2 0,true,()))) (some (LO.next (false,true,())))) (ak (aj
 (D.aO c.1.1 3) (aj (D.aO (aq c.1.4) 0) (ak (F52 n (c.1.2,(-1000000000),1000000000,())) λg=>some (LO.next (g.1.1,true,()))) (some
 (LO.next (false,true,())))) (ak (aj (D.aO c.1.1 4) (aj (D.aO (aq c.1.4) 0) (ak (F52 n (c.1.2,0,1,())) λg=>some (LO.next (g.1.1,true,
 ()))) (some (LO.next (false,true,())))) (ak (aj (D.aO c.1.1 6) (ak (F52 n (c.1.2,0,D.dN .i64 (aq c.2.1) 1,())) λg=>aj g.1.1 (aB
 (av c.1.2 c.2.1) (some (LO.next (D.aO (aq c.1.4) (aN c.2.1 (ah c.1.2) bE).2,true,())))) (some (LO.next (false,true,())))) (some
 (LO.next (false,false,())))) λ(g:KY)=>LO.jn g (λh=>some (LO.next (h.1,false,()))) (λ_ _=>none) (λ_ i=>some (LO.ret () i))
 λ_ _=>none)) λ(g:KY)=>LO.jn g (λh=>some (LO.next (h.1,false,()))) (λ_ _=>none) (λ_ i=>some (LO.ret () i)) λ_ _=>
 none)) λ(g:KY)=>LO.jn g (λh=>some (LO.next (h.1,false,()))) (λ_ _=>none) (λ_ i=>some (LO.ret () i)) λ_ _=>none)) λ(g :
 KY)=>LO.jn g (λh=>aj h.1 (ak (@iter (Bool×Int×Unit) (Bool×Unit) (Unit) (Any) (N1 n f95 c) n (gf c.1.3 [],0,())) (NZ n f95))
 (ak (@iter (Bool×Int×Unit) (Bool×Unit) (Unit) (Any) (N1 n f95 c) n (false,0,())) (NZ n f95))) (λ_ _=>none) (λ_ i=>some (i,
 ())) λ_ _=>none) (λ_ _=>none) (λ_ g=>some (g,())) λ_ _=>none
def D95(n:Nat)(f95:Fn Uj K4 false)(h95:bC prog 95 (q95 f95)):bC prog 95 (q95 (B95 n f95)):=cq [k52 n,⟨95,q95 f95,h95⟩] [(95,1,⟨[(5,cZ),(7,cW)],[],[],0⟩),(95,1000005,⟨[(13,cZ)],[],[],0⟩),(95,1000006,⟨[(13,cZ)],[],[],0⟩),(95,1000007,⟨[(5,cZ),(13,cZ)],[],[],0⟩),(95,1000009,⟨[(5,cZ),(24,cZ)],[],[],0⟩),(95,1000011,⟨[(5,cZ),(33,cZ)],[],[],0⟩),(95,1000013,⟨[(5,cZ),(42,cZ)],[],[],0⟩)] n 10 95
def R95(n k:Nat):(Fn Uj K4 false):=Nat.rec (motive:=λ_=>(Fn Uj K4 false)) (λ_=>none) (λ_ r=>B95 n r) k
def F95(n:Nat):Fn Uj K4 false:=(R95 n n)
def ajY(n:Nat):∀k,bC prog 95 (q95 (R95 n k))
 |0=>bY (enters 95 (by kernel_rfl))
 |k+1=>have ih:=ajY n k
  D95 n _ ih
def k95(n:Nat):OC:=⟨95,q95 (F95 n),(ajY n n)⟩
def FX(n:Nat):PS->Option PS:=
 λc=>LO.jn c (λd=>some (LO.next d)) (λ_ _=>none) (λ_ e=>some (LO.ret () e)) λ_ _=>none
def Am(n:Nat):PS->Option PS:=
 λe=>LO.jn e (λg=>some (LO.next g)) (λ_ _=>none) (λ_ h=>some (LO.ret () h)) λ_ _=>none
def Al(n:Nat):PS->Option PS:=
 λh=>LO.jn h (λi=>some (LO.next i)) (λ_ _=>none) (λ_ j=>some (LO.ret () j)) λ_ _=>none
def F96:Nat->Y68->Dv:=
 λn b=>ak (aj (D.aO b.1 1) (some (LO.next (true,()))) (ak (aj (D.aO b.1 2) (some (LO.next (true,()))) (ak (aj (D.aO b.1 3) (some
 (LO.next (true,()))) (ak (aj (D.aO b.1 4) (some (LO.next (true,()))) (ak (aj (D.aO b.1 21) (some (LO.next (true,()))) (ak (aj (D.aO b.1 25)
 (some (LO.next (true,()))) (some (LO.next (D.aO b.1 28,())))) (FX n))) (FX n))) (FX n))) (FX n))) (FX n))) λ(c:PS)=>LO.jn c
 (λd=>aj d.1 (some ((0,()),())) (ak (aj (D.aO b.1 5) (some (LO.next (true,()))) (ak (aj (D.aO b.1 27) (some (LO.next (true,()))) (ak
 (aj (D.aO b.1 16) (some (LO.next (true,()))) (ak (aj (D.aO b.1 17) (some (LO.next (true,()))) (ak (aj (D.aO b.1 19) (some (LO.next (true,
 ()))) (ak (aj (D.aO b.1 20) (some (LO.next (true,()))) (ak (aj (D.aO b.1 23) (some (LO.next (true,()))) (ak (aj (D.aO b.1 26) (some (LO.next
 (true,()))) (some (LO.next (D.aO b.1 24,())))) (Am n))) (Am n))) (Am n))) (Am n))) (Am n))) (Am n))) (Am n))) λ(e:PS)=>
 LO.jn e (λg=>aj g.1 (some ((1,()),())) (ak (aj (D.aO b.1 6) (some (LO.next (true,()))) (ak (aj (D.aO b.1 7) (some (LO.next (true,())))
 (ak (aj (D.aO b.1 9) (some (LO.next (true,()))) (ak (aj (D.aO b.1 10) (some (LO.next (true,()))) (ak (aj (D.aO b.1 11) (some (LO.next (true,
 ()))) (ak (aj (D.aO b.1 12) (some (LO.next (true,()))) (ak (aj (D.aO b.1 13) (some (LO.next (true,()))) (ak (aj (D.aO b.1 18) (some (LO.next
 (true,()))) (some (LO.next (D.aO b.1 22,())))) (Al n))) (Al n))) (Al n))) (Al n))) (Al n))) (Al n))) (Al n))) λ(h:PS)=>
 LO.jn h (λi=>aj i.1 (some ((2,()),())) (aj (D.aO b.1 8) (some ((3,()),())) (aj (D.aO b.1 15) (some ((D.add .i64 1 b.2.1,()),())) (aj
 (D.aO b.1 14) (some (b.2.2,())) (some (((-1),()),())))))) (λ_ _=>none) (λ_ j=>some (j,())) λ_ _=>none)) (λ_ _=>none) (λ_ h
 =>some (h,())) λ_ _=>none)) (λ_ _=>none) (λ_ e=>some (e,())) λ_ _=>none
def k96(n:Nat):OC:=⟨96,⟨P6,K2,false,F96 n⟩,cq [] [(96,1000003,⟨[(8,cZ)],[],[],0⟩),(96,1000004,⟨[(8,cZ)],[],[],0⟩),(96,1000005,⟨[(8,cZ)],[],[],0⟩),(96,1000006,⟨[(8,cZ)],[],[],0⟩),(96,1000007,⟨[(8,cZ)],[],[],0⟩),(96,1000008,⟨[(8,cZ)],[],[],0⟩),(96,1000011,⟨[(16,cZ)],[],[],0⟩),(96,1000012,⟨[(16,cZ)],[],[],0⟩),(96,1000013,⟨[(16,cZ)],[],[],0⟩),(96,1000014,⟨[(16,cZ)],[],[],0⟩),(96,1000015,⟨[(16,cZ)],[],[],0⟩),(96,1000016,⟨[(16,cZ)],[],[],0⟩),(96,1000017,⟨[(16,cZ)],[],[],0⟩),(96,1000018,⟨[(16,cZ)],[],[],0⟩),(96,1000021,⟨[(26,cZ)],[],[],0⟩),(96,1000022,⟨[(26,cZ)],[],[],0⟩),(96,1000023,⟨[(26,cZ)],[],[],0⟩),(96,1000024,⟨[(26,cZ)],[],[],0⟩),(96,1000025,⟨[(26,cZ)],[],[],0⟩),(96,1000026,⟨[(26,cZ)],[],[],0⟩),(96,1000027,⟨[(26,cZ)],[],[],0⟩),(96,1000028,⟨[(26,cZ)],[],[],0⟩)] n 10 96⟩
def F54:Nat->aG×bp×Unit->Option fe:=
 λn b=>ak (aj (D.aO b.2.1.1 1) (ak (F52 n (b.2.1.2,(-1000000000),1000000000,())) λc=>some (LO.next (0,c.1.1,true,()))) (ak (aj
 (D.aO b.2.1.1 2) (ak (F52 n (b.2.1.2,0,1,())) λc=>some (LO.next (0,c.1.1,true,()))) (ak (aj (D.aO b.2.1.1 4) (ak (F52 n (b.2.1.2,
 D.neg .i64 (aq b.1.2),29,())) λc=>some (LO.next (0,c.1.1,true,()))) (ak (aj (D.aO b.2.1.1 24) (ak (F52 n (b.2.1.2,0,3,())) λc=>
 some (LO.next (0,c.1.1,true,()))) (ak (aj (D.aO b.2.1.1 14) (ak (F52 n (b.2.1.2,0,D.dN .i64 (aq b.1.4) 1,())) λc=>ak (aj c.1.1
 (aB (av b.2.1.2 b.1.4) (some (LO.next ((aN b.1.4 (ah b.2.1.2) bE).2,true,())))) (some (LO.next (0,false,())))) λ(d:LO (Int×Bool
 ×Unit) (Bool×Unit) Unit Any)=>LO.jn d (λe=>some (LO.next (e.1,c.1.1,true,()))) (λ_ _=>none) (λ_ g=>some (LO.ret () g)) λ_ _
 =>none) (some (LO.next (0,D.aO b.2.1.2 0,false,())))) λ(c:Y70)=>LO.jn c (λd=>some (LO.next (d.1,d.2.1,false,()))) (λ_ _=>none)
 (λ_ e=>some (LO.ret () e)) λ_ _=>none)) λ(c:Y70)=>LO.jn c (λd=>some (LO.next (d.1,d.2.1,false,()))) (λ_ _=>none) (λ_ e
 =>some (LO.ret () e)) λ_ _=>none)) λ(c:Y70)=>LO.jn c (λd=>some (LO.next (d.1,d.2.1,false,()))) (λ_ _=>none) (λ_ e=>some
 (LO.ret () e)) λ_ _=>none)) λ(c:Y70)=>LO.jn c (λd=>some (LO.next (d.1,d.2.1,false,()))) (λ_ _=>none) (λ_ e=>some (LO.ret
 () e)) λ_ _=>none)) λ(c:Y70)=>LO.jn c (λd=>ak (aj (D.aO b.2.1.1 15) (aj d.2.1 (ak (F52 n (aq b.2.1.4,1,5,())) λe=>some
 (LO.next (e.1.1,true,()))) (some (LO.next (false,true,())))) (aj d.2.1 (some (LO.next (D.aO (aq b.2.1.4) 0,false,()))) (some (LO.next (false,
 false,()))))) λ(e:KY)=>LO.jn e (λg=>ak (@iter (Bool×Int×Unit) (Bool×Unit) (Unit) (Any) (λh=>aj (D.bN h.2.1 (aq b.2.1.4))
 (aj h.1 (aB (av h.2.1 b.2.1.4) (ak (F83 n (aN b.2.1.4 (ah h.2.1) aK,12,())) λi=>aj (D.eu 0 i.1.1) (aB (av h.2.1 b.2.1.4) (ak
 (F95 n (aN b.2.1.4 (ah h.2.1) aK,b.1.4,())) λj=>some (LO.next (j.1.1,D.add .i64 h.2.1 1,())))) (some (LO.next (false,D.add .i64
 h.2.1 1,()))))) (some (LO.out 0 h))) (some (LO.out 0 h))) n (g.1,0,())) λh=>LO.el h (λ_ j=>aj j.1 (ak (F96 n (b.2.1.1,aq b.2.1.4,
 d.1,())) λk=>some ((D.aO (aq b.2.1.3) k.1.1,()),())) (some ((false,()),()))) (λ_ j=>some (j,())) λ_ _=>none) (λ_ _=>none)
 (λ_ h=>some (h,())) λ_ _=>none) (λ_ _=>none) (λ_ e=>some (e,())) λ_ _=>none
def k54(n:Nat):OC:=⟨54,⟨aqS,K4,false,F54 n⟩,cq [k52 n,k83 n,k95 n,k96 n] [(54,1,⟨[(6,cZ),(7,cW)],[],[],0⟩),(54,1000005,⟨[(5,cW),(6,cZ),(13,cZ)],[],[],0⟩),(54,1000007,⟨[(5,cW),(6,cZ),(18,cZ)],[],[],0⟩),(54,1000009,⟨[(5,cW),(6,cZ),(23,cZ)],[],[],0⟩),(54,1000011,⟨[(5,cW),(6,cZ),(32,cZ)],[],[],0⟩),(54,1000013,⟨[(5,cW),(6,cZ),(37,cZ)],[],[],0⟩),(54,1000015,⟨[(5,cW),(46,cZ)],[],[],0⟩),(54,1000017,⟨[(6,cZ),(56,cZ)],[],[],0⟩)] n 10 54⟩
def CF(b:aG×Unit)(j:XR)(l:XR):Int:=
 aN (aN b.1.1 (ah j.2.1) aQ).3 (ah l.2.1) 0
def F15:Y83:=
 λn b=>aj (D.bN 300 (aq b.1.1)) (some ((false,()),())) (ak (F52 n (aq b.1.2,1,aq b.1.1,())) λc=>aj (D.aM c.1.1) (some
 ((false,()),())) (ak (F52 n (b.1.3,0,D.dN .i64 (aq b.1.2) 1,())) λd=>aj (D.aM d.1.1) (some ((false,()),())) (ak (F53 n (b.1.4,
 ())) λe=>aj (D.aM e.1.1) (some ((false,()),())) (aB (CV (ZP (aq b.1.1)) (hU (aq b.1.1) (aq b.1.1))) (ak (@iter (XR) (Bool×
 Unit) (Unit) (Any) (λg=>aj (D.bN g.2.1 (aq b.1.2)) (aB (av g.2.1 b.1.2) (ak (F52 n (aN b.1.2 (ah g.2.1) 0,0,D.dN .i64 (aq b.1.1)
 1,())) λh=>aj (D.aM h.1.1) (some (LO.ret () (false,()))) (aB (av g.2.1 b.1.2) (aB (av (aN b.1.2 (ah g.2.1) 0) g.1) (aB (cw (ah
 (aN b.1.2 (ah g.2.1) 0)) g.1) (aj (aN g.1 (ah (aN b.1.2 (ah g.2.1) 0)) false) (some (LO.ret () (false,()))) (aB (av g.2.1 b.1.2) (aB
 (av (aN b.1.2 (ah g.2.1) 0) g.1) (aB (cw (ah (aN b.1.2 (ah g.2.1) 0)) g.1) (some (LO.next (dQ g.1 (ah (aN b.1.2 (ah g.2.1) 0))
 true,D.add .i64 g.2.1 1,())))))))))))) (some (LO.out 0 g))) n (Jk (ah (aq b.1.1)) false,0,())) λg=>LO.el g (λ_ i=>ak (@iter (XR)
 (Bool×Unit) (Unit) (Any) (λj=>aj (D.bN j.2.1 (aq b.1.1)) (aB (av j.2.1 b.1.1) (ak (F54 n (b.1,aN b.1.1 (ah j.2.1) aQ,()))
 λk=>aj (D.aM k.1.1) (some (LO.ret () (false,()))) (ak (@iter (XR) (Bool×Unit) (Unit) (Any) (λl=>aB (av j.2.1 b.1.1) (aj (D.bN
 l.2.1 (aq (aN b.1.1 (ah j.2.1) aQ).3)) (aB (av j.2.1 b.1.1) (aB (av l.2.1 (aN b.1.1 (ah j.2.1) aQ).3) (ak (F52 n (CF b
 j l,D.add .i64 j.2.1 1,D.dN .i64 (aq b.1.1) 1,())) λm=>aj (D.aM m.1.1) (some (LO.ret () (false,()))) (aB (av (CF b j l) l.1) (aB
 (cw (ah (CF b j l)) l.1) (aj (aN l.1 (ah (CF b j l)) false) (some (LO.ret () (false,()))) (aB (av (CF b j l) l.1) (aB (cw (ah
 (CF b j l)) l.1) (some (LO.next (dQ l.1 (ah (CF b j l)) true,D.add .i64 l.2.1 1,()))))))))))) (some (LO.out 0 l)))) n (j.1,0,())) λl
 =>LO.el l (λ_ o=>some (LO.next (o.1,D.add .i64 j.2.1 1,()))) (λ_ o=>some (LO.ret () o)) λ_ _=>none))) (some (LO.out 0 j))) n (i.1,0,
 ())) λj=>LO.el j (λ_ l=>ak (@iter (Int×Unit) (Bool×Unit) (Unit) (Any) (λm=>aj (D.bN m.1 (aq b.1.1)) (aB (av m.1 l.1) (aB
 (cw (ah m.1) l.1) (aj (D.aM (aN l.1 (ah m.1) false)) (some (LO.ret () (false,()))) (some (LO.next (D.add .i64 m.1 1,())))))) (some (LO.out
 0 m))) n (0,())) λm=>LO.el m (λ_ _=>some ((true,()),())) (λ_ p=>some (p,())) λ_ _=>none) (λ_ l=>some (l,())) λ_ _=>
 none) (λ_ i=>some (i,())) λ_ _=>none)))))
def k15(n:Nat):OC:=⟨15,⟨P5,K4,false,F15 n⟩,cq [k52 n,k53 n,k54 n] [(15,0,⟨[(4,.one (.own (.bool))),(5,cW)],[],[],0⟩),(15,2,⟨[(4,.one (.own (.bool))),(6,cW)],[],[],0⟩),(15,4,⟨[(4,.one (.own (.bool))),(7,cW)],[],[],0⟩),(15,6,⟨[(9,cW)],[],[],0⟩)] n 10 15⟩
def F55:Y69:=
 λn b=>aj (D.eu b.2.1 b.1) (some ((D.eu b.1 b.2.2.1,()),())) (some ((false,()),()))
def k55(n:Nat):OC:=⟨55,⟨P6,K4,false,F55 n⟩,cq [] [] n 10 55⟩
def F16:ajy:=
 λn b=>ak (@iter (Int×Unit) (Bool×Unit) (Unit) (Any) (λc=>aj (D.bN c.1 (aq b.1)) (aj (D.eu c.1 b.2.1) (aB (av c.1 b.1) (ak (F55
 n (aN b.1 (ah c.1) 0,(-1000000000),1000000000,())) λd=>aj (D.aM d.1.1) (some (LO.ret () (false,()))) (some (LO.next (D.add .i64 c.1 1,
 ()))))) (some (LO.out 0 c))) (some (LO.out 0 c))) n (0,())) λc=>LO.el c (λ_ _=>some ((D.eu (aq b.1) b.2.1,()),())) (λ_ e=>some (e,
 ())) λ_ _=>none
def k16(n:Nat):OC:=⟨16,⟨afp,K4,false,F16 n⟩,cq [k55 n] [(16,0,⟨[(5,cW)],[],[],0⟩)] n 10 16⟩
def F26:Nat->List Int×List Int×Unit->Option fe:=
 λn b=>aj (D.aM (D.aO (aq b.1) (aq b.2.1))) (some ((false,()),())) (ak (@iter (Int×Unit) (Bool×Unit) (Unit) (Any) (λc=>aj
 (D.bN c.1 (aq b.1)) (aB (av c.1 b.1) (aB (av c.1 b.2.1) (aj (D.aM (D.aO (aN b.1 (ah c.1) 0) (aN b.2.1 (ah c.1) 0))) (some (LO.ret ()
 (false,()))) (some (LO.next (D.add .i64 c.1 1,())))))) (some (LO.out 0 c))) n (0,())) λc=>LO.el c (λ_ _=>some ((true,()),())) (λ_ e
 =>some (e,())) λ_ _=>none)
def k26(n:Nat):OC:=⟨26,⟨aqR,K4,false,F26 n⟩,cq [] [(26,0,⟨[(5,cW)],[],[],0⟩)] n 10 26⟩
def F27:Nat->List dW×List dW×Unit->Option fe:=
 λn b=>aj (D.aM (D.aO (aq b.1) (aq b.2.1))) (some ((false,()),())) (ak (@iter (Int×Unit) (Bool×Unit) (Unit) (Any) (λc=>aj
 (D.bN c.1 (aq b.1)) (aB (av c.1 b.1) (aB (av c.1 b.2.1) (aj (D.aM (D.ey (D.aO (aN b.1 (ah c.1) lT).1 (aN b.2.1 (ah c.1)
 lT).1) (D.ey (D.aO (aN b.1 (ah c.1) lT).2 (aN b.2.1 (ah c.1) lT).2) true))) (some (LO.ret () (false,()))) (some (LO.next
 (D.add .i64 c.1 1,())))))) (some (LO.out 0 c))) n (0,())) λc=>LO.el c (λ_ _=>some ((true,()),())) (λ_ e=>some (e,())) λ_ _=>
 none)
def k27(n:Nat):OC:=⟨27,⟨aqQ,K4,false,F27 n⟩,cq [] [(27,0,⟨[(5,cW)],[],[],0⟩)] n 10 27⟩
def F98:Nat->Y99->Option fe:=
 λn b=>aj (D.aM (D.aO (aq b.1) (aq b.2.1))) (some ((false,()),())) (ak (@iter (Int×Unit) (Bool×Unit) (Unit) (Any) (λc=>aj
 (D.bN c.1 (aq b.1)) (aB (av c.1 b.1) (aB (av c.1 b.2.1) (aj (D.aM (D.ey (D.aO (aN b.1 (ah c.1) az).1 (aN b.2.1 (ah c.1)
 az).1) (D.ey (D.aO (aN b.1 (ah c.1) az).2 (aN b.2.1 (ah c.1) az).2) true))) (some (LO.ret () (false,()))) (some (LO.next
 (D.add .i64 c.1 1,())))))) (some (LO.out 0 c))) n (0,())) λc=>LO.el c (λ_ _=>some ((true,()),())) (λ_ e=>some (e,())) λ_ _=>
 none)
def k98(n:Nat):OC:=⟨98,⟨P34,K4,false,F98 n⟩,cq [] [(98,0,⟨[(5,cW)],[],[],0⟩)] n 10 98⟩
def F57:aqc:=
 λn b=>aj (D.aM (D.aO b.1.1 b.2.1.1)) (some ((false,()),())) (aj (D.aM (D.aO b.1.2 b.2.1.2)) (some ((false,()),())) (ak (F98 n (b.1.3,
 b.2.1.3,())) λc=>aj (D.aM c.1.1) (some ((false,()),())) (aj (D.aM (D.aO (aq b.1.4) (aq b.2.1.4))) (some ((false,()),())) (ak
 (@iter (Int×Unit) (Bool×Unit) (Unit) (Any) (λd=>aj (D.bN d.1 (aq b.1.4)) (aB (av d.1 b.1.4) (aB (av d.1 b.2.1.4) (aj (D.aM (D.aO
 (aN b.1.4 (ah d.1) aX).1 (aN b.2.1.4 (ah d.1) aX).1)) (some (LO.ret () (false,()))) (ak (F98 n ((aN b.1.4 (ah d.1)
 aX).2,(aN b.2.1.4 (ah d.1) aX).2,())) λe=>aj (D.aM e.1.1) (some (LO.ret () (false,()))) (ak (F98 n ((aN b.1.4 (ah
 d.1) aX).3,(aN b.2.1.4 (ah d.1) aX).3,())) λg=>aj (D.aM g.1.1) (some (LO.ret () (false,()))) (some (LO.next (D.add .i64
 d.1 1,())))))))) (some (LO.out 0 d))) n (0,())) λd=>LO.el d (λ_ _=>some ((true,()),())) (λ_ g=>some (g,())) λ_ _=>none))))
def k57(n:Nat):OC:=⟨57,⟨aqP,K4,false,F57 n⟩,cq [k98 n] [(57,0,⟨[(5,cW)],[],[],0⟩)] n 10 57⟩
def NU(n:Nat):Option fe:=
 some ((false,()),())
def F19:aqe:=
 λn b=>aj (D.aM (D.aO (aq b.1.1) (aq b.2.1.1))) (NU n) (ak (F26 n (b.1.2,b.2.1.2,())) λc=>aj (D.aM c.1.1) (NU n) (ak (F27
 n (b.1.3,b.2.1.3,())) λd=>aj (D.aM d.1.1) (NU n) (ak (F26 n (b.1.4,b.2.1.4,())) λe=>aj (D.aM e.1.1) (NU n) (aj (D.aM
 (D.aO b.1.5 b.2.1.5)) (NU n) (ak (@iter (Int×Unit) (Bool×Unit) (Unit) (Any) (λg=>aj (D.bN g.1 (aq b.1.1)) (aB (av g.1 b.1.1) (aB
 (av g.1 b.2.1.1) (ak (F57 n (aN b.1.1 (ah g.1) aR,aN b.2.1.1 (ah g.1) aR,())) λh=>aj (D.aM h.1.1) (some (LO.ret ()
 (false,()))) (some (LO.next (D.add .i64 g.1 1,())))))) (some (LO.out 0 g))) n (0,())) λg=>LO.el g (λ_ _=>some ((true,()),())) (λ_ i
 =>some (i,())) λ_ _=>none)))))
def k19(n:Nat):OC:=⟨19,⟨aqO,K4,false,F19 n⟩,cq [k26 n,k27 n,k57 n] [(19,0,⟨[(5,cW)],[],[],0⟩)] n 10 19⟩
def F17:Y90:=
 λn b=>ak (F19 n (b.1,bS,())) λc=>some c
def k17(n:Nat):OC:=⟨17,⟨X1,K4,false,F17 n⟩,cq [k19 n] [] n 10 17⟩
def F117:ae7:=
 λn b=>some ((au.mk 5 b.1,()),())
def We(n:Nat):OC:=⟨117,⟨P11,K17,false,F117 n⟩,cq [] [] n 10 117⟩
def F73:Y62:=
 λn b=>aj (D.aO b.1.1 4) (ak (F117 n (0,())) λc=>some c) (aj (D.aO b.1.1 5) (ak (F117 n (0,())) λc=>some c) (some (b,())))
def k73(n:Nat):OC:=⟨73,⟨P22,K17,false,F73 n⟩,cq [We n] [] n 10 73⟩
def F74:Nat->List au×au×Unit->Option Y44:=
 λn b=>aB (cY b.1 [b.2.1]) (some ((cM b.1 [b.2.1],()),()))
def k74(n:Nat):OC:=⟨74,⟨aqN,K35,false,F74 n⟩,cq [] [] n 10 74⟩
def IV(n:Nat):PS->Option PS:=
 λc=>LO.jn c (λd=>some (LO.next d)) (λ_ _=>none) (λ_ e=>some (LO.ret () e)) λ_ _=>none
def xz(n:Nat):Dv:=
 some ((1,()),())
def F75:Y16:=
 λn b=>ak (aj (D.aO b.1.1 6) (some (LO.next (true,()))) (ak (aj (D.aO b.1.1 9) (some (LO.next (true,()))) (ak (aj (D.aO b.1.1 10) (some
 (LO.next (true,()))) (ak (aj (D.aO b.1.1 11) (some (LO.next (true,()))) (ak (aj (D.aO b.1.1 12) (some (LO.next (true,()))) (ak (aj (D.aO
 b.1.1 13) (some (LO.next (true,()))) (ak (aj (D.aO b.1.1 18) (some (LO.next (true,()))) (some (LO.next (D.aO b.1.1 22,())))) (IV n))) (IV
 n))) (IV n))) (IV n))) (IV n))) (IV n))) λ(c:PS)=>LO.jn c (λd=>aj d.1 (some ((2,()),())) (aj (D.aO b.1.1 14) (some ((aq
 b.1.3,()),())) (aj (D.aO b.1.1 7) (xz n) (aj (D.aO b.1.1 8) (xz n) (aj (D.aO b.1.1 15) (xz n) (aj (D.aO b.1.1 16) (xz n) (aj
 (D.aO b.1.1 17) (xz n) (aj (D.aO b.1.1 19) (xz n) (aj (D.aO b.1.1 20) (xz n) (aj (D.aO b.1.1 23) (xz n) (aj (D.aO b.1.1 24) (xz
 n) (aj (D.aO b.1.1 26) (xz n) (some ((0,()),())))))))))))))) (λ_ _=>none) (λ_ e=>some (e,())) λ_ _=>none
def k75(n:Nat):OC:=⟨75,⟨P27,K2,false,F75 n⟩,cq [] [(75,1000003,⟨[(5,cZ)],[],[],0⟩),(75,1000004,⟨[(5,cZ)],[],[],0⟩),(75,1000005,⟨[(5,cZ)],[],[],0⟩),(75,1000006,⟨[(5,cZ)],[],[],0⟩),(75,1000007,⟨[(5,cZ)],[],[],0⟩),(75,1000008,⟨[(5,cZ)],[],[],0⟩),(75,1000009,⟨[(5,cZ)],[],[],0⟩)] n 10 75⟩
def X7(n:Nat)(b:XO):Option IS:=
 aB (av b.2.1 b.1.2) (aB (av (aN b.1.2 (ah b.2.1) 0) b.1.1) (aB (cw (ah (aN b.1.2 (ah b.2.1) 0)) b.1.1) (some ((aA.mk
 (ai.mk (dQ b.1.1 (ah (aN b.1.2 (ah b.2.1) 0)) (aE.mk 6 4 [] [])) b.1.2 b.1.3 b.1.4 b.1.5) 1 (aS.mk b.2.1 0 4 az),()),
 ()))))
def F76:Y88:=
 λn b=>aj (D.eu 40 (aq b.2.2.1)) (X7 n b) (aj (D.bN 30 (aq b.2.2.2.2.1)) (X7 n b) (aB (cY b.2.2.1 [ax.mk b.2.2.2.1
 b.2.2.2.2.1 []]) (aB (av b.2.1 b.1.2) (aB (av (aN b.1.2 (ah b.2.1) 0) b.1.1) (aB (cw (ah (aN b.1.2 (ah b.2.1) 0)) b.1.1) (some
 ((aA.mk (ai.mk (dQ b.1.1 (ah (aN b.1.2 (ah b.2.1) 0)) (aE.mk 6 0 [] (cM b.2.2.1 [ax.mk b.2.2.2.1 b.2.2.2.2.1
 []]))) b.1.2 b.1.3 b.1.4 b.1.5) 0 aZ,()),())))))))
def k76(n:Nat):OC:=⟨76,⟨afo,K121,false,F76 n⟩,cq [] [] n 10 76⟩
def F97:Y59:=
 λn _=>some ((au.mk 3 0,()),())
def k97(n:Nat):OC:=⟨97,⟨[],K17,false,F97 n⟩,cq [] [] n 10 97⟩
def F120:ajr:=
 λn b=>aj b.1 (some ((au.mk 2 1,()),())) (some ((au.mk 2 0,()),()))
def adA(n:Nat):OC:=⟨120,⟨P31,K17,false,F120 n⟩,cq [] [] n 10 120⟩
def F176:Nat->ai×au×Int×Unit->Option (Y34×Unit):=
 λn b=>aj (D.aM (D.aO b.2.1.1 5)) (some ((aR,false,()),())) (aB (av b.2.1.2 b.1.1) (aj (D.aM (D.aO (aN b.1.1 (ah b.2.1.2)
 aR).1 b.2.2.1)) (some ((aR,false,()),())) (aB (av b.2.1.2 b.1.1) (some ((aN b.1.1 (ah b.2.1.2) aR,true,()),())))))
def OK(n:Nat):OC:=⟨176,⟨aqM,K37,false,F176 n⟩,cq [] [] n 10 176⟩
def F177:Nat->aG×ai×au×au×Unit->Option (Y56×Unit):=
 λn b=>aj (D.aO b.2.2.1.1 4) (aB (av b.2.2.1.2 b.1.2) (some ((ax.mk (aN b.1.2 (ah b.2.2.1.2) 0) [b.2.2.2.1] [],true,()),())))
 (ak (F176 n (b.2.1,b.2.2.1,2,())) λc=>aj (D.aM c.1.2.1) (some ((aX,false,()),())) (aB (av c.1.1.2 b.1.1) (aB (av 0 (aN
 b.1.1 (ah c.1.1.2) aQ).3) (ak (F74 n (c.1.1.3,b.2.2.2)) λd=>some ((ax.mk (aN (aN b.1.1 (ah c.1.1.2) aQ).3 (ah 0) 0)
 d.1.1 [],true,()),())))))
def ag9(n:Nat):OC:=⟨177,⟨aqL,K39,false,F177 n⟩,cq [k74 n,OK n] [] n 10 177⟩
def KM(b:ae6):Bool:=
 av (aN b.2.1.2 (ah b.2.2.1) 0) b.2.1.1
def yN(b:ae6):Nat:=
 ah (aN b.2.1.2 (ah b.2.2.1) 0)
def F122:Nat->ae6->Option IS:=
 λn b=>ak (F176 n (b.2.1,b.2.2.2.2.1,5,())) λc=>aj c.1.2.1 (aB (cY b.2.2.2.1 c.1.1.4) (aj (D.bN 40 (aq (cM b.2.2.2.1 c.1.1.4)))
 (aB (av b.2.2.1 b.2.1.2) (aB (KM b) (aB (cw (yN b) b.2.1.1) (some ((aA.mk (ai.mk (dQ b.2.1.1 (yN b) (aE.mk
 6 4 [] [])) b.2.1.2 b.2.1.3 b.2.1.4 b.2.1.5) 1 (aS.mk b.2.2.1 0 4 az),()),()))))) (aB (av b.2.2.1 b.2.1.2) (aB (KM b) (aB (cw
 (yN b) b.2.1.1) (some ((aA.mk (ai.mk (dQ b.2.1.1 (yN b) (aE.mk 6 0 [b.2.2.2.2.2.1] (cM b.2.2.2.1 c.1.1.4))) b.2.1.2
 b.2.1.3 b.2.1.4 b.2.1.5) 0 aZ,()),()))))))) (ak (F177 n (b.1,b.2.1,b.2.2.2.2)) λd=>aj (D.aM d.1.2.1) (aB (av b.2.2.1 b.2.1.2)
 (aB (KM b) (aB (cw (yN b) b.2.1.1) (some ((aA.mk (ai.mk (dQ b.2.1.1 (yN b) (aE.mk 6 2 [] [])) b.2.1.2 b.2.1.3
 b.2.1.4 b.2.1.5) 1 (aS.mk b.2.2.1 0 2 az),()),()))))) (ak (F76 n (b.2.1,b.2.2.1,b.2.2.2.1,d.1.1.1,d.1.1.2,())) λe=>some e))
def anw(n:Nat):OC:=⟨122,⟨aqK,K121,false,F122 n⟩,cq [k76 n,OK n,ag9 n] [] n 10 122⟩
def KL(b:XT):Bool:=
 av (aN b.1.2 (ah b.2.1) 0) b.1.1
def yM(b:XT):Nat:=
 ah (aN b.1.2 (ah b.2.1) 0)
def Gu(n:Nat)(b:XT):Option IS:=
 aB (av b.2.1 b.1.2) (aB (KL b) (aB (cw (yM b) b.1.1) (some ((aA.mk (ai.mk (dQ b.1.1 (yM b) (aE.mk 6 2 []
 [])) b.1.2 b.1.3 b.1.4 b.1.5) 1 (aS.mk b.2.1 0 2 az),()),()))))
def KK(n:Nat)(b:XT):Ua->Option IS:=
 λc=>aB (av b.2.1 b.1.2) (aB (KL b) (aB (cw (yM b) b.1.1) (some ((aA.mk (ai.mk (dQ b.1.1 (yM b) (aE.mk
 6 0 [c.1.1] b.2.2.1)) b.1.2 b.1.3 b.1.4 b.1.5) 0 aZ,()),()))))
def F123:Nat->XT->Option IS:=
 λn b=>aj (D.aO b.2.2.2.1 13) (aj (D.aM (D.aO b.2.2.2.2.1.1 b.2.2.2.2.2.1.1)) (Gu n b) (aj (D.bN 3 b.2.2.2.2.1.1) (Gu n b) (ak
 (F120 n (D.ey (D.aO b.2.2.2.2.1.1 b.2.2.2.2.2.1.1) (D.ey (D.aO b.2.2.2.2.1.2 b.2.2.2.2.2.1.2) true),())) (KK n b)))) (aj (D.aM (D.aO
 b.2.2.2.2.1.1 1)) (Gu n b) (aj (D.aM (D.aO b.2.2.2.2.2.1.1 1)) (Gu n b) (aj (D.aO b.2.2.2.1 12) (ak (F120 n (D.bN b.2.2.2.2.1.2
 b.2.2.2.2.2.1.2,())) (KK n b)) (ak (aj (D.aO b.2.2.2.1 9) (some (LO.next (D.add .i64 b.2.2.2.2.1.2 b.2.2.2.2.2.1.2,true,()))) (ak (aj
 (D.aO b.2.2.2.1 10) (some (LO.next (D.dN .i64 b.2.2.2.2.1.2 b.2.2.2.2.2.1.2,true,()))) (ak (aj (D.aO b.2.2.2.1 11) (some (LO.next (D.mul .i64
 b.2.2.2.2.1.2 b.2.2.2.2.2.1.2,true,()))) (some (LO.next (0,false,())))) λ(c:abt)=>LO.jn c (λd=>some (LO.next (d.1,false,()))) (λ_
 _=>none) (λ_ _=>some (LO.ret () ())) λ_ _=>none)) λ(c:abt)=>LO.jn c (λd=>some (LO.next (d.1,false,()))) (λ_ _=>none)
 (λ_ _=>some (LO.ret () ())) λ_ _=>none)) λ(c:abt)=>LO.jn c (λd=>ak (F55 n (d.1,(-1000000000),1000000000,())) λe=>aj
 (D.aM e.1.1) (aB (av b.2.1 b.1.2) (aB (KL b) (aB (cw (yM b) b.1.1) (some ((aA.mk (ai.mk (dQ b.1.1 (yM b)
 (aE.mk 6 4 [] [])) b.1.2 b.1.3 b.1.4 b.1.5) 1 (aS.mk b.2.1 0 4 az),()),()))))) (ak (F25 n (d.1,())) (KK n b))) (λ_ _=>
 none) (λ_ _=>some ((jb,()),())) λ_ _=>none))))
def anv(n:Nat):OC:=⟨123,⟨aqJ,K121,false,F123 n⟩,cq [k25 n,k55 n,adA n] [(123,1000012,⟨[(13,cW),(61,cZ)],[],[],0⟩),(123,1000014,⟨[(13,cW),(68,cZ)],[],[],0⟩),(123,1000016,⟨[(13,cW),(75,cZ)],[],[],0⟩)] n 10 123⟩
abbrev Vv(F:Fn Ui K127 false):lF sg:=⟨Ui,K127,false,F⟩
def BN(n:Nat)(f178:abq->abp)(c:abq):Ua->abp:=
 λd=>some (([],D.ey (D.aO c.2.2.1.1 d.1.1.1) (D.ey (D.aO c.2.2.1.2 d.1.1.2) true),()),())
def B178:Nat->(abq->abp)->abq->abp:=
 λn f178 c=>aj (D.aO c.2.1.1 1) (some (([],true,()),())) (aj (D.aO c.2.1.1 2) (some (([c.2.2.1],true,()),())) (aj (D.aO c.2.1.1 3) (ak
 (F25 n (c.2.1.2,())) (BN n f178 c)) (aj (D.aO c.2.1.1 4) (ak (F120 n (D.aO c.2.1.2 1,())) (BN n f178 c)) (aj (D.aO c.2.1.1 5) (ak (F97
 n ()) (BN n f178 c)) (ak (F176 n (c.1,c.2.2.1,1,())) λd=>aj (D.aM d.1.2.1) (some (([],false,()),())) (aj (D.aM (D.aO d.1.1.2
 c.2.1.2)) (some (([],false,()),())) (aj (D.aM (D.aO (aq d.1.1.3) (aq c.2.1.4))) (some (([],false,()),())) (ak (@iter (NF) (ajv) (Unit)
 (Any) (λe=>aj (D.bN e.2.1 (aq c.2.1.4)) (aB (av e.2.1 c.2.1.4) (aB (av e.2.1 d.1.1.3) (ak (f178 (c.1,aN c.2.1.4 (ah e.2.1)
 aK,aN d.1.1.3 (ah e.2.1) az,())) λg=>aj (D.aM g.1.2.1) (some (LO.ret () ([],false,()))) (aB (cY e.1 g.1.1) (some (LO.next
 (cM e.1 g.1.1,D.add .i64 e.2.1 1,()))))))) (some (LO.out 0 e))) n ([],0,())) λe=>LO.el e (λ_ h=>some ((h.1,true,()),())) (λ_ h=>
 some (h,())) λ_ _=>none))))))))
def D178(n:Nat)(f178:Fn Ui K127 false)(apk:bC prog 178 (Vv f178)):bC prog 178 (Vv (B178 n f178)):=cq [k25 n,k97 n,adA n,OK n,⟨178,Vv f178,apk⟩] [(178,1,⟨[(10,.one (.own (.st 4))),(11,cW)],[],[],0⟩)] n 10 178
def R178(n k:Nat):(Fn Ui K127 false):=Nat.rec (motive:=λ_=>(Fn Ui K127 false)) (λ_=>none) (λ_ r=>B178 n r) k
def F178(n:Nat):Fn Ui K127 false:=(R178 n n)
def acQ(n:Nat):∀k,bC prog 178 (Vv (R178 n k))
 |0=>bY (enters 178 (by kernel_rfl))
 |k+1=>have ih:=acQ n k
  D178 n _ ih
def am3(n:Nat):OC:=⟨178,Vv (F178 n),(acQ n n)⟩
def F124:Nat->ai×Int×List ax×bp×List au×au×Unit->Option IS:=
 λn b=>ak (@iter (Int×Y72×Unit) (Unit) (Y72×Unit) (Any) (λc=>aj (D.bN c.1 (aq b.2.2.2.1.4)) (aB (av c.1 b.2.2.2.1.4) (ak (F178
 n (b.1,aN b.2.2.2.1.4 (ah c.1) aK,b.2.2.2.2.2)) λd=>aj d.1.2.1 (aB (av (D.add .i64 1 c.1) b.2.2.2.1.3) (aB (cY b.2.2.2.2.1
 d.1.1) (ak (F76 n (b.1,b.2.1,b.2.2.1,aN b.2.2.2.1.3 (ah (D.add .i64 1 c.1)) 0,cM b.2.2.2.2.1 d.1.1,())) λe=>some (LO.ret ((e.1.1.1.1,
 e.1.1.1.2,e.1.1.1.3,e.1.1.1.4,e.1.1.1.5,e.1.1.2,e.1.1.3.1,e.1.1.3.2,e.1.1.3.3,e.1.1.3.4.1,e.1.1.3.4.2,()),()) ())))) (some (LO.next (D.add .i64
 c.1 1,c.2))))) (some (LO.out 0 c))) n (0,([],[],[],[],0,0,0,0,0,0,0,()),())) λc=>LO.el c (λ_ _=>aB (av b.2.1 b.1.2) (aB
 (av (aN b.1.2 (ah b.2.1) 0) b.1.1) (aB (cw (ah (aN b.1.2 (ah b.2.1) 0)) b.1.1) (some ((aA.mk (ai.mk (dQ b.1.1 (ah
 (aN b.1.2 (ah b.2.1) 0)) (aE.mk 6 3 [] [])) b.1.2 b.1.3 b.1.4 b.1.5) 1 (aS.mk b.2.1 0 3 az),()),()))))) (λd _=>some
 ((aA.mk (ai.mk d.1.1 d.1.2.1 d.1.2.2.1 d.1.2.2.2.1 d.1.2.2.2.2.1) d.1.2.2.2.2.2.1 (aS.mk d.1.2.2.2.2.2.2.1
 d.1.2.2.2.2.2.2.2.1 d.1.2.2.2.2.2.2.2.2.1 (au.mk d.1.2.2.2.2.2.2.2.2.2.1 d.1.2.2.2.2.2.2.2.2.2.2.1)),()),())) λ_ _=>none
def anu(n:Nat):OC:=⟨124,⟨aqI,K121,false,F124 n⟩,cq [k76 n,am3 n] [(124,0,⟨[(13,cW),(0,b0z)],[.slot 12],[],0⟩)] n 10 124⟩
def KJ(b:abn):Bool:=
 av (aN b.2.1.2 (ah b.2.2.1) 0) b.2.1.1
def yL(b:abn):Nat:=
 ah (aN b.2.1.2 (ah b.2.2.1) 0)
def Ql(b:abn)(e:Int×Unit):List aE:=
 cM b.2.1.1 [aE.mk 5 0 [] (eo b.2.2.2.1 e.1 (aq b.2.2.2.1))]
def F125:Nat->abn->Option IS:=
 λn b=>ak (@iter (Int×Unit) (Unit) (Unit) (Any) (λc=>aj (D.eu 0 c.1) (aB (av c.1 b.2.2.2.1) (aB (av (aN b.2.2.2.1 (ah c.1)
 aX).1 b.1.1) (aj (D.aM (D.aO (aN b.1.1 (ah (aN b.2.2.2.1 (ah c.1) aX).1) aQ).1 26)) (some (LO.next (D.dN .i64 c.1 1,
 ()))) (some (LO.out 0 c))))) (some (LO.out 0 c))) n (D.dN .i64 (aq b.2.2.2.1) 1,())) λc=>LO.el c (λ_ e=>aj (D.bN e.1 0) (aB (av
 b.2.2.1 b.2.1.2) (aB (KJ b) (aB (cw (yL b) b.2.1.1) (some ((aA.mk (ai.mk (dQ b.2.1.1 (yL b) (aE.mk 6 3 []
 [])) b.2.1.2 b.2.1.3 b.2.1.4 b.2.1.5) 1 (aS.mk b.2.2.1 0 3 az),()),()))))) (aj (D.eu 120 (aq b.2.1.1)) (aB (av b.2.2.1 b.2.1.2)
 (aB (KJ b) (aB (cw (yL b) b.2.1.1) (some ((aA.mk (ai.mk (dQ b.2.1.1 (yL b) (aE.mk 6 4 [] [])) b.2.1.2 b.2.1.3
 b.2.1.4 b.2.1.5) 1 (aS.mk b.2.2.1 0 4 az),()),()))))) (aB (eW e.1 (aq b.2.2.2.1) (aq b.2.2.2.1)) (aB (cY b.2.1.1 [aE.mk 5
 0 [] (eo b.2.2.2.1 e.1 (aq b.2.2.2.1))]) (aB (eW 0 (D.add .i64 e.1 1) (aq b.2.2.2.1)) (ak (F117 n (D.dN .i64 (aq (Ql b e)) 1,()))
 λg=>ak (F74 n (b.2.2.2.2.2.1,g.1)) λh=>ak (F76 n (ai.mk (Ql b e) b.2.1.2 b.2.1.3 b.2.1.4 b.2.1.5,b.2.2.1,eo b.2.2.2.1 0
 (D.add .i64 e.1 1),b.2.2.2.2.1,h.1)) λi=>aj (D.aO i.1.1.2 1) (aB (av b.2.2.1 b.2.1.2) (aB (KJ b) (aB (cw (yL b) b.2.1.1) (some
 ((aA.mk (ai.mk (dQ b.2.1.1 (yL b) (aE.mk 6 i.1.1.3.3 [] [])) b.2.1.2 b.2.1.3 b.2.1.4 b.2.1.5) 1 (aS.mk b.2.2.1 0
 i.1.1.3.3 az),()),()))))) (some i))))))) (λ_ _=>some ((jb,()),())) λ_ _=>none
def ant(n:Nat):OC:=⟨125,⟨aqH,K121,false,F125 n⟩,cq [k74 n,k76 n,We n] [(125,0,⟨[(13,cW)],[],[],0⟩)] n 10 125⟩
def F129:Nat->aA×Int×Int×Int×au×Unit->Option IS:=
 λn b=>aj (D.aO b.1.2 1) (some ((b.1,()),())) (ak (F73 n b.2.2.2.2) λc=>some ((aA.mk b.1.1 1 (aS.mk b.2.1 b.2.2.1
 b.2.2.2.1 c.1.1),()),()))
def Tf(n:Nat):OC:=⟨129,⟨aqG,K121,false,F129 n⟩,cq [k73 n] [] n 10 129⟩
def jm(b:XO):Int:=
 aN b.1.2 (ah b.2.1) 0
def pM(b:XO):au:=
 aN b.2.2.2.2.1 (ah 0) az
def yK(b:XO):List aE:=
 cM b.1.1 [aE.mk 3 0 [pM b] []]
def BJ(b:XO):List aE:=
 dQ b.1.1 (ah (pM b).2) (aE.mk 3 0 [aN b.2.2.2.2.1 (ah 1) az] [])
def F126:Y88:=
 λn b=>aj (D.aO b.2.2.2.1 16) (aB (av 0 b.2.2.2.2.1) (aB (av 0 b.2.2.2.2.1) (aj (D.eu 120 (aq b.1.1)) (aB (av b.2.1 b.1.2) (aB
 (av (jm b) b.1.1) (aB (cw (ah (jm b)) b.1.1) (ak (F129 n (aA.mk (ai.mk (dQ b.1.1 (ah (jm b)) (aE.mk 6 4
 [] [])) b.1.2 b.1.3 b.1.4 b.1.5) 1 (aS.mk b.2.1 0 4 az),b.2.1,b.2.2.2.1,0,pM b,())) λc=>some c)))) (aB (cY b.1.1
 [aE.mk 3 0 [pM b] []]) (ak (F117 n (D.dN .i64 (aq (yK b)) 1,())) λc=>aB (av b.2.1 b.1.2) (aB (cw (ah b.2.1) b.1.2) (aB
 (av (jm b) (yK b)) (aB (cw (ah (jm b)) (yK b)) (ak (F129 n (aA.mk (ai.mk (dQ (yK b) (ah (jm b))
 (aE.mk 6 0 [c.1.1] b.2.2.1)) b.1.2 b.1.3 b.1.4 b.1.5) 0 aZ,b.2.1,b.2.2.2.1,0,pM b,())) λd=>some d))))))))) (aB (av 0
 b.2.2.2.2.1) (ak (F176 n (b.1,pM b,3,())) λc=>aj (D.aM c.1.2.1) (aB (av b.2.1 b.1.2) (aB (av (jm b) b.1.1) (aB (cw (ah
 (jm b)) b.1.1) (some ((aA.mk (ai.mk (dQ b.1.1 (ah (jm b)) (aE.mk 6 2 [] [])) b.1.2 b.1.3 b.1.4 b.1.5) 1
 (aS.mk b.2.1 0 2 az),()),()))))) (aj (D.aO b.2.2.2.1 17) (aB (av 0 c.1.1.3) (aB (av 0 c.1.1.3) (aB (av b.2.1 b.1.2) (aB
 (av (jm b) b.1.1) (aB (cw (ah (jm b)) b.1.1) (ak (F129 n (aA.mk (ai.mk (dQ b.1.1 (ah (jm b)) (aE.mk 6 0
 [aN c.1.1.3 (ah 0) az] b.2.2.1)) b.1.2 b.1.3 b.1.4 b.1.5) 0 aZ,b.2.1,b.2.2.2.1,0,aN c.1.1.3 (ah 0) az,())) λd=>some
 d)))))) (aB (av 0 b.2.2.2.2.1) (aB (av 1 b.2.2.2.2.1) (aB (av (pM b).2 b.1.1) (aB (cw (ah (pM b).2) b.1.1) (ak (F97 n ()) λd
 =>aB (av 1 b.2.2.2.2.1) (aB (av b.2.1 b.1.2) (aB (cw (ah b.2.1) b.1.2) (aB (av (jm b) (BJ b)) (aB (cw (ah (jm b))
 (BJ b)) (ak (F129 n (aA.mk (ai.mk (dQ (BJ b) (ah (jm b)) (aE.mk 6 0 [d.1.1] b.2.2.1)) b.1.2 b.1.3 b.1.4 b.1.5)
 0 aZ,b.2.1,b.2.2.2.1,0,aN b.2.2.2.2.1 (ah 1) az,())) λe=>some e)))))))))))))
def ans(n:Nat):OC:=⟨126,⟨afo,K121,false,F126 n⟩,cq [k97 n,We n,Tf n,OK n] [] n 10 126⟩
def Qk:Y72:=
 ([],[],[],[],0,0,0,0,0,0,0,())
def Gt(b:NG):Bool:=
 av b.2.2.1 b.2.1.2
def KI(b:NG):Bool:=
 av (aN b.2.1.2 (ah b.2.2.1) 0) b.2.1.1
def vL(b:NG):Nat:=
 ah (aN b.2.1.2 (ah b.2.2.1) 0)
def BI(b:NG):List aE:=
 dQ b.2.1.1 (vL b) (aE.mk 6 4 [] [])
def Gs(b:NG)(g:Ua):Int×Int×Int×au×Unit:=
 (b.2.2.1,19,0,g.1)
def Qj(e:abk):List aE:=
 [aE.mk e.2.2.1.1 e.2.2.1.2.1 e.2.2.1.2.2.1 e.2.2.1.2.2.2.1]
def Gr(b:NG)(e:abk):List aE:=
 cM b.2.1.1 (Qj e)
def Gq(b:NG)(e:abk)(g:Ua):List aE:=
 dQ (Gr b e) (vL b) (aE.mk 6 0 [g.1.1] b.2.2.2.1)
def F127:Nat->NG->Option IS:=
 λn b=>ak (F176 n (b.2.1,b.2.2.2.2.1,5,())) λc=>ak (aj c.1.2.1 (ak (F97 n ()) λd=>some (LO.next (true,Qk,(6,0,[d.1.1],
 c.1.1.4,()),()))) (ak (F97 n ()) λd=>ak (F177 n (b.1,b.2.1,b.2.2.2.2.1,d.1)) λe=>aj (D.aM e.1.2.1) (aB (Gt b) (aB (KI b)
 (aB (cw (vL b) b.2.1.1) (some (LO.ret ((dQ b.2.1.1 (vL b) (aE.mk 6 2 [] []),b.2.1.2,b.2.1.3,b.2.1.4,b.2.1.5,1,b.2.2.1,0,2,0,
 0,()),(6,0,[],[],()),()) ()))))) (aj (D.bN 30 (aq e.1.1.2)) (aB (Gt b) (aB (KI b) (aB (cw (vL b) b.2.1.1) (some (LO.ret
 ((BI b,b.2.1.2,b.2.1.3,b.2.1.4,b.2.1.5,1,b.2.2.1,0,4,0,0,()),(6,0,[],[],()),()) ()))))) (some (LO.next (false,Qk,(6,0,[],
 [e.1.1],()),())))))) λ(d:LO abk Unit (Y72×yU×Unit) Any)=>LO.jn d (λe=>aj (D.eu 120 (aq b.2.1.1)) (aB (Gt b) (aB (KI
 b) (aB (cw (vL b) b.2.1.1) (aj (D.aM true) (aB (cY b.2.1.2 [D.dN .i64 (aq (BI b)) 1]) (ak (F97 n ()) λg=>ak (F129 n
 (aA.mk (ai.mk (BI b) (cM b.2.1.2 [D.dN .i64 (aq (BI b)) 1]) b.2.1.3 b.2.1.4 b.2.1.5) 1 (aS.mk b.2.2.1 0 4
 az),Gs b g)) λh=>some h)) (ak (F97 n ()) λg=>ak (F129 n (aA.mk (ai.mk (BI b) b.2.1.2 b.2.1.3 b.2.1.4
 b.2.1.5) 1 (aS.mk b.2.2.1 0 4 az),Gs b g)) λh=>some h))))) (aB (cY b.2.1.1 (Qj e)) (ak (F117 n (D.dN .i64 (aq
 (Gr b e)) 1,())) λg=>aB (Gt b) (aB (cw (ah b.2.2.1) b.2.1.2) (aB (av (aN b.2.1.2 (ah b.2.2.1) 0) (Gr b e)) (aB (cw
 (vL b) (Gr b e)) (aj (D.aM false) (aB (cY b.2.1.2 [D.dN .i64 (aq (Gq b e g)) 1]) (ak (F97 n ()) λh=>ak (F129 n
 (aA.mk (ai.mk (Gq b e g) (cM b.2.1.2 [D.dN .i64 (aq (Gq b e g)) 1]) b.2.1.3 b.2.1.4 b.2.1.5) 0 aZ,Gs b
 h)) λi=>some i)) (ak (F97 n ()) λh=>ak (F129 n (aA.mk (ai.mk (Gq b e g) b.2.1.2 b.2.1.3 b.2.1.4 b.2.1.5) 0
 aZ,Gs b h)) λi=>some i)))))))) (λ_ _=>none) (λe _=>some ((aA.mk (ai.mk e.1.1 e.1.2.1 e.1.2.2.1
 e.1.2.2.2.1 e.1.2.2.2.2.1) e.1.2.2.2.2.2.1 (aS.mk e.1.2.2.2.2.2.2.1 e.1.2.2.2.2.2.2.2.1 e.1.2.2.2.2.2.2.2.2.1 (au.mk
 e.1.2.2.2.2.2.2.2.2.2.1 e.1.2.2.2.2.2.2.2.2.2.2.1)),()),())) λ_ _=>none
def anr(n:Nat):OC:=⟨127,⟨aqF,K121,false,F127 n⟩,cq [k97 n,We n,Tf n,OK n,ag9 n] [(127,1000004,⟨[(24,cZ),(0,b0z),(0,aiX)],[.slot 10,.slot 11],[],0⟩)] n 10 127⟩
def KH(b:ae3):Bool:=
 av (aN b.1.2 (ah b.2.1) 0) b.1.1
def yJ(b:ae3):Nat:=
 ah (aN b.1.2 (ah b.2.1) 0)
def F128:Nat->ae3->Option IS:=
 λn b=>ak (F176 n (b.1,b.2.2.2.1,6,())) λc=>aj (D.aM c.1.2.1) (aB (av b.2.1 b.1.2) (aB (KH b) (aB (cw (yJ b) b.1.1)
 (some ((aA.mk (ai.mk (dQ b.1.1 (yJ b) (aE.mk 6 2 [] [])) b.1.2 b.1.3 b.1.4 b.1.5) 1 (aS.mk b.2.1 0 2 az),
 ()),()))))) (aj (D.aO c.1.1.2 0) (some ((aA.mk b.1 2 aZ,()),())) (aj (D.aM (D.aO c.1.1.2 1)) (aB (av b.2.1 b.1.2) (aB
 (KH b) (aB (cw (yJ b) b.1.1) (some ((aA.mk (ai.mk (dQ b.1.1 (yJ b) (aE.mk 6 c.1.1.2 [] [])) b.1.2 b.1.3 b.1.4
 b.1.5) 1 (aS.mk b.2.1 0 c.1.1.2 az),()),()))))) (aB (av 0 c.1.1.3) (aB (av 0 c.1.1.3) (aB (av b.2.1 b.1.2) (aB (KH b) (aB
 (cw (yJ b) b.1.1) (ak (F129 n (aA.mk (ai.mk (dQ b.1.1 (yJ b) (aE.mk 6 0 [aN c.1.1.3 (ah 0) az] b.2.2.1))
 b.1.2 b.1.3 b.1.4 b.1.5) 0 aZ,b.2.1,20,0,aN c.1.1.3 (ah 0) az,())) λd=>some d))))))))
def anq(n:Nat):OC:=⟨128,⟨aqE,K121,false,F128 n⟩,cq [Tf n,OK n] [] n 10 128⟩
def pL(b:XO):Int:=
 aN b.1.2 (ah b.2.1) 0
def BH(b:XO):Nat:=
 ah (aN b.2.2.2.2.1 (ah 0) az).2
def Gp(b:XO)(d:Y44):List aE:=
 dQ b.1.1 (BH b) (aE.mk 4 0 d.1.1 [])
def Gn(b:XO)(c:Y34×Unit):List aE:=
 dQ b.1.1 (BH b) (aE.mk 4 0 (eo c.1.1.3 1 (aq c.1.1.3)) [])
def F130:Y88:=
 λn b=>aB (av 0 b.2.2.2.2.1) (ak (F176 n (b.1,aN b.2.2.2.2.1 (ah 0) az,4,())) λc=>aj (D.aM c.1.2.1) (aB (av b.2.1 b.1.2)
 (aB (av (pL b) b.1.1) (aB (cw (ah (pL b)) b.1.1) (some ((aA.mk (ai.mk (dQ b.1.1 (ah (pL b)) (aE.mk 6 2
 [] [])) b.1.2 b.1.3 b.1.4 b.1.5) 1 (aS.mk b.2.1 0 2 az),()),()))))) (aj (D.aO b.2.2.2.1 22) (aj (D.eu 4 (aq c.1.1.3)) (some
 ((aA.mk b.1 2 aZ,()),())) (aB (av 0 b.2.2.2.2.1) (aB (av 1 b.2.2.2.2.1) (ak (F74 n (c.1.1.3,aN b.2.2.2.2.1 (ah 1)
 az,())) λd=>aB (av (aN b.2.2.2.2.1 (ah 0) az).2 b.1.1) (aB (cw (BH b) b.1.1) (ak (F97 n ()) λe=>aB (av 1
 b.2.2.2.2.1) (aB (av b.2.1 b.1.2) (aB (cw (ah b.2.1) b.1.2) (aB (av (pL b) (Gp b d)) (aB (cw (ah (pL b)) (Gp b d)) (ak
 (F129 n (aA.mk (ai.mk (dQ (Gp b d) (ah (pL b)) (aE.mk 6 0 [e.1.1] b.2.2.1)) b.1.2 b.1.3 b.1.4 b.1.5) 0 aZ,
 b.2.1,b.2.2.2.1,0,aN b.2.2.2.2.1 (ah 1) az,())) λg=>some g))))))))))) (aj (D.aO (aq c.1.1.3) 0) (some ((aA.mk b.1 2
 aZ,()),())) (aB (av 0 b.2.2.2.2.1) (aB (eW 1 (aq c.1.1.3) (aq c.1.1.3)) (aB (av (aN b.2.2.2.2.1 (ah 0) az).2 b.1.1)
 (aB (cw (BH b) b.1.1) (aB (av 0 c.1.1.3) (aB (av 0 c.1.1.3) (aB (av b.2.1 b.1.2) (aB (cw (ah b.2.1) b.1.2) (aB (av (pL b)
 (Gn b c)) (aB (cw (ah (pL b)) (Gn b c)) (ak (F129 n (aA.mk (ai.mk (dQ (Gn b c) (ah (pL b)) (aE.mk
 6 0 [aN c.1.1.3 (ah 0) az] b.2.2.1)) b.1.2 b.1.3 b.1.4 b.1.5) 0 aZ,b.2.1,b.2.2.2.1,0,aN c.1.1.3 (ah 0) az,())) λd=>
 some d))))))))))))))
def anp(n:Nat):OC:=⟨130,⟨afo,K121,false,F130 n⟩,cq [k74 n,k97 n,Tf n,OK n] [] n 10 130⟩
def BG(b:Ub):Bool:=
 cw (ah b.2.1) b.1.2
def BF(b:Ub):Bool:=
 av (aN b.1.2 (ah b.2.1) 0) b.1.1
def yI(b:Ub):Nat:=
 ah (aN b.1.2 (ah b.2.1) 0)
def BE(b:Ub):Bool:=
 cw (yI b) b.1.1
def KG(n:Nat)(b:Ub):Option IS:=
 aB (av b.2.1 b.1.2) (aB (BG b) (aB (BF b) (aB (BE b) (some ((aA.mk (ai.mk (dQ b.1.1 (yI b) (aE.mk 6 4
 [] [])) b.1.2 b.1.3 b.1.4 b.1.5) 1 (aS.mk b.2.1 0 4 az),()),())))))
def F131:Nat->Ub->Option IS:=
 λn b=>aj (D.aO b.2.2.2.1.1 25) (aj (D.aO (aq b.1.4) 0) (some ((aA.mk b.1 2 aZ,()),())) (aB (av 0 b.1.4) (aB (cw
 (ah 0) b.1.4) (ak (F25 n (aN b.1.4 (ah 0) 0,())) λc=>aj (D.eu 1000000000 b.1.5) (KG n b) (aB (eW 1 (aq b.1.4) (aq b.1.4)) (aB
 (av b.2.1 b.1.2) (aB (BG b) (aB (BF b) (aB (BE b) (ak (F129 n (aA.mk (ai.mk (dQ b.1.1 (yI b) (aE.mk 6 0
 [c.1.1] b.2.2.1)) b.1.2 b.1.3 (eo b.1.4 1 (aq b.1.4)) (D.add .i64 b.1.5 1)) 0 aZ,b.2.1,b.2.2.2.1.1,0,c.1)) λd=>some d))))))))))
 (aB (av 0 b.2.2.2.2.1) (aj (D.aM (D.aO (aN b.2.2.2.2.1 (ah 0) az).1 1)) (aB (av b.2.1 b.1.2) (aB (BG b) (aB (BF b) (aB
 (BE b) (some ((aA.mk (ai.mk (dQ b.1.1 (yI b) (aE.mk 6 2 [] [])) b.1.2 b.1.3 b.1.4 b.1.5) 1 (aS.mk b.2.1 0 2
 az),()),())))))) (aj (D.eu 100 (aq b.1.3)) (KG n b) (aB (av 0 b.2.2.2.2.1) (aB (cY b.1.3 [dW.mk b.2.2.2.1.2 (aN b.2.2.2.2.1
 (ah 0) az).2]) (ak (F97 n ()) λc=>aB (av 0 b.2.2.2.2.1) (aB (av b.2.1 b.1.2) (aB (BG b) (aB (BF b) (aB (BE b) (ak
 (F129 n (aA.mk (ai.mk (dQ b.1.1 (yI b) (aE.mk 6 0 [c.1.1] b.2.2.1)) b.1.2 (cM b.1.3 [dW.mk b.2.2.2.1.2 (aN
 b.2.2.2.2.1 (ah 0) az).2]) b.1.4 b.1.5) 0 aZ,b.2.1,b.2.2.2.1.1,b.2.2.2.1.2,aN b.2.2.2.2.1 (ah 0) az,())) λd=>some
 d)))))))))))
def ano(n:Nat):OC:=⟨131,⟨aqD,K121,false,F131 n⟩,cq [k25 n,k97 n,Tf n] [] n 10 131⟩
def cu(b:uc):bp:=
 aN b.1.1 (ah b.2.2.2.2.1.1) aQ
def kD(b:uc):Bool:=
 av b.2.2.1 b.2.1.2
def iz(b:uc):Int:=
 aN b.2.1.2 (ah b.2.2.1) 0
def mg(b:uc):Bool:=
 av (iz b) b.2.1.1
def me(b:uc):Bool:=
 cw (ah (iz b)) b.2.1.1
def qv(b:uc)(c:Ua):aE:=
 aE.mk 6 0 [c.1.1] b.2.2.2.1
def tR(b:uc)(c:Ua):aA:=
 aA.mk (ai.mk (dQ b.2.1.1 (ah (iz b)) (qv b c)) b.2.1.2 b.2.1.3 b.2.1.4 b.2.1.5) 0 aZ
def rW(n:Nat)(b:uc):Ua->Option IS:=
 λc=>aB (kD b) (aB (mg b) (aB (me b) (some ((tR b c,()),()))))
def CD(n:Nat)(b:uc):Option IS:=
 aB (kD b) (aB (mg b) (aB (me b) (some ((aA.mk (ai.mk (dQ b.2.1.1 (ah (iz b)) (aE.mk 6 2 [] [])) b.2.1.2
 b.2.1.3 b.2.1.4 b.2.1.5) 1 (aS.mk b.2.2.1 0 2 az),()),()))))
def Gb(b:uc):aA:=
 aA.mk (ai.mk (dQ b.2.1.1 (ah (iz b)) (aE.mk 6 4 [] [])) b.2.1.2 b.2.1.3 b.2.1.4 b.2.1.5) 1 (aS.mk b.2.2.1 0 4
 az)
def Kv(n:Nat)(b:uc):Option IS:=
 aB (kD b) (aB (mg b) (aB (me b) (some ((Gb b,()),()))))
def Ga(b:uc):List aE:=
 cM b.2.1.1 [aE.mk 2 b.2.2.2.2.1.1 b.2.2.2.2.1.2 []]
def hG(b:uc):Bool:=
 av 0 b.2.2.2.2.1.3
def gK(b:uc):au:=
 aN b.2.2.2.2.1.3 (ah 0) az
def gz(n:Nat):NH->Option NH:=
 λc=>LO.jn c (λd=>some (LO.next d)) (λ_ _=>none) (λ_ _=>some (LO.ret () ())) λ_ _=>none
def FZ(b:uc):List aE:=
 cM b.2.1.1 [aE.mk 1 (cu b).2 b.2.2.2.2.1.3 []]
def yE(b:uc):XO:=
 (b.2.1,b.2.2.1,b.2.2.2.1,(cu b).1,b.2.2.2.2.1.3,())
def FY(b:uc):List aE:=
 cM b.2.1.1 [aE.mk 4 0 [] []]
def Ku(n:Nat):Unit->Unit->Option IS:=
 λ_ _=>some ((jb,()),())
def F77:Nat->uc->Option IS:=
 λn b=>aB (av b.2.2.2.2.1.1 b.1.1) (aj (D.aO (cu b).1 1) (ak (F25 n ((cu b).2,())) (rW n b)) (aj (D.aO (cu b).1 2) (ak (F120
 n (D.aO (cu b).2 1,())) (rW n b)) (aj (D.aO (cu b).1 3) (ak (F97 n ()) (rW n b)) (aj (D.aO (cu b).1 4) (aj (D.bN (cu b).2 0)
 (aB (kD b) (aB (mg b) (aB (me b) (some ((aA.mk (ai.mk (dQ b.2.1.1 (ah (iz b)) (aE.mk 6 0 [au.mk 4
 (D.dN .i64 (-1) (cu b).2)] b.2.2.2.1)) b.2.1.2 b.2.1.3 b.2.1.4 b.2.1.5) 0 aZ,()),()))))) (aj (D.eu (aq b.2.2.2.2.1.2) (cu b).2)
 (CD n b) (aB (av (cu b).2 b.2.2.2.2.1.2) (aB (kD b) (aB (mg b) (aB (me b) (some ((aA.mk (ai.mk (dQ b.2.1.1
 (ah (iz b)) (aE.mk 6 0 [aN b.2.2.2.2.1.2 (ah (cu b).2) az] b.2.2.2.1)) b.2.1.2 b.2.1.3 b.2.1.4 b.2.1.5) 0 aZ,()),
 ())))))))) (aj (D.aO (cu b).1 5) (aj (D.eu 120 (aq b.2.1.1)) (Kv n b) (aB (cY b.2.1.1 [aE.mk 2 b.2.2.2.2.1.1 b.2.2.2.2.1.2 []])
 (ak (F117 n (D.dN .i64 (aq (Ga b)) 1,())) λc=>aB (kD b) (aB (cw (ah b.2.2.1) b.2.1.2) (aB (av (iz b) (Ga b)) (aB
 (cw (ah (iz b)) (Ga b)) (some ((aA.mk (ai.mk (dQ (Ga b) (ah (iz b)) (qv b c)) b.2.1.2 b.2.1.3 b.2.1.4
 b.2.1.5) 0 aZ,()),())))))))) (aj (D.aO (cu b).1 6) (aB (hG b) (aB (av 1 b.2.2.2.2.1.3) (ak (F122 n (b.1,b.2.1,b.2.2.1,
 b.2.2.2.1,gK b,aN b.2.2.2.2.1.3 (ah 1) az,())) λc=>some c))) (aj (D.aO (cu b).1 7) (aB (av 1 (cu b).3) (aB (hG b)
 (ak (F74 n (b.2.2.2.2.1.2,gK b,())) λc=>ak (F76 n (b.2.1,b.2.2.1,b.2.2.2.1,aN (cu b).3 (ah 1) 0,c.1)) λd=>some d))) (aj
 (D.aO (cu b).1 8) (aB (hG b) (aj (D.aM (D.aO (gK b).1 2)) (CD n b) (aB (hG b) (aB (av (D.dN .i64 2 (gK b).2) (cu
 b).3) (ak (F76 n (b.2.1,b.2.2.1,b.2.2.2.1,aN (cu b).3 (ah (D.dN .i64 2 (gK b).2)) 0,b.2.2.2.2.1.2,())) λc=>some c))))) (ak (aj
 (D.aO (cu b).1 9) (some (LO.next (true,()))) (ak (aj (D.aO (cu b).1 10) (some (LO.next (true,()))) (ak (aj (D.aO (cu b).1 11) (some
 (LO.next (true,()))) (ak (aj (D.aO (cu b).1 12) (some (LO.next (true,()))) (some (LO.next (D.aO (cu b).1 13,())))) (gz n))) (gz
 n))) (gz n))) λ(c:NH)=>LO.jn c (λd=>aj d.1 (aB (hG b) (aB (av 1 b.2.2.2.2.1.3) (ak (F123 n (b.2.1,b.2.2.1,b.2.2.2.1,
 (cu b).1,gK b,aN b.2.2.2.2.1.3 (ah 1) az,())) λe=>some e))) (aj (D.aO (cu b).1 14) (aj (D.eu 120 (aq b.2.1.1)) (Kv
 n b) (aB (cY b.2.1.1 [aE.mk 1 (cu b).2 b.2.2.2.2.1.3 []]) (ak (F117 n (D.dN .i64 (aq (FZ b)) 1,())) λe=>aB (kD b) (aB
 (cw (ah b.2.2.1) b.2.1.2) (aB (av (iz b) (FZ b)) (aB (cw (ah (iz b)) (FZ b)) (some ((aA.mk (ai.mk (dQ
 (FZ b) (ah (iz b)) (qv b e)) b.2.1.2 b.2.1.3 b.2.1.4 b.2.1.5) 0 aZ,()),())))))))) (aj (D.aO (cu b).1 15) (aB (hG b)
 (ak (F124 n (b.2.1,b.2.2.1,b.2.2.2.1,cu b,b.2.2.2.2.1.2,gK b,())) λe=>some e)) (aj (D.aO (cu b).1 26) (aB (hG b) (aB
 (kD b) (aB (mg b) (aB (me b) (some ((aA.mk (ai.mk (dQ b.2.1.1 (ah (iz b)) (aE.mk 6 0 [gK b] b.2.2.2.1))
 b.2.1.2 b.2.1.3 b.2.1.4 b.2.1.5) 0 aZ,()),())))))) (aj (D.aO (cu b).1 27) (aB (av 0 (cu b).3) (ak (F125 n (b.1,b.2.1,b.2.2.1,
 b.2.2.2.1,aN (cu b).3 (ah 0) 0,b.2.2.2.2.1.2,())) λe=>some e)) (ak (aj (D.aO (cu b).1 16) (some (LO.next (true,()))) (ak (aj
 (D.aO (cu b).1 17) (some (LO.next (true,()))) (some (LO.next (D.aO (cu b).1 18,())))) λ(e:NH)=>LO.jn e (λg=>some (LO.next g))
 (λ_ _=>none) (λ_ _=>some (LO.ret () ())) λ_ _=>none)) λ(e:NH)=>LO.jn e (λg=>aj g.1 (ak (F126 n (yE b)) λh=>some
 h) (aj (D.aO (cu b).1 19) (aB (hG b) (ak (F127 n (b.1,b.2.1,b.2.2.1,b.2.2.2.1,gK b,())) λh=>some h)) (aj (D.aO (cu b).1
 20) (aB (hG b) (ak (F128 n (b.2.1,b.2.2.1,b.2.2.2.1,gK b,())) λh=>some h)) (aj (D.aO (cu b).1 21) (aj (D.eu 120 (aq
 b.2.1.1)) (aB (kD b) (aB (mg b) (aB (me b) (ak (F97 n ()) λh=>ak (F129 n (Gb b,b.2.2.1,(cu b).1,0,h.1)) λi=>some
 i)))) (aB (cY b.2.1.1 [aE.mk 4 0 [] []]) (ak (F117 n (D.dN .i64 (aq (FY b)) 1,())) λh=>aB (kD b) (aB (cw (ah b.2.2.1)
 b.2.1.2) (aB (av (iz b) (FY b)) (aB (cw (ah (iz b)) (FY b)) (ak (F97 n ()) λi=>ak (F129 n (aA.mk (ai.mk
 (dQ (FY b) (ah (iz b)) (qv b h)) b.2.1.2 b.2.1.3 b.2.1.4 b.2.1.5) 0 aZ,b.2.2.1,(cu b).1,0,i.1)) λj=>some j)))))))
 (ak (aj (D.aO (cu b).1 22) (some (LO.next (true,()))) (some (LO.next (D.aO (cu b).1 23,())))) λ(h:NH)=>LO.jn h (λi=>aj i.1
 (ak (F130 n (yE b)) λj=>some j) (ak (aj (D.aO (cu b).1 24) (some (LO.next (true,()))) (some (LO.next (D.aO (cu b).1 25,())))) λ
 (j:NH)=>LO.jn j (λk=>aj k.1 (ak (F131 n (b.2.1,b.2.2.1,b.2.2.2.1,cu b,b.2.2.2.2.1.3,())) λl=>some l) (ak (F97 n ()) λl=>
 aB (kD b) (aB (mg b) (aB (me b) (ak (F97 n ()) λm=>ak (F129 n (tR b l,b.2.2.1,28,0,m.1)) λo=>some o))))) (λ_ _=>
 none) (Ku n) λ_ _=>none)) (λ_ _=>none) (Ku n) λ_ _=>none))))) (λ_ _=>none) (Ku n) λ_ _=>none)))))) (λ_ _=>
 none) (Ku n) λ_ _=>none)))))))))
def k77(n:Nat):OC:=⟨77,⟨aqC,K121,false,F77 n⟩,cq [k25 n,k74 n,k76 n,k97 n,We n,adA n,anw n,anv n,anu n,ant n,ans n,anr n,anq n,Tf n,anp n,ano n] [(77,1000026,⟨[(146,cZ)],[],[],0⟩),(77,1000027,⟨[(146,cZ)],[],[],0⟩),(77,1000028,⟨[(146,cZ)],[],[],0⟩),(77,1000029,⟨[(146,cZ)],[],[],0⟩),(77,1000040,⟨[(208,cZ)],[],[],0⟩),(77,1000041,⟨[(208,cZ)],[],[],0⟩),(77,1000050,⟨[(250,cZ)],[],[],0⟩),(77,1000053,⟨[(260,cZ)],[],[],0⟩)] n 10 77⟩
def Se(b:Y31):Bool:=
 av (aN b.2.1.2 (ah b.2.2.1) 0) b.2.1.1
def lu(b:Y31):Nat:=
 ah (aN b.2.1.2 (ah b.2.2.1) 0)
def tT(b:Y31):Int:=
 D.dN .i64 (aq (aN b.2.1.1 (lu b) aR).4) 1
def Sd(b:Y31):Bool:=
 av (tT b) (aN b.2.1.1 (lu b) aR).4
def rX(b:Y31):ax:=
 aN (aN b.2.1.1 (lu b) aR).4 (ah (tT b)) aX
def F40:Nat->Y31->Option IS:=
 λn b=>aB (av b.2.2.1 b.2.1.2) (aB (Se b) (aj (D.aM (D.aO (aN b.2.1.1 (lu b) aR).2 0)) (some ((aA.mk b.2.1 2
 aZ,()),())) (aj (D.aO (aq (aN b.2.1.1 (lu b) aR).3) 1) (aB (av 0 (aN b.2.1.1 (lu b) aR).3) (aj (D.bN (tT b)
 0) (aB (av b.2.2.1 b.2.1.2) (aB (Se b) (aB (cw (lu b) b.2.1.1) (ak (F73 n (aN (aN b.2.1.1 (lu b) aR).3 (ah 0) az,()))
 λc=>some ((aA.mk (ai.mk (dQ b.2.1.1 (lu b) (aE.mk 6 1 [aN (aN b.2.1.1 (lu b) aR).3 (ah 0) az] []))
 b.2.1.2 b.2.1.3 b.2.1.4 b.2.1.5) 1 (aS.mk b.2.2.1 0 1 c.1.1),()),()))))) (aB (Sd b) (aB (cw (ah (tT b)) (aN b.2.1.1 (lu b)
 aR).4) (ak (F74 n ((rX b).3,aN (aN b.2.1.1 (lu b) aR).3 (ah 0) az,())) λc=>aB (Sd b) (aB (cw (ah (tT
 b)) (aN b.2.1.1 (lu b) aR).4) (aB (av b.2.2.1 b.2.1.2) (aB (Se b) (aB (cw (lu b) b.2.1.1) (some ((aA.mk
 (ai.mk (dQ b.2.1.1 (lu b) (aE.mk 6 0 [] (dQ (aN b.2.1.1 (lu b) aR).4 (ah (tT b)) (ax.mk (rX b).1 (rX
 b).2 c.1.1)))) b.2.1.2 b.2.1.3 b.2.1.4 b.2.1.5) 0 aZ,()),()))))))))))) (aB (Sd b) (aB (av (rX b).1 b.1.1) (ak (F75 n (aN b.1.1
 (ah (rX b).1) aQ,())) λc=>aj (D.bN (aq (rX b).3) c.1.1) (aB (av (aq (rX b).3) (aN b.1.1 (ah (rX b).1)
 aQ).3) (ak (F76 n (b.2.1,b.2.2.1,(aN b.2.1.1 (lu b) aR).4,aN (aN b.1.1 (ah (rX b).1) aQ).3 (ah (aq (rX b).3))
 0,(rX b).2,())) λd=>some d)) (aB (eW 0 (tT b) (aq (aN b.2.1.1 (lu b) aR).4)) (ak (F77 n (b.1,b.2.1,b.2.2.1,eo (aN
 b.2.1.1 (lu b) aR).4 0 (tT b),rX b,())) λd=>some d))))))))
def k40(n:Nat):OC:=⟨40,⟨P68,K121,false,F40 n⟩,cq [k73 n,k74 n,k75 n,k76 n,k77 n] [] n 10 40⟩
def Yq(c:Y71):ai:=
 ai.mk c.2.2.1.1 c.2.2.1.2.1 c.2.2.1.2.2.1 c.2.2.1.2.2.2.1 c.2.2.1.2.2.2.2.1
def IZ(g:IS):Y72×Unit:=
 ((g.1.1.1.1,g.1.1.1.2,g.1.1.1.3,g.1.1.1.4,g.1.1.1.5,g.1.1.2,g.1.1.3.1,g.1.1.3.2,g.1.1.3.3,g.1.1.3.4.1,g.1.1.3.4.2,()),())
def F33:Nat->Y31->Option Y73:=
 λn b=>ak (@iter (Y71) (Int×Bool×Unit) (ua×ua×Unit) (Any) (λc=>aj (D.bN c.2.1 (aq c.2.2.1.2.1)) (ak (F40 n (b.1,Yq c,
 c.2.1,())) λd=>ak (@iter (Int×ua×ua×Y72×Unit) (Int×Bool×Unit) (ua×ua×Y72×Unit) (Any) (λe=>aj (D.aO
 e.2.2.2.1.2.2.2.2.2.1 0) (aj (D.bN 5000 (D.add .i64 e.1 1)) (some (LO.ret (e.2.1,e.2.1,e.2.2.2) (D.add .i64 e.1 1,false,()))) (ak (F40 n (b.1,
 ai.mk e.2.2.2.1.1 e.2.2.2.1.2.1 e.2.2.2.1.2.2.1 e.2.2.2.1.2.2.2.1 e.2.2.2.1.2.2.2.2.1,c.2.1,())) λg=>some (LO.next (D.add .i64 e.1 1,
 (e.2.2.2.1.1,e.2.2.2.1.2.1,e.2.2.2.1.2.2.1,e.2.2.2.1.2.2.2.1,e.2.2.2.1.2.2.2.2.1,()),e.2.2.1,IZ g)))) (some (LO.out 0 e))) n (c.1,c.2.2.1,
 c.2.2.2.1,IZ d)) λe=>LO.el e (λ_ h=>some (LO.next (h.1,D.add .i64 c.2.1 1,h.2.1,h.2.2.1,()))) (λg h=>some (LO.ret (g.1,g.2.1,
 ()) h)) λ_ _=>none) (some (LO.out 0 c))) n (b.2.2.1,0,(b.2.1.1,b.2.1.2,b.2.1.3,b.2.1.4,b.2.1.5,()),([],[],[],[],0,()),())) λc=>
 LO.el c (λ_ e=>some ((Yq e,e.1,true,()),())) (λd e=>some ((ai.mk d.2.1.1 d.2.1.2.1 d.2.1.2.2.1 d.2.1.2.2.2.1 d.2.1.2.2.2.2.1,
 e),())) λ_ _=>none
def k33(n:Nat):OC:=⟨33,⟨P68,K135,false,F33 n⟩,cq [k40 n] [(33,0,⟨[(2,cW),(9,cW),(0,b4z),(0,b4z)],[.slot 4,.slot 6],[],0⟩),(33,2,⟨[(2,cW),(0,b4z),(0,b4z),(0,b0z)],[.slot 4,.slot 6,.slot 10],[],0⟩)] n 10 33⟩
def F56:Nat->Y29->Y38:=
 λn b=>aB (av b.1.3 b.1.2) (ak (F97 n ()) λc=>some ((ai.mk [aE.mk 6 0 [] [ax.mk (aN b.1.2 (ah b.1.3) 0) [c.1.1] []]]
 [0] [] b.2.1 0,()),()))
def k56(n:Nat):OC:=⟨56,⟨P54,K53,false,F56 n⟩,cq [k97 n] [] n 10 56⟩
def F18:Nat->Y29->Option ((ai×Bool×Unit)×Unit):=
 λn b=>ak (F56 n b) λc=>ak (F33 n (b.1,c.1.1,0,())) λd=>some ((d.1.1,d.1.2.2),())
def k18(n:Nat):OC:=⟨18,⟨P54,K136,false,F18 n⟩,cq [k33 n,k56 n] [] n 10 18⟩
def afE(n:Nat)(d:Y30):Option fe:=
 ak (F17 n (d.1.1,())) λg=>aj g.1.1 (ak (F13 n ()) λh=>some h) (some ((false,()),()))
def F3:Nat->Y29->Option fe:=
 λn b=>ak (F12 n (b.1,())) λc=>aj (D.aM c.1.1) (ak (F13 n ()) λd=>some d) (aj (D.bN 60 (aq b.2.1)) (ak (F13 n ()) λd=>
 some d) (ak (F14 n b) λd=>ak (F15 n (b.1,())) λe=>aj (D.aM e.1.1) (aj (D.aO d.1.2.1 2) (afE n d) (some ((false,()),()))) (ak (F16
 n (b.2.1,50,())) λg=>aj (D.aM g.1.1) (aj (D.aO d.1.2.1 2) (afE n d) (some ((false,()),()))) (ak (F18 n b) λh=>aj (D.aM h.1.2.1)
 (aj (D.aO d.1.2.1 8) (afE n d) (some ((false,()),()))) (aj (D.aO d.1.2.1 0) (ak (F19 n (d.1.1,h.1.1,())) λi=>aj i.1.1 (ak (F13 n ())
 λj=>some j) (some ((false,()),()))) (some ((false,()),())))))))
def k3(n:Nat):OC:=⟨3,⟨P54,K4,false,F3 n⟩,cq [k12 n,k13 n,k14 n,k15 n,k16 n,k17 n,k18 n,k19 n] [] n 10 3⟩
def F65:Nat->List au×Unit->Option fe:=
 λn b=>some ((D.eu (aq b.1) 40,()),())
def k65(n:Nat):OC:=⟨65,⟨P50,K4,false,F65 n⟩,cq [] [] n 10 65⟩
def F35:Y90:=
 λn b=>aj (D.bN 130 (aq b.1.1)) (some ((false,()),())) (aj (D.bN 130 (aq b.1.2)) (some ((false,()),())) (aj (D.bN 110 (aq b.1.3))
 (some ((false,()),())) (aj (D.bN 60 (aq b.1.4)) (some ((false,()),())) (ak (@iter (Int×Unit) (Bool×Unit) (Unit) (Any) (λc=>aj (D.bN
 c.1 (aq b.1.1)) (aB (av c.1 b.1.1) (ak (F65 n ((aN b.1.1 (ah c.1) aR).3,())) λd=>aj (D.aM d.1.1) (some (LO.ret () (false,())))
 (aj (D.bN 50 (aq (aN b.1.1 (ah c.1) aR).4)) (some (LO.ret () (false,()))) (ak (@iter (Int×Unit) (Bool×Unit) (Unit) (Any) (λe=>
 aj (D.bN e.1 (aq (aN b.1.1 (ah c.1) aR).4)) (aB (av e.1 (aN b.1.1 (ah c.1) aR).4) (ak (F65 n ((aN (aN b.1.1 (ah c.1)
 aR).4 (ah e.1) aX).2,())) λg=>aj (D.aM g.1.1) (some (LO.ret () (false,()))) (aB (av e.1 (aN b.1.1 (ah c.1) aR).4)
 (ak (F65 n ((aN (aN b.1.1 (ah c.1) aR).4 (ah e.1) aX).3,())) λh=>aj (D.aM h.1.1) (some (LO.ret () (false,()))) (some
 (LO.next (D.add .i64 e.1 1,()))))))) (some (LO.out 0 e))) n (0,())) λe=>LO.el e (λ_ _=>some (LO.next (D.add .i64 c.1 1,()))) (λ_ h=>
 some (LO.ret () h)) λ_ _=>none)))) (some (LO.out 0 c))) n (0,())) λc=>LO.el c (λ_ _=>some ((true,()),())) (λ_ e=>some (e,()))
 λ_ _=>none))))
def k35(n:Nat):OC:=⟨35,⟨X1,K4,false,F35 n⟩,cq [k65 n] [(35,0,⟨[(3,cW)],[],[],0⟩),(35,2,⟨[(5,cW)],[],[],0⟩)] n 10 35⟩
def F20:Y21:=
 λn b=>ak (F12 n (b.1,())) λc=>aj c.1.1 (ak (F35 n b.2) λd=>some d) (some ((false,()),()))
def k20(n:Nat):OC:=⟨20,⟨P67,K4,false,F20 n⟩,cq [k12 n,k35 n] [] n 10 20⟩
def F105:ajy:=
 λn b=>ak (@iter (Int×Unit) (Bool×Unit) (Unit) (Any) (λc=>aj (D.bN c.1 (aq b.1)) (aB (av c.1 b.1) (aj (D.aO (aN b.1 (ah c.1)
 0) b.2.1) (some (LO.ret () (true,()))) (some (LO.next (D.add .i64 c.1 1,()))))) (some (LO.out 0 c))) n (0,())) λc=>LO.el c (λ_ _=>some
 ((false,()),())) (λ_ e=>some (e,())) λ_ _=>none
def ahk(n:Nat):OC:=⟨105,⟨afp,K4,false,F105 n⟩,cq [] [(105,0,⟨[(5,cW)],[],[],0⟩)] n 10 105⟩
def RW(b:ai×Unit)(g:Int×Unit):Int:=
 aN b.1.2 (ah g.1) 0
def F66:Y90:=
 λn b=>ak (@iter (Int×Int×Unit) (Bool×Unit) (Unit) (Any) (λc=>aj (D.bN c.2.1 (aq b.1.1)) (aB (av c.2.1 b.1.1) (aj (D.aO (aN
 b.1.1 (ah c.2.1) aR).1 6) (some (LO.next (D.add .i64 c.1 1,D.add .i64 c.2.1 1,()))) (some (LO.next (c.1,D.add .i64 c.2.1 1,()))))) (some
 (LO.out 0 c))) n (0,0,())) λc=>LO.el c (λ_ e=>aj (D.aM (D.aO (aq b.1.2) e.1)) (some ((false,()),())) (ak (@iter (Int×Unit) (Bool
 ×Unit) (Unit) (Any) (λg=>aj (D.bN g.1 e.1) (aB (av g.1 b.1.2) (ak (F55 n (RW b g,0,D.dN .i64 (aq b.1.1) 1,())) λh=>aj
 (D.aM h.1.1) (some (LO.ret () (false,()))) (aB (av (RW b g) b.1.1) (aj (D.aM (D.aO (aN b.1.1 (ah (RW b g)) aR).1 6)) (some
 (LO.ret () (false,()))) (aB (eW 0 g.1 (aq b.1.2)) (ak (F105 n (eo b.1.2 0 g.1,RW b g,())) λi=>aj i.1.1 (some (LO.ret () (false,
 ()))) (some (LO.next (D.add .i64 g.1 1,()))))))))) (some (LO.out 0 g))) n (0,())) λg=>LO.el g (λ_ _=>some ((true,()),())) (λ_ i=>
 some (i,())) λ_ _=>none)) (λ_ e=>some (e,())) λ_ _=>none
def k66(n:Nat):OC:=⟨66,⟨X1,K4,false,F66 n⟩,cq [k55 n,ahk n] [(66,0,⟨[(3,cW),(4,cW)],[],[],0⟩),(66,2,⟨[(5,cW)],[],[],0⟩)] n 10 66⟩
def F169:Nat->aG×ai×au×Unit->Option fe:=
 λn b=>aj (D.aO b.2.2.1.1 1) (ak (F55 n (b.2.2.1.2,(-1000000000),1000000000,())) λc=>some c) (aj (D.aO b.2.2.1.1 2) (ak (F55 n
 (b.2.2.1.2,0,1,())) λc=>some c) (aj (D.aO b.2.2.1.1 3) (some ((D.aO b.2.2.1.2 0,()),())) (aj (D.aO b.2.2.1.1 4) (ak (F55 n (b.2.2.1.2,
 0,D.dN .i64 (aq b.1.2) 1,())) λc=>some c) (aj (D.aO b.2.2.1.1 5) (ak (F55 n (b.2.2.1.2,0,D.dN .i64 (aq b.2.1.1) 1,())) λc=>
 some c) (some ((false,()),()))))))
def am4(n:Nat):OC:=⟨169,⟨aqB,K4,false,F169 n⟩,cq [k55 n] [] n 10 169⟩
def F109:Nat->aG×ai×List au×Int×Unit->Option fe:=
 λn b=>ak (@iter (Int×Unit) (Bool×Unit) (Unit) (Any) (λc=>aj (D.bN c.1 (aq b.2.2.1)) (aj (D.eu c.1 b.2.2.2.1) (aB (av c.1
 b.2.2.1) (ak (F169 n (b.1,b.2.1,aN b.2.2.1 (ah c.1) az,())) λd=>aj (D.aM d.1.1) (some (LO.ret () (false,()))) (some (LO.next
 (D.add .i64 c.1 1,()))))) (some (LO.out 0 c))) (some (LO.out 0 c))) n (0,())) λc=>LO.el c (λ_ _=>some ((D.eu (aq b.2.2.1) b.2.2.2.1,
 ()),())) (λ_ e=>some (e,())) λ_ _=>none
def adB(n:Nat):OC:=⟨109,⟨aqA,K4,false,F109 n⟩,cq [am4 n] [(109,0,⟨[(9,cW)],[],[],0⟩)] n 10 109⟩
def F107:Nat->aG×ai×List ax×Unit->Option fe:=
 λn b=>ak (@iter (Int×Unit) (Bool×Unit) (Unit) (Any) (λc=>aj (D.bN c.1 (aq b.2.2.1)) (aj (D.eu c.1 40) (aB (av c.1 b.2.2.1) (ak
 (F55 n ((aN b.2.2.1 (ah c.1) aX).1,0,D.dN .i64 (aq b.1.1) 1,())) λd=>aj (D.aM d.1.1) (some (LO.ret () (false,()))) (ak
 (F109 n (b.1,b.2.1,(aN b.2.2.1 (ah c.1) aX).2,30,())) λe=>aj (D.aM e.1.1) (some (LO.ret () (false,()))) (aB (av (aN b.2.2.1
 (ah c.1) aX).1 b.1.1) (ak (F75 n (aN b.1.1 (ah (aN b.2.2.1 (ah c.1) aX).1) aQ,())) λg=>ak (F109 n (b.1,b.2.1,
 (aN b.2.2.1 (ah c.1) aX).3,g.1)) λh=>aj (D.aM h.1.1) (some (LO.ret () (false,()))) (some (LO.next (D.add .i64 c.1 1,()))))))))
 (some (LO.out 0 c))) (some (LO.out 0 c))) n (0,())) λc=>LO.el c (λ_ _=>some ((D.eu (aq b.2.2.1) 40,()),())) (λ_ e=>some (e,()))
 λ_ _=>none
def ahj(n:Nat):OC:=⟨107,⟨aqz,K4,false,F107 n⟩,cq [k55 n,k75 n,adB n] [(107,0,⟨[(7,cW)],[],[],0⟩)] n 10 107⟩
def F108:Nat->aG×List ax×Int×Unit->Option fe:=
 λn b=>ak (@iter (Int×Unit) (Bool×Unit) (Unit) (Any) (λc=>aj (D.bN c.1 b.2.2.1) (aB (av c.1 b.2.1) (aB (av c.1 b.2.1) (aB (av
 (aN b.2.1 (ah c.1) aX).1 b.1.1) (ak (F75 n (aN b.1.1 (ah (aN b.2.1 (ah c.1) aX).1) aQ,())) λd=>aj (D.eu d.1.1
 (aq (aN b.2.1 (ah c.1) aX).3)) (some (LO.ret () (false,()))) (some (LO.next (D.add .i64 c.1 1,()))))))) (some (LO.out 0 c))) n (0,()))
 λc=>LO.el c (λ_ _=>some ((true,()),())) (λ_ e=>some (e,())) λ_ _=>none
def ahi(n:Nat):OC:=⟨108,⟨aqy,K4,false,F108 n⟩,cq [k75 n] [(108,0,⟨[(7,cW)],[],[],0⟩)] n 10 108⟩
def yP(n:Nat):Option fe:=
 some ((false,()),())
def F106:Y58:=
 λn b=>aj (D.aO b.2.2.1.2 0) (ak (F107 n (b.1,b.2.1,b.2.2.1.4,())) λc=>aj c.1.1 (ak (F109 n (b.1,b.2.1,b.2.2.1.3,1,())) λd=>
 aj d.1.1 (aj (D.bN 0 (D.add .i64 (aq b.2.2.1.4) (aq b.2.2.1.3))) (ak (F108 n (b.1,b.2.2.1.4,VW (aq b.2.2.1.4) (Oy 0 (D.add .i64 (D.dN .i64
 (aq b.2.2.1.4) 1) (aq b.2.2.1.3))),())) λe=>some e) (yP n)) (yP n)) (yP n)) (aj (D.aO b.2.2.1.2 1) (aj (D.aO (aq b.2.2.1.4)
 0) (aj (D.aO (aq b.2.2.1.3) 1) (ak (F109 n (b.1,b.2.1,b.2.2.1.3,1,())) λc=>some c) (yP n)) (yP n)) (ak (aj (D.aO b.2.2.1.2 2)
 (some (LO.next (true,()))) (ak (aj (D.aO b.2.2.1.2 3) (some (LO.next (true,()))) (some (LO.next (D.aO b.2.2.1.2 4,())))) λ(c:FW)=>LO.jn
 c (λd=>some (LO.next d)) (λ_ _=>none) (λ_ e=>some (LO.ret () e)) λ_ _=>none)) λ(c:FW)=>LO.jn c (λd=>aj d.1 (aj
 (D.aO (aq b.2.2.1.4) 0) (some ((D.aO (aq b.2.2.1.3) 0,()),())) (yP n)) (yP n)) (λ_ _=>none) (λ_ e=>some (e,())) λ_ _=>
 none))
def anB(n:Nat):OC:=⟨106,⟨ajL,K4,false,F106 n⟩,cq [ahj n,ahi n,adB n] [(106,1000008,⟨[(69,cZ)],[],[],0⟩),(106,1000009,⟨[(69,cZ)],[],[],0⟩)] n 10 106⟩
def qw(n:Nat):Option fe:=
 some ((false,()),())
def F67:Y58:=
 λn b=>aj (D.aO b.2.2.1.1 6) (ak (F106 n b) λc=>some c) (aj (D.aO b.2.2.1.1 5) (aj (D.aO b.2.2.1.2 0) (aj (D.aO (aq b.2.2.1.3) 0)
 (aj (D.bN 0 (aq b.2.2.1.4)) (ak (F107 n (b.1,b.2.1,b.2.2.1.4,())) λc=>aj c.1.1 (ak (F108 n (b.1,b.2.2.1.4,aq b.2.2.1.4,())) λd
 =>aj d.1.1 (aB (av 0 b.2.2.1.4) (aB (av (aN b.2.2.1.4 (ah 0) aX).1 b.1.1) (some ((D.aO (aN b.1.1 (ah (aN b.2.2.1.4 (ah 0)
 aX).1) aQ).1 26,()),())))) (qw n)) (qw n)) (qw n)) (qw n)) (qw n)) (aj (D.aM (D.aO (aq b.2.2.1.4) 0)) (qw n)
 (aj (D.aO b.2.2.1.1 1) (ak (F55 n (b.2.2.1.2,0,D.dN .i64 (aq b.1.4) 1,())) λc=>aj c.1.1 (aB (av b.2.2.1.2 b.1.4) (aj (D.aO (aq
 b.2.2.1.3) (aN b.1.4 (ah b.2.2.1.2) bE).2) (ak (F109 n (b.1,b.2.1,b.2.2.1.3,3,())) λd=>some d) (qw n))) (qw n)) (aj (D.aO
 b.2.2.1.1 2) (ak (F55 n (b.2.2.1.2,0,D.dN .i64 (aq b.1.1) 1,())) λc=>aj c.1.1 (aB (av b.2.2.1.2 b.1.1) (aj (D.aO (aN b.1.1 (ah
 b.2.2.1.2) aQ).1 5) (ak (F109 n (b.1,b.2.1,b.2.2.1.3,30,())) λd=>some d) (qw n))) (qw n)) (aj (D.aO b.2.2.1.1 3) (aj (D.aO
 b.2.2.1.2 0) (aj (D.aO (aq b.2.2.1.3) 1) (ak (F109 n (b.1,b.2.1,b.2.2.1.3,1,())) λc=>some c) (qw n)) (qw n)) (aj (D.aO b.2.2.1.1
 4) (aj (D.aO b.2.2.1.2 0) (ak (F109 n (b.1,b.2.1,b.2.2.1.3,4,())) λc=>some c) (qw n)) (qw n)))))))
def k67(n:Nat):OC:=⟨67,⟨ajL,K4,false,F67 n⟩,cq [k55 n,anB n,ahj n,ahi n,adB n] [] n 10 67⟩
def NS(n:Nat):Option fe:=
 some ((false,()),())
def F36:Y21:=
 λn b=>aj (D.bN 120 (aq b.2.1.1)) (NS n) (aj (D.bN 100 (aq b.2.1.3)) (NS n) (ak (F16 n (b.2.1.4,50,())) λc=>aj (D.aM
 c.1.1) (NS n) (ak (F55 n (b.2.1.5,0,1000000000,())) λd=>aj (D.aM d.1.1) (NS n) (ak (F66 n b.2) λe=>aj (D.aM e.1.1) (NS n)
 (ak (@iter (Int×Unit) (Bool×Unit) (Unit) (Any) (λg=>aj (D.bN g.1 (aq b.2.1.1)) (aB (av g.1 b.2.1.1) (ak (F67 n (b.1,b.2.1,aN
 b.2.1.1 (ah g.1) aR,())) λh=>aj (D.aM h.1.1) (some (LO.ret () (false,()))) (some (LO.next (D.add .i64 g.1 1,()))))) (some (LO.out 0
 g))) n (0,())) λg=>LO.el g (λ_ _=>ak (@iter (Int×Unit) (Bool×Unit) (Unit) (Any) (λj=>aj (D.bN j.1 (aq b.2.1.3)) (aB (av j.1
 b.2.1.3) (ak (F55 n ((aN b.2.1.3 (ah j.1) lT).1,0,3,())) λk=>aj (D.aM k.1.1) (some (LO.ret () (false,()))) (aB (av j.1
 b.2.1.3) (ak (F55 n ((aN b.2.1.3 (ah j.1) lT).2,(-1000000000),1000000000,())) λl=>aj (D.aM l.1.1) (some (LO.ret () (false,())))
 (some (LO.next (D.add .i64 j.1 1,()))))))) (some (LO.out 0 j))) n (0,())) λj=>LO.el j (λ_ _=>some ((true,()),())) (λ_ l=>some (l,
 ())) λ_ _=>none) (λ_ i=>some (i,())) λ_ _=>none)))))
def k36(n:Nat):OC:=⟨36,⟨P67,K4,false,F36 n⟩,cq [k16 n,k55 n,k66 n,k67 n] [(36,0,⟨[(5,cW)],[],[],0⟩),(36,2,⟨[(6,cW)],[],[],0⟩)] n 10 36⟩
def F22:Y21:=
 λn b=>ak (F15 n (b.1,())) λc=>aj c.1.1 (ak (F36 n b) λd=>some d) (some ((false,()),()))
def k22(n:Nat):OC:=⟨22,⟨P67,K4,false,F22 n⟩,cq [k15 n,k36 n] [] n 10 22⟩
def F39:Nat->Y17->Option Y18:=
 λn b=>ak (@iter (N7) (List Int×Unit) (Unit) (Any) (λc=>aj (D.bN c.2.1 (aq b.2.1.2)) (ak (F40 n (b.1,b.2.1,c.2)) λd=>aj
 (D.aM (D.aO d.1.1.2 2)) (aB (cY c.1 [c.2.1]) (some (LO.next (cM c.1 [c.2.1],D.add .i64 c.2.1 1,())))) (some (LO.next (c.1,D.add .i64 c.2.1
 1,())))) (some (LO.out 0 c))) n ([],0,())) λc=>LO.el c (λ_ e=>some ((e.1,()),())) (λ_ e=>some (e,())) λ_ _=>none
def k39(n:Nat):OC:=⟨39,⟨P67,K63,false,F39 n⟩,cq [k40 n] [(39,0,⟨[(5,.one (.own (.int .i64))),(6,cW)],[],[],0⟩)] n 10 39⟩
def F64:Nat->Int×Int×Unit->Dv:=
 λn b=>aB (nzI b.2.1) (aj (D.bN (D.rem b.1 b.2.1) 0) (some ((D.add .i64 (D.rem b.1 b.2.1) b.2.1,()),())) (some ((D.rem b.1 b.2.1,()),())))
def k64(n:Nat):OC:=⟨64,⟨aqx,K2,false,F64 n⟩,cq [] [] n 10 64⟩
def Yp(n:Nat)(c:Y73):Option Y75:=
 some ((c.1.1,aZ,0,8,()),())
def F34:ajw:=
 λn b=>ak (F33 n (b.1,b.2.1,0,())) λc=>aj (D.aM c.1.2.2.1) (Yp n c) (ak (F39 n (b.1,c.1.1,())) λd=>aj (D.aO (aq d.1.1)
 0) (some ((c.1.1,aZ,0,5,()),())) (ak (F64 n (b.2.2.1,aq d.1.1,())) λe=>aB (av e.1.1 d.1.1) (ak (F40 n (b.1,c.1.1,aN d.1.1
 (ah e.1.1) 0,())) λg=>ak (F33 n (b.1,g.1.1.1,D.add .i64 c.1.2.1 1,())) λh=>aj (D.aM h.1.2.2.1) (Yp n h) (aj (D.bN 5000
 h.1.2.1) (Yp n h) (some ((h.1.1,g.1.1.3,h.1.2.1,0,()),()))))))
def k34(n:Nat):OC:=⟨34,⟨P68,K69,false,F34 n⟩,cq [k33 n,k39 n,k40 n,k64 n] [] n 10 34⟩
def acy(d:ajf):ai:=
 ai.mk d.2.2.1.1 d.2.2.1.2.1 d.2.2.1.2.2.1 d.2.2.1.2.2.2.1 d.2.2.1.2.2.2.2.1
def acw(e:Y75):ua:=
 (e.1.1.1,e.1.1.2,e.1.1.3,e.1.1.4,e.1.1.5,())
def ajW(c:Y73):ua:=
 (c.1.1.1,c.1.1.2,c.1.1.3,c.1.1.4,c.1.1.5,())
def F23:ajD:=
 λn b=>ak (F33 n (b.1,b.2.1,0,())) λc=>aj (D.aM c.1.2.2.1) (some ((c.1.1,[],8,()),())) (ak (@iter (ajf) (ajC) (ua×ua×Unit)
 (Any) (λd=>aj (D.bN d.2.1 (aq b.2.2.1)) (aB (av d.2.1 b.2.2.1) (ak (F34 n (b.1,acy d,aN b.2.2.1 (ah d.2.1) 0,())) λe=>aj
 (D.aO e.1.2.2.2.1 5) (some (LO.ret (d.2.2.1,d.2.2.1,()) (d.1,0,()))) (aj (D.aM (D.aO e.1.2.2.2.1 0)) (some (LO.ret (d.2.2.1,acw e,()) ([],
 e.1.2.2.2))) (aB (cY d.1 [e.1.2.1]) (some (LO.next (cM d.1 [e.1.2.1],D.add .i64 d.2.1 1,acw e,d.2.2.2))))))) (some (LO.out 0 d))) n ([],0,
 ajW c,([],[],[],[],0,()),())) λd=>LO.el d (λ_ g=>some ((acy g,g.1,0,()),())) (λe g=>some ((ai.mk e.2.1.1 e.2.1.2.1
 e.2.1.2.2.1 e.2.1.2.2.2.1 e.2.1.2.2.2.2.1,g),())) λ_ _=>none)
def k23(n:Nat):OC:=⟨23,⟨P65,K66,false,F23 n⟩,cq [k33 n,k34 n] [(23,0,⟨[(11,.one (.own (.st 9))),(12,cW),(0,b4z),(0,b4z)],[.slot 4,.slot 6],[],0⟩)] n 10 23⟩
def NT(b:Y35)(c:Int×Unit):aS:=
 aN b.2.1 (ah c.1) aZ
def F24:Nat->Y35->Option fe:=
 λn b=>aj (D.aM (D.aO (aq b.1) (aq b.2.1))) (some ((false,()),())) (ak (@iter (Int×Unit) (Bool×Unit) (Unit) (Any) (λc=>aj
 (D.bN c.1 (aq b.1)) (aB (av c.1 b.1) (aB (av c.1 b.2.1) (aj (D.aM (D.ey (D.aO (aN b.1 (ah c.1) aZ).1 (NT b c).1) (D.ey
 (D.aO (aN b.1 (ah c.1) aZ).2 (NT b c).2) (D.ey (D.aO (aN b.1 (ah c.1) aZ).3 (NT b c).3) (D.ey (D.aO (aN b.1 (ah
 c.1) aZ).4.1 (NT b c).4.1) (D.ey (D.aO (aN b.1 (ah c.1) aZ).4.2 (NT b c).4.2) true)))))) (some (LO.ret () (false,())))
 (some (LO.next (D.add .i64 c.1 1,())))))) (some (LO.out 0 c))) n (0,())) λc=>LO.el c (λ_ _=>some ((true,()),())) (λ_ e=>some (e,
 ())) λ_ _=>none)
def k24(n:Nat):OC:=⟨24,⟨aqw,K4,false,F24 n⟩,cq [] [(24,0,⟨[(5,cW)],[],[],0⟩)] n 10 24⟩
def Yo(n:Nat):Option fe:=
 ak (F13 n ()) λd=>some d
def NR(n:Nat):Option fe:=
 some ((false,()),())
def afD(n:Nat)(d:Y80):Option fe:=
 ak (F17 n (d.1.1,())) λg=>aj g.1.1 (aj (D.aO (aq d.1.2.1) 0) (Yo n) (NR n)) (NR n)
def ajV(n:Nat)(b:Y76):Option fe:=
 aj (D.bN 220 (aq b.2.2.1)) (Yo n) (ak (F21 n b) λd=>ak (F22 n (b.1,b.2.1,())) λe=>aj (D.aM e.1.1) (aj (D.aO d.1.2.2.1 2) (afD
 n d) (NR n)) (aj (D.bN 200 (aq b.2.2.1)) (aj (D.aO d.1.2.2.1 2) (afD n d) (NR n)) (ak (F23 n b) λg=>aj (D.aM (D.aO g.1.2.2.1 0))
 (aj (D.aO d.1.2.2.1 g.1.2.2.1) (afD n d) (NR n)) (aj (D.aO d.1.2.2.1 0) (ak (F19 n (d.1.1,g.1.1,())) λh=>aj h.1.1 (ak (F24 n (d.1.2.1,
 g.1.2.1,())) λi=>aj i.1.1 (Yo n) (NR n)) (NR n)) (NR n)))))
def F4:Y77:=
 λn b=>ak (F20 n (b.1,b.2.1,())) λc=>aj (D.aM c.1.1) (Yo n) (aj (D.bN 24 (aq b.2.2.1)) (aj (D.eu (aq b.2.2.1) 200) (Yo n)
 (ajV n b)) (ajV n b))
def k4(n:Nat):OC:=⟨4,⟨P65,K4,false,F4 n⟩,cq [k13 n,k17 n,k19 n,k20 n,k21 n,k22 n,k23 n,k24 n] [] n 10 4⟩
def Yl(n:Nat):Option fe:=
 ak (F13 n ()) λd=>some d
def Ur(n:Nat):Option fe:=
 some ((false,()),())
def Yk(e:Y80)(g:Y81):Bool:=
 av g.2.2.1 e.1.2.1
def ajS(e:Y80)(g:Y81):List dW:=
 [dW.mk (aN e.1.2.1 (ah g.2.2.1) aZ).3 (aN e.1.2.1 (ah g.2.2.1) aZ).4.2]
def F5:Y77:=
 λn b=>ak (F20 n (b.1,b.2.1,())) λc=>aj (D.aM c.1.1) (Yl n) (ak (F22 n (b.1,b.2.1,())) λd=>aj (D.aM d.1.1) (Yl n) (aj
 (D.bN 12 (aq b.2.2.1)) (Yl n) (ak (F21 n b) λe=>aj (D.aM (D.aO e.1.2.2.1 0)) (aj (D.aO e.1.2.2.1 8) (Yl n) (Ur n)) (ak (@iter
 (Y81) (Bool×Unit) (Unit) (Any) (λg=>aj (D.bN g.2.2.1 (aq e.1.2.1)) (aB (Yk e g) (ak (aj (D.aO (aN e.1.2.1 (ah g.2.2.1)
 aZ).2 24) (aB (Yk e g) (aB (Yk e g) (aB (cY g.1 (ajS e g)) (some (LO.next (cM g.1 (ajS e g),true,())))))) (some (LO.next (g.1,
 false,())))) λ(h:LO (List dW×Bool×Unit) (Bool×Unit) Unit Any)=>LO.jn h (λi=>aB (Yk e g) (aj (D.aO (aN e.1.2.1 (ah
 g.2.2.1) aZ).2 25) (aj (D.eu (aq b.2.1.4) g.2.1) (some (LO.ret () (false,()))) (aB (Yk e g) (aB (av g.2.1 b.2.1.4) (ak (F25 n (aN
 b.2.1.4 (ah g.2.1) 0,())) λj=>aj (D.aM (D.ey (D.aO (aN e.1.2.1 (ah g.2.2.1) aZ).4.1 j.1.1.1) (D.ey (D.aO (aN e.1.2.1 (ah
 g.2.2.1) aZ).4.2 j.1.1.2) true))) (some (LO.ret () (false,()))) (some (LO.next (i.1,D.add .i64 g.2.1 1,D.add .i64 g.2.2.1 1,()))))))) (some
 (LO.next (i.1,g.2.1,D.add .i64 g.2.2.1 1,()))))) (λ_ _=>none) (λ_ j=>some (LO.ret () j)) λ_ _=>none)) (some (LO.out 0 g))) n
 (b.2.1.3,0,0,())) λg=>LO.el g (λ_ i=>aj (D.bN (aq e.1.1.2) (aq b.2.1.2)) (Ur n) (aB (eW 0 (aq b.2.1.2) (aq e.1.1.2)) (ak
 (F26 n (eo e.1.1.2 0 (aq b.2.1.2),b.2.1.2,())) λj=>aj (D.aM j.1.1) (Ur n) (ak (F27 n (e.1.1.3,i.1,())) λk=>aj k.1.1 (aj
 (D.aO e.1.1.5 (D.add .i64 b.2.1.5 i.2.1)) (aB (eW i.2.1 (aq b.2.1.4) (aq b.2.1.4)) (ak (F26 n (e.1.1.4,eo b.2.1.4 i.2.1 (aq b.2.1.4),
 ())) λl=>aj l.1.1 (Yl n) (Ur n))) (Ur n)) (Ur n))))) (λ_ i=>some (i,())) λ_ _=>none))))
def k5(n:Nat):OC:=⟨5,⟨P65,K4,false,F5 n⟩,cq [k13 n,k20 n,k21 n,k22 n,k25 n,k26 n,k27 n] [(5,0,⟨[(10,.one (.own (.st 7))),(11,cW),(12,cW)],[],[],0⟩),(5,1000011,⟨[(10,.one (.own (.st 7))),(58,cZ)],[],[],0⟩)] n 10 5⟩
def F29:Nat->Y17->Dv:=
 λn b=>ak (F46 n (b.1,())) λc=>aj (D.aM (D.aO c.1.1 0)) (some ((2,()),())) (ak (F99 n (cr.mk b.1 b.2.1,())) λd=>aj
 (D.aM d.1.1) (some ((2,()),())) (some ((0,()),())))
def k29(n:Nat):OC:=⟨29,⟨P67,K2,false,F29 n⟩,cq [k46 n,k99 n] [] n 10 29⟩
def F103:Nat->N7->Option Y18:=
 λn b=>ak (F105 n b) λc=>aj c.1.1 (some ((b.1,()),())) (aB (cY b.1 [b.2.1]) (some ((cM b.1 [b.2.1],()),())))
def ahl(n:Nat):OC:=⟨103,⟨aqv,K18,false,F103 n⟩,cq [ahk n] [] n 10 103⟩
def F104:Nat->List Int×List au×Unit->Option Y18:=
 λn b=>ak (@iter (N7) (List Int×Unit) (Unit) (Any) (λc=>aj (D.bN c.2.1 (aq b.2.1)) (aB (av c.2.1 b.2.1) (aj (D.aO (aN b.2.1
 (ah c.2.1) az).1 5) (aB (av c.2.1 b.2.1) (ak (F103 n (c.1,(aN b.2.1 (ah c.2.1) az).2,())) λd=>some (LO.next (d.1.1,D.add .i64
 c.2.1 1,())))) (some (LO.next (c.1,D.add .i64 c.2.1 1,()))))) (some (LO.out 0 c))) n (b.1,0,())) λc=>LO.el c (λ_ e=>some ((e.1,()),
 ())) (λ_ _=>none) λ_ _=>none
def anC(n:Nat):OC:=⟨104,⟨aqu,K18,false,F104 n⟩,cq [ahl n] [(104,0,⟨[(0,.one (.own (.int .i64))),(5,cW)],[],[],0⟩)] n 10 104⟩
def F61:Nat->ai×Unit->Option Y18:=
 λn b=>ak (@iter (N7) (List Int×Unit) (Unit) (Any) (λc=>aj (D.bN c.2.1 (aq b.1.2)) (aB (av c.2.1 b.1.2) (ak (F103 n (c.1,aN
 b.1.2 (ah c.2.1) 0,())) λd=>some (LO.next (d.1.1,D.add .i64 c.2.1 1,())))) (some (LO.out 0 c))) n ([],0,())) λc=>LO.el c (λ_ e=>
 ak (@iter (N7) (List Int×Unit) (Unit) (Any) (λg=>aj (D.bN g.2.1 (aq g.1)) (aB (av g.2.1 g.1) (aB (cw (ah g.2.1) g.1) (aB (av
 (aN g.1 (ah g.2.1) 0) b.1.1) (ak (F104 n (g.1,(aN b.1.1 (ah (aN g.1 (ah g.2.1) 0)) aR).3,())) λh=>ak (@iter (N7) (List Int×
 Unit) (Unit) (Any) (λi=>aj (D.bN i.2.1 (aq (aN b.1.1 (ah (aN g.1 (ah g.2.1) 0)) aR).4)) (aB (av i.2.1 (aN b.1.1 (ah (aN g.1
 (ah g.2.1) 0)) aR).4) (aB (av i.2.1 (aN b.1.1 (ah (aN g.1 (ah g.2.1) 0)) aR).4) (ak (F104 n (i.1,(aN (aN b.1.1 (ah (aN
 g.1 (ah g.2.1) 0)) aR).4 (ah i.2.1) aX).2,())) λj=>ak (F104 n (j.1.1,(aN (aN b.1.1 (ah (aN g.1 (ah g.2.1) 0))
 aR).4 (ah i.2.1) aX).3,())) λk=>some (LO.next (k.1.1,D.add .i64 i.2.1 1,()))))) (some (LO.out 0 i))) n (h.1.1,0,())) λi=>
 LO.el i (λ_ k=>some (LO.next (k.1,D.add .i64 g.2.1 1,()))) (λ_ k=>some (LO.ret () k)) λ_ _=>none)))) (some (LO.out 0 g))) n (e.1,0,
 ())) λg=>LO.el g (λ_ i=>some ((i.1,()),())) (λ_ i=>some (i,())) λ_ _=>none) (λ_ e=>some (e,())) λ_ _=>none
def k61(n:Nat):OC:=⟨61,⟨X1,K63,false,F61 n⟩,cq [ahl n,anC n] [(61,0,⟨[(3,.one (.own (.int .i64))),(4,cW)],[],[],0⟩),(61,2,⟨[(3,.one (.own (.int .i64))),(5,cW)],[],[],0⟩),(61,4,⟨[(3,.one (.own (.int .i64))),(7,cW)],[],[],0⟩)] n 10 61⟩
def F63:Nat->N7->Dv:=
 λn b=>ak (@iter (Int×Unit) (Int×Unit) (Unit) (Any) (λc=>aj (D.bN c.1 (aq b.1)) (aB (av c.1 b.1) (aj (D.aM (D.aO (aN b.1
 (ah c.1) 0) b.2.1)) (some (LO.next (D.add .i64 c.1 1,()))) (some (LO.out 0 c)))) (some (LO.out 0 c))) n (0,())) λc=>LO.el c (λ_ e=>some
 (e,())) (λ_ e=>some (e,())) λ_ _=>none
def k63(n:Nat):OC:=⟨63,⟨afp,K2,false,F63 n⟩,cq [] [(63,0,⟨[(5,cW)],[],[],0⟩)] n 10 63⟩
def F62:Nat->List au×List Int×Unit->Option Y44:=
 λn b=>ak (@iter (NF) (List au×Unit) (Unit) (Any) (λc=>aj (D.bN c.2.1 (aq b.1)) (aB (av c.2.1 b.1) (ak (aj (D.aO (aN b.1
 (ah c.2.1) az).1 5) (ak (F63 n (b.2.1,(aN b.1 (ah c.2.1) az).2,())) λd=>some (LO.next (true,((aN b.1 (ah c.2.1)
 az).1,d.1),()))) (some (LO.next (false,((aN b.1 (ah c.2.1) az).1,(aN b.1 (ah c.2.1) az).2,()),())))) λ(d:LO (Bool×
 (Int×Int×Unit)×Unit) (List au×Unit) ajn Any)=>LO.jn d (λe=>aB (cY c.1 [au.mk e.2.1.1 e.2.1.2.1]) (some (LO.next (cM c.1
 [au.mk e.2.1.1 e.2.1.2.1],D.add .i64 c.2.1 1,())))) (λ_ _=>none) (λ_ g=>some (LO.ret () g)) λ_ _=>none)) (some (LO.out 0 c))) n
 ([],0,())) λc=>LO.el c (λ_ e=>some ((e.1,()),())) (λ_ e=>some (e,())) λ_ _=>none
def k62(n:Nat):OC:=⟨62,⟨aqt,K35,false,F62 n⟩,cq [k63 n] [(62,0,⟨[(5,.one (.own (.st 4))),(6,cW)],[],[],0⟩),(62,1000007,⟨[(20,cZ),(0,.box (.cells [lD,lD]))],[.slot 7],[],0⟩)] n 10 62⟩
def Ap(b:ai×Unit)(c:Y18)(d:Int×ua×Unit):aE:=
 aN b.1.1 (ah (aN c.1.1 (ah d.1) 0)) aR
def F30:Nat->ai×Unit->Y38:=
 λn b=>ak (F61 n b) λc=>ak (@iter (Int×ua×Unit) (Unit) (ua×Unit) (Any) (λd=>aj (D.bN d.1 (aq c.1.1)) (aB (av d.1 c.1.1)
 (aB (av (aN c.1.1 (ah d.1) 0) b.1.1) (ak (F62 n ((Ap b c d).3,c.1)) λe=>ak (@iter (Int×yU×Unit) (Unit) (yU×Unit) (Any) (λg
 =>aj (D.bN g.1 (aq (Ap b c d).4)) (aB (av g.1 (Ap b c d).4) (ak (F62 n ((aN (Ap b c d).4 (ah g.1) aX).2,c.1)) λh=>
 ak (F62 n ((aN (Ap b c d).4 (ah g.1) aX).3,c.1)) λi=>aB (cY g.2.1.2.2.2.1 [ax.mk (aN (Ap b c d).4 (ah g.1)
 aX).1 h.1.1 i.1.1]) (some (LO.next (D.add .i64 g.1 1,(g.2.1.1,g.2.1.2.1,g.2.1.2.2.1,cM g.2.1.2.2.2.1 [ax.mk (aN (Ap b c d).4
 (ah g.1) aX).1 h.1.1 i.1.1],()),()))))) (some (LO.out 0 g))) n (0,((Ap b c d).1,(Ap b c d).2,e.1.1,[],()),())) λg=>LO.el g
 (λ_ i=>aB (cY d.2.1.1 [aE.mk i.2.1.1 i.2.1.2.1 i.2.1.2.2.1 i.2.1.2.2.2.1]) (some (LO.next (D.add .i64 d.1 1,(cM d.2.1.1 [aE.mk
 i.2.1.1 i.2.1.2.1 i.2.1.2.2.1 i.2.1.2.2.2.1],d.2.1.2),())))) (λ_ _=>some (LO.ret d.2 ())) λ_ _=>none))) (some (LO.out 0 d))) n (0,([],[],
 b.1.3,b.1.4,b.1.5,()),())) λd=>LO.el d (λ_ g=>ak (@iter (Int×ua×Unit) (Unit) (ua×Unit) (Any) (λh=>aj (D.bN h.1 (aq
 b.1.2)) (aB (av h.1 b.1.2) (ak (F63 n (c.1.1,aN b.1.2 (ah h.1) 0,())) λi=>aB (cY h.2.1.2.1 [i.1.1]) (some (LO.next (D.add .i64 h.1 1,
 (h.2.1.1,cM h.2.1.2.1 [i.1.1],h.2.1.2.2),()))))) (some (LO.out 0 h))) n (0,g.2)) λh=>LO.el h (λ_ j=>some ((ai.mk j.2.1.1
 j.2.1.2.1 j.2.1.2.2.1 j.2.1.2.2.2.1 j.2.1.2.2.2.2.1,()),())) (λ_ _=>some ((bS,()),())) λ_ _=>none) (λ_ _=>some ((bS,
 ()),())) λ_ _=>none
def k30(n:Nat):OC:=⟨30,⟨X1,K53,false,F30 n⟩,cq [k61 n,k62 n,k63 n] [(30,0,⟨[(5,cW),(0,b6z)],[.slot 4],[],0⟩),(30,2,⟨[(8,cW),(0,aeU)],[.slot 7],[],0⟩),(30,4,⟨[(10,cW),(0,b6z)],[.slot 4],[],0⟩)] n 10 30⟩
def Uq(n:Nat):Option fe:=
 some ((false,()),())
def F6:Y21:=
 λn b=>ak (F20 n b) λc=>aj (D.aM c.1.1) (ak (F13 n ()) λd=>some d) (ak (F28 n b) λd=>ak (F22 n b) λe=>aj (D.aM e.1.1)
 (ak (F29 n b) λg=>aj (D.aO g.1.1 2) (aj (D.aO d.1.2.1 2) (ak (F17 n (d.1.1,())) λh=>aj h.1.1 (ak (F13 n ()) λi=>some i) (Uq
 n)) (Uq n)) (Uq n)) (ak (F29 n b) λg=>aj (D.aO g.1.1 0) (aj (D.aO d.1.2.1 0) (ak (F30 n b.2) λh=>ak (F19 n (d.1.1,h.1)) λi=>
 aj i.1.1 (ak (F13 n ()) λj=>some j) (Uq n)) (Uq n)) (Uq n)))
def k6(n:Nat):OC:=⟨6,⟨P67,K4,false,F6 n⟩,cq [k13 n,k17 n,k19 n,k20 n,k22 n,k28 n,k29 n,k30 n] [] n 10 6⟩
def F31:Nat->Y17->Option ((ai×Int×Int×Unit)×Unit):=
 λn b=>ak (F46 n (b.1,())) λc=>aj (D.aM (D.aO c.1.1 0)) (some ((bS,0,2,()),())) (ak (F99 n (cr.mk b.1 b.2.1,()))
 λd=>aj (D.aM d.1.1) (some ((bS,0,2,()),())) (ak (F50 n ((b.1.1,b.1.2,b.1.3,b.1.4,b.2.1.1,b.2.1.2,b.2.1.3,b.2.1.4,b.2.1.5,
 ()),0,())) λe=>aj (D.aM e.1.2.1) (some ((bS,0,8,()),())) (ak (F51 n e.2) λg=>some ((g.1.1,e.1.1,0,()),()))))
def k31(n:Nat):OC:=⟨31,⟨P67,K147,false,F31 n⟩,cq [k46 n,k50 n,k51 n,k99 n] [] n 10 31⟩
def uf(n:Nat):Option fe:=
 some ((false,()),())
def afw(n:Nat)(e:Y75):Option fe:=
 ak (F17 n (e.1.1,())) λi=>aj i.1.1 (aj (D.ey (D.aO e.1.2.1.1 0) (D.ey (D.aO e.1.2.1.2 0) (D.ey (D.aO e.1.2.1.3 0) (D.ey (D.aO
 e.1.2.1.4.1 0) (D.ey (D.aO e.1.2.1.4.2 0) true))))) (aj (D.aO e.1.2.2.1 0) (ak (F13 n ()) λj=>some j) (uf n)) (uf n)) (uf n)
def F7:aqb:=
 λn b=>ak (F20 n (b.1,b.2.1,())) λc=>aj (D.aM c.1.1) (ak (F13 n ()) λd=>some d) (ak (F31 n (b.1,b.2.1,())) λd=>ak (F32 n
 b) λe=>ak (F22 n (b.1,b.2.1,())) λg=>aj (D.aM g.1.1) (aj (D.aO d.1.2.2.1 2) (ak (F17 n (d.1.1,())) λh=>aj h.1.1 (aj (D.aO
 d.1.2.1 0) (aj (D.aO e.1.2.2.2.1 2) (afw n e) (uf n)) (uf n)) (uf n)) (uf n)) (ak (F33 n (b.1,b.2.1,0,())) λh=>aj (D.aM
 h.1.2.2.1) (aj (D.aO d.1.2.2.1 8) (ak (F17 n (d.1.1,())) λi=>aj i.1.1 (aj (D.aO d.1.2.1 0) (aj (D.aO e.1.2.2.2.1 8) (afw n e) (uf n))
 (uf n)) (uf n)) (uf n)) (ak (F34 n b) λi=>aj (D.aM (D.aO d.1.2.2.1 0)) (uf n) (ak (F19 n (d.1.1,h.1.1,())) λj=>aj (D.aM
 j.1.1) (uf n) (aj (D.aM (D.aO d.1.2.1 h.1.2.1)) (uf n) (aj (D.aM (D.aO e.1.2.2.2.1 i.1.2.2.2.1)) (uf n) (aj (D.aM (D.aO i.1.2.2.2.1
 0)) (afw n e) (ak (F19 n (e.1.1,i.1.1,())) λk=>aj k.1.1 (aj (D.ey (D.aO e.1.2.1.1 i.1.2.1.1) (D.ey (D.aO e.1.2.1.2 i.1.2.1.2) (D.ey
 (D.aO e.1.2.1.3 i.1.2.1.3) (D.ey (D.aO e.1.2.1.4.1 i.1.2.1.4.1) (D.ey (D.aO e.1.2.1.4.2 i.1.2.1.4.2) true))))) (aj (D.aO e.1.2.2.1 i.1.2.2.1)
 (ak (F13 n ()) λl=>some l) (uf n)) (uf n)) (uf n)))))))))
def k7(n:Nat):OC:=⟨7,⟨P68,K4,false,F7 n⟩,cq [k13 n,k17 n,k19 n,k20 n,k22 n,k31 n,k32 n,k33 n,k34 n] [] n 10 7⟩

end Mn
end
section
namespace TL
open Go
section
def Ev{α:Type}(f:Nat->Option α)(r:α):Prop:=∃N,∀n,N<=n->f n=some r
section
variable {α β γ:Type}
def Ev.pure(r:α):Ev (λ_=>some r) r:=⟨0,λ_ _=>rfl⟩
def Ev.of_eq{f:Nat->Option α}{r:α}(h:∀n,f n=some r):Ev f r:=⟨0,λn _=>h n⟩
def Ev.congr{f g:Nat->Option α}{r:α}(h:∀n,f n=g n)(hg:Ev g r):Ev f r:=(funext h:f=g)▸hg
def Ev.ak{f:Nat->Option α}{a:α}{g:Nat->α->Option β}{r:β}(h:Ev f a)(hg:Ev (λn=>g n a) r):Ev (λn=>ak (f n) (g n)) r:=by obtain⟨N,h⟩:=h;obtain⟨M,hg⟩:=hg;refine⟨max N M,λn hn=>?_⟩;show TL.ak (f n) (g n)=some r;rw[h n (fS (Nat.le_max_left ..) hn)];exact hg n (fS (Nat.le_max_right ..) hn)
end
def xD{α β:Type}(f:Nat->Nat->α->Option β)(x:α)(r:β):Prop:=∀d,Ev (λn=>f n (n-d) x) r
def xD.step{α β:Type}{f:Nat->Nat->α->Option β}{g:Nat->(α->Option β)->α->Option β}{x:α}{r:β}(h:∀n k,f n (k+1)=g n (f n k))
  (hg:∀d,Ev (λn=>g n (f n (n-d)) x) r):xD f x r:=by
 intro d;obtain⟨N,hN⟩:=hg (d+1);refine⟨max N (d+1),λn hn=>?_⟩;have e:n-d=(n-(d+1))+1:=by omega
 show f n (n-d) x=some r;rw[e,h];exact hN n (by omega)
section
variable {X R B P:Type}
inductive fE(F:Nat->X->Option (LO X R B P)):X->LO X R B P->Prop
 |next {x y:X} {o:LO X R B P}:Ev (λn=>F n x) (.next y)->fE F y o->fE F x o
 |out {x y:X} {j:Nat}:Ev (λn=>F n x) (.out j y)->fE F x (.out j y)
 |ret {x:X} {b:B} {r:R}:Ev (λn=>F n x) (.ret b r)->fE F x (.ret b r)
 |dm {x:X} {b:B} {p:P}:Ev (λn=>F n x) (.dm b p)->fE F x (.dm b p)
def fE.last{F:Nat->X->Option (LO X R B P)}{x:X}{o:LO X R B P}(h:Ev (λn=>F n x) o)(hn:∀y,o≠.next y):fE F x o:=by cases o with|next y=>exact absurd rfl (hn y)|out j y=>exact .out h|ret b r=>exact .ret h|dm b p=>exact .dm h
def fE.fuel{F:Nat->X->Option (LO X R B P)}{x:X}{o:LO X R B P}(h:fE F x o):∃N,∀n k,N<=n->N<=k->iter (F n) k x=some o:=by
 induction h with
 |next h _ ih=>
  obtain⟨N,h⟩:=h;obtain⟨M,ih⟩:=ih;refine⟨max N M+1,λn k hn hk=>?_⟩;cases k with|zero=>omega|succ k=>unfold iter;rw[show F n _=_ from h n (by omega)];exact ih n k (by omega) (by omega)
 |out h=>
  obtain⟨N,h⟩:=h;refine⟨N+1,λn k hn hk=>?_⟩;cases k with|zero=>omega|succ k=>unfold iter;rw[show F n _=_ from h n (by omega)]
 |ret h=>
  obtain⟨N,h⟩:=h;refine⟨N+1,λn k hn hk=>?_⟩;cases k with|zero=>omega|succ k=>unfold iter;rw[show F n _=_ from h n (by omega)]
 |dm h=>
  obtain⟨N,h⟩:=h;refine⟨N+1,λn k hn hk=>?_⟩;cases k with|zero=>omega|succ k=>unfold iter;rw[show F n _=_ from h n (by omega)]
def Ev.iter{F:Nat->X->Option (LO X R B P)}{x:X}{o:LO X R B P}(h:fE F x o):Ev (λn=>TL.iter (F n) n x) o:=by obtain⟨N,h⟩:=h.fuel;exact⟨N,λn hn=>h n n hn hn⟩
def Ev.aU{β:Type}{F:Nat->X->Option (LO X R B P)}{x:X}{o:LO X R B P}(h:fE F x o)(g:Nat->LO X R B P->Option β)(r:β)(hg:Ev (λn=>g n o) r):Ev (λn=>TL.ak (TL.iter (F n) n x) (g n)) r:=(Ev.iter h).ak hg
def fE.many{F:Nat->X->Option (LO X R B P)}{o:LO X R B P}:∀(k:Nat)(s:Nat->X),(∀i,i<k->Ev (λn=>F n (s i)) (.next (s (i+1))))->fE F (s k) o->fE F (s 0) o
 |0,_,_,h=>h
 |k+1,s,hs,h=>.next (hs 0 (by omega)) (fE.many k (λi=>s (i+1)) (λi hi=>hs (i+1) (by omega)) h)
def v5{F:Nat->X->Option (LO X R B P)}(len:Nat)(s:Nat->X)(q:Nat->Bool)(bad:Nat->LO X R B P)(j0:Nat)(hb:∀i y,bad i≠.next y)
  (h:∀i,i<len->(∀j,j<i->q j=true)->Ev (λn=>F n (s i)) (bif q i then .next (s (i+1))else bad i))
  (he:(∀j,j<len->q j=true)->Ev (λn=>F n (s len)) (.out j0 (s len))) :
  ((∀i,i<len->q i=true)∧fE F (s 0) (.out j0 (s len)))∨∃i,i<len∧q i=false∧(∀j,j<i->q j=true)∧fE F (s 0) (bad i):=by
 have key:∀m i,i+m=len->(∀j,j<i->q j=true)->((∀i,i<len->q i=true)∧fE F (s i) (.out j0 (s len)))∨∃k,k<len∧q k=false∧(∀j,j<k->q j=true)∧fE F (s i) (bad k):=by
  intro m
  induction m with
  |zero=>
   intro i hi hq;have:i=len:=by omega
   subst this;exact .inl ⟨hq,.out (he hq)⟩
  |succ m ih=>
   intro i hi hq;have hs:=h i (by omega) hq;cases hc:q i with
   |false=>rw[hc]at hs;exact .inr ⟨i,by omega,hc,hq,.last hs (hb i)⟩
   |true=>
    rw[hc]at hs;rcases ih (i+1) (by omega) (λj hj=>by
     by_cases hji:j=i
     .rw[hji];exact hc
     .exact hq j (by omega))with⟨a,b⟩|⟨k,a,b,c,d⟩
    .exact .inl ⟨a,.next hs b⟩
    .exact .inr ⟨k,a,b,c,.next hs d⟩
 exact key len 0 (by omega) (λj hj=>by omega)
def rI{F:Nat->X->Option (LO X R B P)}(len:Nat)(s:Nat->X)(j0:Nat)(h:∀i,i<len->Ev (λn=>F n (s i)) (.next (s (i+1))))(he:Ev (λn=>F n (s len)) (.out j0 (s len))):fE F (s 0) (.out j0 (s len)):=
 fE.many len s h (.out he)
end
section
def yW{n:Int}(h1:-9223372036854775808<=n)(h2:n<=9223372036854775807):IntKind.wrap .i64 n=n:=by unfold IntKind.wrap;simp[IntKind.bits,IntKind.signed];omega
def bW{a b:Int}(h1:-9223372036854775808<=a+b)(h2:a+b<=9223372036854775807):D.add .i64 a b=a+b:=yW h1 h2
def ek{a b:Int}(h1:-9223372036854775808<=a-b)(h2:a-b<=9223372036854775807):D.dN .i64 a b=a-b:=yW h1 h2
def VT{a b:Int}(h1:-9223372036854775808<=a*b)(h2:a*b<=9223372036854775807):D.mul .i64 a b=a*b:=yW h1 h2
def aad{α:Type}{n:Int}{l:List α}:av n l=true↔0<=n∧n<l.length:=by simp[av]
def Wm{α:Type}{k:Nat}{l:List α}:cw k l=true↔k<l.length:=by simp[cw]
def aa6{lo hi len:Int}:eW lo hi len=true↔0<=lo∧lo<=hi∧hi<=len:=by simp[eW]
def E7{α:Type}{a b:List α}:cY a b=true↔a.length+b.length<=17179869184:=by simp[cY]
def Rj{a b:Int}:D.aO a b=true↔a=b:=by simp[D.aO]
def Rh{a b:Int}:D.bN a b=true↔a<b:=by simp[D.bN]
end
section
variable {α β:Type}
theorem IJ(a:α)(f:α->Option β):ak (some a) f=f a:=rfl
theorem aiE{R P:Type}(r:R)(f:R->Option α)(g:P->Option α):Rx.el (.ok r) f g=f r:=rfl
theorem aeE{R P:Type}(p:P)(f:R->Option α)(g:P->Option α):Rx.el (.dm p) f g=g p:=rfl
theorem Ni(x:Option α):aB true x=x:=rfl
theorem Lt(x y:Option α):aj true x y=x:=rfl
theorem QN(x y:Option α):aj false x y=y:=rfl
def aa8{γ:Type}{i:Int}{l:List γ}(h1:0<=i)(h2:i<(l.length:Int))(x:Option α):aB (av i l) x=x:=by rw[aad.2 ⟨h1,h2⟩];rfl
def XB{γ:Type}{k:Nat}{l:List γ}(h:k<l.length)(x:Option α):aB (cw k l) x=x:=by rw[Wm.2 h];rfl
def aa9{a b c:Int}(h1:0<=a)(h2:a<=b)(h3:b<=c)(x:Option α):aB (eW a b c) x=x:=by rw[aa6.2 ⟨h1,h2,h3⟩];rfl
def RK{γ:Type}{a b:List γ}(h:a.length+b.length<=17179869184)(x:Option α):aB (cY a b) x=x:=by rw[E7.2 h];rfl
def Kg(a b:Bool)(x:Option α):aB (CV a b) x=aB a (aB b x):=by cases a<;>rfl
def Kf{a b:Int}(h:a=b)(x:Option α):aB (hU a b) x=x:=by subst h;simp[hU,aB]
def Zs{a b:Int}(h:a=b)(x y:Option α):aj (hU a b) x y=x:=by subst h;simp[hU,aj]
def U5{a b:Int}(h:a≠b)(x y:Option α):aj (hU a b) x y=y:=by simp[hU,aj,h]
def AE{a b:Int}(h:a<b)(x y:Option α):aj (D.bN a b) x y=x:=by rw[Rh.2 h];rfl
def y9{a b:Int}(h:b<=a)(x y:Option α):aj (D.bN a b) x y=y:=by simp[aj,D.bN,Int.not_lt.2 h]
def Jd{a b:Int}(h:a<=b)(x y:Option α):aj (D.eu a b) x y=x:=by simp[aj,D.eu,h]
def QM{a b:Int}(h:b<a)(x y:Option α):aj (D.eu a b) x y=y:=by simp[aj,D.eu,Int.not_le.2 h]
def ac4{a b:Int}(h:a=b)(x y:Option α):aj (D.aO a b) x y=x:=by rw[Rj.2 h];rfl
def Zr{a b:Int}(h:a≠b)(x y:Option α):aj (D.aO a b) x y=y:=by rw[show D.aO a b=false by simp[D.aO,h]];rfl
def pZ(a:Bool)(x y:Option α):aj (D.aM a) x y=aj a y x:=by cases a<;>rfl
def alH{a b:Int}(h:a<b):D.bN a b=true:=Rh.2 h
def alI{a b:Int}(h:b<=a):D.bN a b=false:=by simp[D.bN,Int.not_lt.2 h]
def agM{a b:Int}(h:a<=b):D.eu a b=true:=by simp[D.eu,h]
def agN{a b:Int}(h:b<a):D.eu a b=false:=by simp[D.eu,Int.not_le.2 h]
def apt{a b:Int}(h:a=b):D.aO a b=true:=Rj.2 h
def apu{a b:Int}(h:a≠b):D.aO a b=false:=by simp[D.aO,h]
theorem aeN(x y:α):(bif true then x else y)=x:=rfl
theorem aeO(x y:α):(bif false then x else y)=y:=rfl
def UW(l:List α):eo l 0 (l.length:Int)=l:=by simp[eo]
def vV(l:List α)(k:Int):eo l k (l.length:Int)=l.drop k.toNat:=by simp[eo]
def r8(l:List α)(k:Int):eo l 0 k=l.take k.toNat:=by simp[eo]
theorem zy(k:Nat):ah (k:Int)=k:=rfl
theorem ZV(l:List α):aq l=(l.length:Int):=rfl
theorem Xl(l:List α)(k:Nat)(z:α):aN l k z=l.getD k z:=rfl
theorem ZO(n:Int):ah n=n.toNat:=rfl
theorem abb(a b:List α):cM a b=a++b:=rfl
theorem ZF(l:List α)(k:Nat)(x:α):dQ l k x=l.set k x:=rfl
def ZW(a b:List α):(a++b).length=a.length+b.length:=jg
def V6(a:α)(l:List α):(a::l).length=l.length+1:=fI
theorem ZU:([]:List α).length=0:=rfl
def VS(k:Nat):Int.toNat (k:Int)=k:=Jr k
theorem VR:Int.toNat 0=0:=rfl
theorem ZN:Int.toNat 1=1:=rfl
end
def lX:(∀{α:Type}(a b:List α),(a++b).length=a.length+b.length)∧(∀{α:Type}(a:α)(l:List α),(a::l).length=l.length+1)∧(∀{α:Type},([]:List α).length=0)∧
 (∀{α:Type}(k:Nat)(l:List α),(l.drop k).length=l.length-k)∧(∀{α:Type}(k:Nat)(l:List α),(l.take k).length=min k l.length)∧(∀{α:Type}(k:Nat)(x:α)(l:List α),(l.set k x).length=l.length):=
 ⟨λ_ _=>jg,λ_ _=>rfl,rfl,λ_ _=>LF,λ_ _=>LG,λ_ _ _=>AH⟩
def aY:(∀{α:Type}{β:Type}(a:α)(f:α->Option β),ak (some a) f=f a)∧
 (∀{α:Type}{R P:Type}(r:R)(f:R->Option α)(g:P->Option α),Rx.el (.ok r) f g=f r)∧
 (∀{α:Type}{R P:Type}(p:P)(f:R->Option α)(g:P->Option α),Rx.el (.dm p) f g=g p)∧
 (∀{α:Type}(x:Option α),aB true x=x)∧
 (∀{α:Type}(x y:Option α),aj true x y=x)∧
 (∀{α:Type}(x y:Option α),aj false x y=y)∧
 (∀{α:Type}{γ:Type}{i:Int}{l:List γ}(h1:0<=i)(h2:i<(l.length:Int))(x:Option α),aB (av i l) x=x)∧
 (∀{α:Type}{γ:Type}{k:Nat}{l:List γ}(h:k<l.length)(x:Option α),aB (cw k l) x=x)∧
 (∀{α:Type}{a b c:Int}(h1:0<=a)(h2:a<=b)(h3:b<=c)(x:Option α),aB (eW a b c) x=x)∧
 (∀{α:Type}{γ:Type}{a b:List γ}(h:a.length+b.length<=17179869184)(x:Option α),aB (cY a b) x=x)∧
 (∀{α:Type}(a b:Bool)(x:Option α),aB (CV a b) x=aB a (aB b x))∧
 (∀{α:Type}{a b:Int}(h:a=b)(x:Option α),aB (hU a b) x=x)∧
 (∀{α:Type}{a b:Int}(h:a=b)(x y:Option α),aj (hU a b) x y=x)∧
 (∀{α:Type}{a b:Int}(h:a≠b)(x y:Option α),aj (hU a b) x y=y)∧
 (∀{α:Type}{a b:Int}(h:a<b)(x y:Option α),aj (D.bN a b) x y=x)∧
 (∀{α:Type}{a b:Int}(h:b<=a)(x y:Option α),aj (D.bN a b) x y=y)∧
 (∀{α:Type}{a b:Int}(h:a<=b)(x y:Option α),aj (D.eu a b) x y=x)∧
 (∀{α:Type}{a b:Int}(h:b<a)(x y:Option α),aj (D.eu a b) x y=y)∧
 (∀{α:Type}{a b:Int}(h:a=b)(x y:Option α),aj (D.aO a b) x y=x)∧
 (∀{α:Type}{a b:Int}(h:a≠b)(x y:Option α),aj (D.aO a b) x y=y)∧
 (∀{α:Type}(a:Bool)(x y:Option α),aj (D.aM a) x y=aj a y x)∧
 (∀{a b:Int}(h:a<b),D.bN a b=true)∧
 (∀{a b:Int}(h:b<=a),D.bN a b=false)∧
 (∀{a b:Int}(h:a<=b),D.eu a b=true)∧
 (∀{a b:Int}(h:b<a),D.eu a b=false)∧
 (∀{a b:Int}(h:a=b),D.aO a b=true)∧
 (∀{a b:Int}(h:a≠b),D.aO a b=false)∧
 (∀{α:Type}(x y:α),(bif true then x else y)=x)∧
 (∀{α:Type}(x y:α),(bif false then x else y)=y)∧
 (∀{α:Type}(l:List α),eo l 0 (l.length:Int)=l)∧
 (∀{α:Type}(l:List α),aq l=(l.length:Int))∧
 (∀{α:Type}(l:List α)(k:Nat)(z:α),aN l k z=l.getD k z)∧
 (∀(n:Int),ah n=n.toNat)∧
 (∀{α:Type}(a b:List α),cM a b=a++b)∧
 (∀{α:Type}(l:List α)(k:Nat)(x:α),dQ l k x=l.set k x)∧
 (∀{α:Type}(a b:List α),(a++b).length=a.length+b.length)∧
 (∀{α:Type}(a:α)(l:List α),(a::l).length=l.length+1)∧
 (∀{α:Type},([]:List α).length=0)∧
 (∀(k:Nat),Int.toNat (k:Int)=k)∧
 (Int.toNat 0=0)∧
 (Int.toNat 1=1):=
 ⟨@IJ,@aiE,@aeE,@Ni,@Lt,@QN,@aa8,@XB,@aa9,@RK,@Kg,@Kf,@Zs,@U5,@AE,@y9,@Jd,@QM,@ac4,@Zr,@pZ,@alH,@alI,@agM,@agN,@apt,@apu,@aeN,@aeO,@UW,@ZV,@Xl,@ZO,@abb,@ZF,@ZW,@V6,@ZU,@VS,@VR,@ZN⟩
end
end TL
end
section
namespace Mn
open Go TL
def wu(a b:au):Bool:=a.Kind==b.Kind&&a.N==b.N
def gF(n:Int):au:=⟨1,n⟩
def iw(b:Bool):au:=⟨2,bif b then 1 else 0⟩
def ff:au:=⟨3,0⟩
def wv(n:Int):au:=⟨5,n⟩
def oW(v:au):au:=if v.Kind=4∨v.Kind=5 then wv 0 else v
def dR:List Nat:=[0,0,0,0,0,0,2,1,1,2,2,2,2,2,0,1,1,1,2,1,1,0,2,1,1,0,1,0,0]
def pH(n:bp):Int:=if n.Op=14 then n.Kids.length else(dR.getD n.Op.toNat 0:Nat)
def nodeAt(p:aG)(n:Int):bp:=p.aW.getD n.toNat aQ
def eF(w:ai)(n:Int):aE:=w.bI.getD n.toNat aR
def cL(w:ai)(at_:Int):Int:=w.cU.getD at_.toNat 0
def bQ(l:List au)(n:Nat):au:=l.getD n az
def nR(w:ai)(n:Int)(o:aE):ai:=⟨w.bI.set n.toNat o,w.cU,w.nw,w.CY,w.Used⟩
inductive qU where
 |fail (s:Int)
 |waits
 |go (w:ai) (fr:List ax) (bk:List au) (e:Option aS)
def fU(w:ai)(left:List ax)(v:au):qU:=.go w left [v] none
def kS(w:ai)(left:List ax)(node:Int)(env:List au):qU:=
 if 40<=left.length∨30<env.length then .fail 4 else .go w (left++[⟨node,env,[]⟩]) [] none
def g8(w:ai)(o:aE):ai:=⟨w.bI++[o],w.cU,w.nw,w.CY,w.Used⟩
def oX(w:ai)(left:List ax)(o:aE):qU:=
 if 120<=w.bI.length then .fail 4 else fU (g8 w o) left (wv w.bI.length)
def evS(at_:Int)(op n:Int)(v:au):qU->qU
 | .go w fr bk _=>.go w fr bk (some ⟨at_,op,n,oW v⟩)
 |r=>r
def iu(w:ai)(v:au)(form:Int):Option aE:=
 if v.Kind=5∧(eF w v.N).Form=form then some (eF w v.N)else none
def jh(p:aG)(w:ai)(f v:au):Option ax:=
 if f.Kind=4 then some ⟨p.dH.getD f.N.toNat 0,[v],[]⟩
 else match iu w f 2 with
  |some o=>some ⟨(nodeAt p o.N).Kids.getD 0 0,o.bZ++[v],[]⟩
  |none=>none
def FT(p:aG)(w:ai)(left:List ax)(f v:au):qU:=
 match iu w f 5 with
 |some o=>if 40<left.length+o.Frames.length then .fail 4 else fU w (left++o.Frames) v
 |none=>match jh p w f v with
  |none=>.fail 2
  |some b=>kS w left b.Node b.Env
def hJ(n:Int):Bool:=decide (-1000000000<=n)&&decide (n<=1000000000)
def yw(w:ai)(left:List ax)(op:Int)(u v:au):qU:=
 if op=13 then(if u.Kind≠v.Kind∨3<u.Kind then .fail 2 else fU w left (iw (wu u v)))
 else if u.Kind≠1∨v.Kind≠1 then .fail 2
 else if op=12 then fU w left (iw (decide (u.N<v.N)))
 else
  let n:=if op=9 then u.N+v.N else if op=10 then u.N-v.N else u.N*v.N
  if hJ n=true then fU w left (gF n)else .fail 4
mutual
def j4(w:ai):aC->au->Option (List au)
 |⟨form,n,text,parts⟩,v=>
  if form=1 then some []else if form=2 then some [v]
  else if form=3 then(if wu v (gF n)then some []else none)
  else if form=4 then(if wu v (iw (n==1))then some []else none)
  else if form=5 then(if wu v ff then some []else none)
  else match iu w v 1 with
   |none=>none
   |some o=>if o.N≠n∨o.bZ.length≠parts.length then none else eG w parts o.bZ
def eG(w:ai):List aC->List au->Option (List au)
 |q::qs,v::vs=>match j4 w q v with
  |none=>none
  |some l=>match eG w qs vs with
   |none=>none
   |some m=>some (l++m)
 |_,_=>some []
end
def qK(w:ai)(left:List ax)(env:List au)(u:au):List aC->List Int->qU
 |q::qs,k::ks=>match j4 w q u with
  |some l=>kS w left k (env++l)
  |none=>qK w left env u qs ks
 |_,_=>.fail 3
def hY{α:Type}(q:α->Bool):List α->Option Nat
 |[]=>none
 |a::l=>match hY q l with
  |some k=>some (k+1)
  |none=>bif q a then some 0 else none
def DM(p:aG)(w:ai)(left:List ax)(tY:Int)(env:List au):qU:=
 match hY (λf:ax=>(nodeAt p f.Node).Op==26) left with
 |none=>.fail 3
 |some k=>if 120<=w.bI.length then .fail 4
  else kS (g8 w ⟨5,0,[],left.drop k⟩) (left.take (k+1)) tY (env++[wv w.bI.length])
def DJ(p:aG)(w:ai)(at_:Int)(left:List ax)(f:au):qU:=
 let mk (o:aE):qU:=if 120<=w.bI.length then .fail 4
  else .go ⟨w.bI++[o],w.cU++[(w.bI.length:Int)],w.nw,w.CY,w.Used⟩ left [wv w.bI.length] (some ⟨at_,19,0,ff⟩)
 match iu w f 5 with
 |some k=>mk ⟨6,0,[ff],k.Frames⟩
 |none=>match jh p w f ff with
  |none=>.fail 2
  |some b=>if 30<b.Env.length then .fail 4 else mk ⟨6,0,[],[b]⟩
def W8(w:ai)(at_:Int)(left:List ax)(v:au):qU:=match iu w v 3 with
 |none=>.fail 2
 |some o=>.go w left [bQ o.bZ 0] (some ⟨at_,17,0,oW (bQ o.bZ 0)⟩)
def ij(w:ai)(at_:Int)(left:List ax)(c v:au):qU:=match iu w c 3 with
 |none=>.fail 2
 |some o=>.go (nR w c.N ⟨3,0,[v],[]⟩) left [ff] (some ⟨at_,18,0,oW v⟩)
def Ls(w:ai)(at_:Int)(left:List ax)(c v:au):qU:=match iu w c 4 with
 |none=>.fail 2
 |some o=>if 4<=o.bZ.length then .waits else .go (nR w c.N ⟨4,0,o.bZ++[v],[]⟩) left [ff] (some ⟨at_,22,0,oW v⟩)
def Ll(w:ai)(at_:Int)(left:List ax)(c:au):qU:=match iu w c 4 with
 |none=>.fail 2
 |some o=>match o.bZ with
  |[]=>.waits
  |v::l=>.go (nR w c.N ⟨4,0,l,[]⟩) left [v] (some ⟨at_,23,0,oW v⟩)
def MD(w:ai)(at_:Int)(left:List ax)(v:au):qU:=match iu w v 6 with
 |none=>.fail 2
 |some o=>if o.N=0 then .waits else if o.N≠1 then .fail o.N else .go w left [bQ o.bZ 0] (some ⟨at_,20,0,oW (bQ o.bZ 0)⟩)
def VK(w:ai)(at_:Int)(left:List ax)(port:Int)(v:au):qU:=
 if v.Kind≠1 then .fail 2 else if 100<=w.nw.length then .fail 4
 else .go ⟨w.bI,w.cU,w.nw++[⟨port,v.N⟩],w.CY,w.Used⟩ left [ff] (some ⟨at_,24,port,oW v⟩)
def inS(w:ai)(at_:Int)(left:List ax):qU:=match w.CY with
 |[]=>.waits
 |i::l=>if 1000000000<=w.Used then .fail 4 else .go ⟨w.bI,w.cU,w.nw,l,w.Used+1⟩ left [gF i] (some ⟨at_,25,0,gF i⟩)
def jc(p:aG)(w:ai)(at_:Int)(left:List ax)(f:ax):qU:=
 let n:=nodeAt p f.Node
 let l:=f.bZ
 match n.Op.toNat with
 |1=>fU w left (gF n.N)
 |2=>fU w left (iw (n.N==1))
 |3=>fU w left ff
 |4=>if n.N<0 then fU w left ⟨4,-1-n.N⟩else if f.Env.length<=n.N then .fail 2 else fU w left (bQ f.Env n.N.toNat)
 |5=>oX w left ⟨2,f.Node,f.Env,[]⟩
 |6=>FT p w left (bQ l 0) (bQ l 1)
 |7=>kS w left (n.Kids.getD 1 0) (f.Env++[bQ l 0])
 |8=>if(bQ l 0).Kind≠2 then .fail 2 else kS w left (n.Kids.getD (2-(bQ l 0).N).toNat 0) f.Env
 |9|10|11|12|13=>yw w left n.Op (bQ l 0) (bQ l 1)
 |14=>oX w left ⟨1,n.N,l,[]⟩
 |15=>qK w left f.Env (bQ l 0) n.cx (n.Kids.drop 1)
 |16=>evS at_ 16 0 (bQ l 0) (oX w left ⟨3,0,[bQ l 0],[]⟩)
 |17=>W8 w at_ left (bQ l 0)
 |18=>ij w at_ left (bQ l 0) (bQ l 1)
 |19=>DJ p w at_ left (bQ l 0)
 |20=>MD w at_ left (bQ l 0)
 |21=>evS at_ 21 0 ff (oX w left ⟨4,0,[],[]⟩)
 |22=>Ls w at_ left (bQ l 0) (bQ l 1)
 |23=>Ll w at_ left (bQ l 0)
 |24=>VK w at_ left n.N (bQ l 0)
 |25=>inS w at_ left
 |26=>fU w left (bQ l 0)
 |27=>DM p w left (n.Kids.getD 0 0) f.Env
 |_=>.go w left [ff] (some ⟨at_,28,0,ff⟩)
def goS(p:aG)(w:ai)(at_:Int)(o:aE):qU:=
 let top:=o.Frames.length-1
 let f:=o.Frames.getD top aX
 match o.bZ with
 |v::_=>.go w (o.Frames.take top++[⟨f.Node,f.Env,f.bZ++[v]⟩]) [] none
 |[]=>if(f.bZ.length:Int)<pH (nodeAt p f.Node)then kS w o.Frames ((nodeAt p f.Node).Kids.getD f.bZ.length 0) f.Env
  else jc p w at_ (o.Frames.take top) f
def qY(p:aG)(w:ai)(at_:Int):Option (ai×Option aS):=
 let t:=cL w at_
 let o:=eF w t
 if o.N≠0 then none
 else if o.Frames=[]then some (nR w t ⟨6,1,[bQ o.bZ 0],[]⟩,some ⟨at_,0,1,oW (bQ o.bZ 0)⟩)
 else match goS p w at_ o with
  | .waits=>none
  | .fail s=>some (nR w t ⟨6,s,[],[]⟩,some ⟨at_,0,s,az⟩)
  | .go w' fr bk e=>some (nR w' t ⟨6,0,bk,fr⟩,e)
section
def cO(p:aG)(k:Nat)(v:au):Prop:=
 (v.Kind=1∧hJ v.N=true)∨(v.Kind=2∧(v.N=0∨v.N=1))∨(v.Kind=3∧v.N=0)∨(v.Kind=4∧0<=v.N∧v.N<p.dH.length)∨(v.Kind=5∧0<=v.N∧v.N<k)
structure eK(p:aG)(k:Nat)(f:ax):Prop where
 lo:0<=f.Node
 hi:f.Node<p.aW.length
 el:f.Env.length<=30
 env:∀v∈f.Env,cO p k v
 vl:(f.bZ.length:Int)<=pH (nodeAt p f.Node)
 vals:∀v∈f.bZ,cO p k v
def zq(p:aG)(f:ax):Prop:=(f.bZ.length:Int)<pH (nodeAt p f.Node)
inductive iF(p:aG)(k:Nat):aE->Prop
 |data {n:Int} {vs}:0<=n->n<p.Cons.length->(vs.length:Int)=(p.Cons.getD n.toNat bE).qQ->(∀v∈vs,cO p k v)->iF p k ⟨1,n,vs,[]⟩
 |func {n:Int} {vs}:0<=n->n<p.aW.length->(nodeAt p n).Op=5->vs.length<=30->(∀v∈vs,cO p k v)->iF p k ⟨2,n,vs,[]⟩
 |cell {v}:cO p k v->iF p k ⟨3,0,[v],[]⟩
 |chan {vs}:vs.length<=4->(∀v∈vs,cO p k v)->iF p k ⟨4,0,vs,[]⟩
 |JJ {f fs}:fs.length<40->(∀g∈f::fs,eK p k g∧zq p g)->(nodeAt p f.Node).Op=26->iF p k ⟨5,0,[],f::fs⟩
 |A1 {fs f}:fs.length<40->(∀g∈fs,eK p k g∧zq p g)->eK p k f->iF p k ⟨6,0,[],fs++[f]⟩
 |back {fs v}:fs.length<=40->(∀g∈fs,eK p k g∧zq p g)->cO p k v->iF p k ⟨6,0,[v],fs⟩
 |done {v}:cO p k v->iF p k ⟨6,1,[v],[]⟩
 |dead {s}:s=2∨s=3∨s=4->iF p k ⟨6,s,[],[]⟩
structure lf(p:aG)(w:ai):Prop where
 len:w.bI.length<=120
 obs:∀o∈w.bI,iF p w.bI.length o
 outs:w.nw.length<=100
 out:∀o∈w.nw,0<=o.Port∧o.Port<=3∧hJ o.N=true
 ins:w.CY.length<=50
 inn:∀i∈w.CY,hJ i=true
 used:0<=w.Used∧w.Used<=1000000000
 Ka:w.cU.Nodup
 tl:w.cU.length<=w.bI.length
 task:∀t∈w.cU,0<=t∧t<w.bI.length∧(eF w t).Form=6
 all:∀i:Nat,i<w.bI.length->(eF w i).Form=6->(i:Int)∈w.cU
mutual
def pw:aC->Nat
 |⟨_,_,_,parts⟩=>1+qR parts
def qR:List aC->Nat
 |[]=>0
 |q::qs=>pw q+qR qs
end
mutual
def pf:aC->Bool
 |⟨form,_,_,parts⟩=>(decide (1<=form)&&decide (form<=6))&&pfs parts
def pfs:List aC->Bool
 |[]=>true
 |q::qs=>pf q&&pfs qs
end
def rJ:List Nat:=[0,0,0,0,0,1,2,2,3,2,2,2,2,2,0,0,1,1,2,1,1,0,2,1,1,0,1,1,0]
structure Up(p:aG)(n:bp):Prop where
 lo:1<=n.Op
 hi:n.Op<=28
 kids:∀k∈n.Kids,0<=k∧k<p.aW.length
 many:n.Op≠14->n.Op≠15->n.Kids.length=rJ.getD n.Op.toNat 0
 con:n.Op=14->0<=n.N∧n.N<p.Cons.length∧(n.Kids.length:Int)=(p.Cons.getD n.N.toNat bE).qQ
 mat:n.Op=15->n.Kids.length=1+n.cx.length∧n.cx.length<=5
 int:n.Op=1->hJ n.N=true
 bool:n.Op=2->n.N=0∨n.N=1
 name:n.Op=4->-(p.dH.length:Int)<=n.N∧n.N<=29
 port:n.Op=24->0<=n.N∧n.N<=3
 pats:∀q∈n.cx,pw q<=12∧pf q=true
structure yV(p:aG):Prop where
 len:p.aW.length<=300
 wC:∀n∈p.aW,Up p n
 wI:∀f∈p.dH,0<=f∧f<p.aW.length
 fl:p.dH.length<=300
 main:0<=p.Main∧p.Main<p.dH.length
 cons:∀c∈p.Cons,0<=c.qQ∧c.qQ<=3
def cG{α:Type}{l:List α}{i:Nat}(d:α)(h:i<l.length):l.getD i d∈l:=by rw[pQ,gm h];exact GK h
variable {p:aG}{n:Int}{w:ai}{v:au}{o:aE}{k k':Nat}
def yV.nd(h:yV p)(h1:0<=n)(h2:n<p.aW.length):Up p (nodeAt p n):=h.wC _ (cG _ (by omega))
def lf.ob(h:lf p w)(h1:0<=n)(h2:n<w.bI.length):iF p w.bI.length (eF w n):=h.obs _ (cG _ (by omega))
def ee(h:lf p w)(hv:cO p w.bI.length v){form:Int}(ho:iu w v form=some o) :
  o.Form=form∧iF p w.bI.length o∧v.Kind=5∧0<=v.N∧v.N<w.bI.length∧o=eF w v.N:=by
 unfold iu at ho;split at ho<;>rename_i hc
 .cases ho;have:0<=v.N∧v.N<w.bI.length:=by rcases hv with h|h|h|h|h<;>first|exact h.2|(have:=h.1;have:=hc.1;omega)
  exact⟨hc.2,h.ob this.1 this.2,hc.1,this.1,this.2,rfl⟩
 .cases ho
def cO.ref(hv:cO p k v)(h:v.Kind=5):0<=v.N∧v.N<k:=by rcases hv with h'|h'|h'|h'|h'<;>first|exact h'.2|(have:=h'.1;omega)
def cO.code(hv:cO p k v)(h:v.Kind=4):0<=v.N∧v.N<p.dH.length:=by rcases hv with h'|h'|h'|h'|h'<;>first|exact h'.2|(have:=h'.1;omega)
def cO.US(hv:cO p k v)(h:v.Kind=2):v.N=0∨v.N=1:=by rcases hv with h'|h'|h'|h'|h'<;>first|exact h'.2|(have:=h'.1;omega)
def cO.int(hv:cO p k v)(h:v.Kind=1):hJ v.N=true:=by rcases hv with h'|h'|h'|h'|h'<;>first|exact h'.2|(have:=h'.1;omega)
def cO.mono(hk:k<=k')(hv:cO p k v):cO p k' v:=by
 rcases hv with h|h|h|h|h
 .exact .inl h
 .exact .inr (.inl h)
 .exact .inr (.inr (.inl h))
 .exact .inr (.inr (.inr (.inl h)))
 .exact .inr (.inr (.inr (.inr ⟨h.1,h.2.1,by omega⟩)))
def eK.mono{p:aG}{k k':Nat}{f:ax}(hk:k<=k')(h:eK p k f):eK p k' f:=
 ⟨h.lo,h.hi,h.el,λv hv=>(h.env v hv).mono hk,h.vl,λv hv=>(h.vals v hv).mono hk⟩
def iF.vals(h:iF p k o):∀v∈o.bZ,cO p k v:=by
 have one:∀{u:au},cO p k u->∀v∈[u],cO p k v:=λhu v hv=>by rw[mq.1 hv];exact hu
 cases h with
 |data _ _ _ h=>exact h
 |func _ _ _ _ h=>exact h
 |cell h=>exact one h
 |chan _ h=>exact h
 |JJ=>intro v hv;cases hv
 |A1=>intro v hv;cases hv
 |back _ _ h=>exact one h
 |done h=>exact one h
 |dead=>intro v hv;cases hv
def iF.mono{p:aG}{k k':Nat}{o:aE}(hk:k<=k')(h:iF p k o):iF p k' o:=by
 cases h with
 |data a b c d=>exact .data a b c λv hv=>(d v hv).mono hk
 |func a b c d e=>exact .func a b c d λv hv=>(e v hv).mono hk
 |cell a=>exact .cell (a.mono hk)
 |chan a b=>exact .chan a λv hv=>(b v hv).mono hk
 |JJ a b c=>exact .JJ a (λg hg=>⟨(b g hg).1.mono hk,(b g hg).2⟩) c
 |A1 a b c=>exact .A1 a (λg hg=>⟨(b g hg).1.mono hk,(b g hg).2⟩) (c.mono hk)
 |back a b c=>exact .back a (λg hg=>⟨(b g hg).1.mono hk,(b g hg).2⟩) (c.mono hk)
 |done a=>exact .done (a.mono hk)
 |dead a=>exact .dead a
end
section
structure Cx(p:aG)(w:ai)(left:List ax)(f:ax):Prop where
 hp:yV p
 hw:lf p w
 hf:eK p w.bI.length f
 full:(f.bZ.length:Int)=pH (nodeAt p f.Node)
 ll:left.length<40
 left:∀g∈left,eK p w.bI.length g∧zq p g
section
variable {p:aG}{w w':ai}{left:List ax}{f:ax}{at_:Int}
def Cx.nd(c:Cx p w left f):Up p (nodeAt p f.Node):=c.hp.nd c.hf.lo c.hf.hi
variable {i k k':Nat}{n:Int}{o:aE}{fr:List ax}{bk:List au}{e:Option aS}{v u:au}
def Cx.val(c:Cx p w left f)(h:i<f.bZ.length):cO p w.bI.length (bQ f.bZ i):=c.hf.vals _ (cG _ h)
def Cx.vl(c:Cx p w left f){k:Int}(h:(nodeAt p f.Node).Op=k)(xg:k≠14):f.bZ.length=dR.getD k.toNat 0:=by
 have:=c.full;unfold pH at this;rw[h,bw xg]at this
 exact_mod_cast this
def Dt(n:bp):0<=pH n:=by unfold pH;split<;>omega
def H8(hn:0<=n)(hn':n<w.bI.length):eF (nR w n o) i=if(i:Int)=n then o else eF w i:=by
 unfold eF nR;simp only[Jr,pQ,GM];by_cases h:(i:Int)=n
 .rw[bL h,bL (by omega),bL (by omega)];rfl
 .rw[bw h,bw (by omega)]
def rE:eF (g8 w o) i=if i=w.bI.length then o else eF w i:=by
 unfold eF g8;simp only[Jr,pQ,lI];by_cases h:i=w.bI.length
 .rw[bL h,bw (by omega),h];simp
 .rw[bw h];split
  .rfl
  .rw[Jt (by simp;omega),Jt (by omega)]
def lf.set(h:lf p w)(hn:0<=n)(hn':n<w.bI.length)(ho:iF p w.bI.length o)(hf:o.Form=6↔(eF w n).Form=6):lf p (nR w n o):=by
 have hl:(nR w n o).bI.length=w.bI.length:=by unfold nR;simp
 have hform:∀i:Nat,i<w.bI.length->((eF (nR w n o) i).Form=6↔(eF w i).Form=6):=by
  intro i hi;rw[H8 hn hn'];by_cases hin:(i:Int)=n
  .rw[bL hin,hin];exact hf
  .rw[bw hin]
 refine⟨by rw[hl];exact h.len,λx hx=>?_,h.outs,h.out,h.ins,h.inn,h.used,h.Ka,by rw[hl];exact h.tl,λt ht=>?_,λi hi hi'=>?_⟩
 .rw[hl];rcases Vg hx with hx|hx
  .exact h.obs x hx
  .rw[hx];exact ho
 .obtain ⟨h1,h2,h3⟩:=h.task t ht;refine⟨h1,by rw[hl];exact h2,?_⟩;have e:((t.toNat:Nat):Int)=t:=by omega
  have:=(hform t.toNat (by omega)).2 (by rw[e];exact h3);rwa [e]at this
 .rw[hl]at hi;exact h.all i hi ((hform i hi).1 hi')
def lf.add(h:lf p w)(hl:w.bI.length<120)(ho:iF p w.bI.length o)(hf:o.Form≠6):lf p (g8 w o):=by
 have hl':(g8 w o).bI.length=w.bI.length+1:=by unfold g8;simp
 refine⟨by omega,λx hx=>?_,h.outs,h.out,h.ins,h.inn,h.used,h.Ka,by have:=h.tl;unfold g8;simp;omega,λt ht=>?_,λi hi hi'=>?_⟩
 .rw[hl'];rcases eg.1 hx with hx|hx
  .exact (h.obs x hx).mono (by omega)
  .rw[mq.1 hx];exact ho.mono (by omega)
 .obtain ⟨h1,h2,h3⟩:=h.task t ht;refine⟨h1,by omega,?_⟩;have e:((t.toNat:Nat):Int)=t:=by omega
  rw[<-e,rE,bw (by omega),e];exact h3
 .rw[rE]at hi';by_cases hin:i=w.bI.length
  .rw[bL hin]at hi';exact absurd hi' hf
  .rw[bw hin]at hi';exact h.all i (by omega) hi'
abbrev Ag(w:ai)(o:aE):ai:=⟨w.bI++[o],w.cU++[(w.bI.length:Int)],w.nw,w.CY,w.Used⟩
def lf.spawn(h:lf p w)(hl:w.bI.length<120)(ho:iF p w.bI.length o)(hf:o.Form=6):lf p (Ag w o):=by
 have hl':(Ag w o).bI.length=w.bI.length+1:=by simp
 have ha:∀i:Nat,eF (Ag w o) i=if i=w.bI.length then o else eF w i:=λi=>rE (w:=w) (o:=o) (i:=i)
 refine⟨by omega,λx hx=>?_,h.outs,h.out,h.ins,h.inn,h.used,?_,by have:=h.tl;simp;omega,λt ht=>?_,λi hi hi'=>?_⟩
 .rw[hl'];rcases eg.1 hx with hx|hx
  .exact (h.obs x hx).mono (by omega)
  .rw[mq.1 hx];exact ho.mono (by omega)
 .refine HU.2 ⟨h.Ka,Vx _ _,λa ha b hb=>?_⟩;rw[mq.1 hb];have:=(h.task a ha).2.1;omega
 .rcases eg.1 ht with ht|ht
  .obtain ⟨h1,h2,h3⟩:=h.task t ht;refine⟨h1,by omega,?_⟩;have e:((t.toNat:Nat):Int)=t:=by omega
   rw[<-e,ha,bw (by omega),e];exact h3
  .rw[mq.1 ht];refine⟨by omega,by omega,?_⟩;rw[ha,bL rfl];exact hf
 .rw[ha]at hi';by_cases hin:i=w.bI.length
  .exact iW _ (by rw[hin];exact List.mem_singleton_self _)
  .rw[bw hin]at hi';exact eJ _ (h.all i (by omega) hi')
structure pV(p:aG)(w w':ai)(fr:List ax)(bk:List au)(e:Option aS):Prop where
 ok:lf p w'
 tk:∃l,w'.cU=w.cU++l
 tn:e=none->w'.cU=w.cU
 ln:w.bI.length<=w'.bI.length
 fm:∀i:Nat,i<w.bI.length->((eF w' i).Form=6↔(eF w i).Form=6)
 ob:iF p w'.bI.length ⟨6,0,bk,fr⟩
def tO(p:aG)(w:ai):qU->Prop
 | .fail s=>s=2∨s=3∨s=4
 | .waits=>True
 | .go w' fr bk e=>pV p w w' fr bk e
def pV.same(h:lf p w)(ho:iF p w.bI.length ⟨6,0,bk,fr⟩):pV p w w fr bk e:=
 ⟨h,⟨[],by simp⟩,λ_=>rfl,bT _,λ_ _=>ru,ho⟩
def pV.set(h:lf p w){fr:List ax}{bk:List au}{e:Option aS}{n:Int}{o:aE}(hn:0<=n)(hn':n<w.bI.length)(ho:iF p w.bI.length o)(hf:o.Form≠6)(hf':(eF w n).Form≠6)
  (hb:iF p w.bI.length ⟨6,0,bk,fr⟩):pV p w (nR w n o) fr bk e:=by
 have hl:(nR w n o).bI.length=w.bI.length:=by unfold nR;simp
 refine⟨h.set hn hn' ho ⟨λh=>absurd h hf,λh=>absurd h hf'⟩,⟨[],by simp[nR]⟩,λ_=>rfl,by omega,λi hi=>?_,by rw[hl];exact hb⟩;rw[H8 hn hn'];by_cases hin:(i:Int)=n
 .rw[bL hin,hin];exact⟨λh=>absurd h hf,λh=>absurd h hf'⟩
 .rw[bw hin]
def pV.add(h:lf p w){fr:List ax}{bk:List au}{e:Option aS}{o:aE}(hl:w.bI.length<120)(ho:iF p w.bI.length o)(hf:o.Form≠6)
  (hb:iF p (w.bI.length+1) ⟨6,0,bk,fr⟩):pV p w (g8 w o) fr bk e:=by
 have hl':(g8 w o).bI.length=w.bI.length+1:=by unfold g8;simp
 refine⟨h.add hl ho hf,⟨[],by simp[g8]⟩,λ_=>rfl,by omega,λi hi=>?_,by rw[hl'];exact hb⟩;rw[rE,bw (by omega)]
def s6(hk:k<=k')(hl:left.length<=40)(h:∀g∈left,eK p k g∧zq p g)(hv:cO p k' v):iF p k' ⟨6,0,[v],left⟩:=
 .back hl (λg hg=>⟨(h g hg).1.mono hk,(h g hg).2⟩) hv
def Wk(h:hJ n=true):cO p k (gF n):=.inl ⟨rfl,h⟩
def PF{b:Bool}:cO p k (iw b):=.inr (.inl ⟨rfl,by cases b<;>simp[iw]⟩)
def um:cO p k ff:=.inr (.inr (.inl ⟨rfl,rfl⟩))
def Ve(h:k<k'):cO p k' (wv k):=.inr (.inr (.inr (.inr ⟨rfl,by simp[wv],by simp[wv];omega⟩)))
def zA(c:Cx p w left f)(ho:iF p w.bI.length o)(hf:o.Form≠6):tO p w (oX w left o):=by
 unfold oX;split
 .exact .inr (.inr rfl)
 .exact pV.add c.hw (by omega) ho hf (s6 (by omega) (by have:=c.ll;omega) c.left (Ve (by omega)))
def Xd{r:qU}{a b d:Int}(h:tO p w r):tO p w (evS a b d v r):=by cases r with|go w' fr bk e=>exact⟨h.ok,h.tk,(λhe=>by cases he),h.ln,h.fm,h.ob⟩|_=>exact h
def uA{k:Int}{env:List au}{w1:ai}(h1:∀fr,iF p w1.bI.length ⟨6,0,[],fr⟩->pV p w w1 fr [] none)(hk:w.bI.length<=w1.bI.length)(hl:∀g∈left,eK p w.bI.length g∧zq p g)
  (hn:0<=k∧k<p.aW.length) (he:∀v∈env,cO p w1.bI.length v):tO p w (kS w1 left k env):=by
 unfold kS;split
 .exact .inr (.inr rfl)
 .exact h1 _ (.A1 (by omega) (λg hg=>⟨(hl g hg).1.mono hk,(hl g hg).2⟩) ⟨hn.1,hn.2,by simp only;omega,he,Dt _,λv hv=>by cases hv⟩)
def A9{l:List au}(h:∀u∈l,cO p k u)(hv:cO p k v):∀u∈l++[v],cO p k u:=by
 intro u hu;rcases eg.1 hu with hu|hu
 .exact h u hu
 .rw[mq.1 hu];exact hv
def Nv(hp:yV p)(hw:lf p w)(hu:cO p w.bI.length u)(hv:cO p w.bI.length v){b:ax}(hb:jh p w u v=some b) :
  (0<=b.Node∧b.Node<p.aW.length)∧(∀x∈b.Env,cO p w.bI.length x)∧b.bZ=[]:=by
 unfold jh at hb;split at hb
 .rename_i h4;cases hb;obtain⟨h1,h2⟩:=hu.code h4;exact⟨hp.wI _ (cG _ (by omega)),A9 (l:=[]) (by simp) hv,rfl⟩
 .split at hb
  .rename_i o ho;cases hb;obtain⟨h1,h2,_⟩:=ee hw hu ho;cases h2 with|func a b d e g=>have hn:=hp.nd a b;have hk:=hn.many (by omega) (by omega);rw[d]at hk;exact⟨hn.kids _ (cG _ (by rw[hk];decide)),A9 g hv,rfl⟩|_=>cases h1
  .cases hb
mutual
def Mt(hw:lf p w):∀(q:aC)(v:au)(l:List au),cO p w.bI.length v->j4 w q v=some l->∀u∈l,cO p w.bI.length u
 |⟨form,n,text,parts⟩,v,l,hv,h=>by
  unfold j4 at h;by_cases h1:form=1
  .rw[bL h1]at h;cases h;intro u hu;cases hu
  rw[bw h1]at h;by_cases h2:form=2
  .rw[bL h2]at h;cases h;intro u hu;rw[mq.1 hu];exact hv
  rw[bw h2]at h;by_cases h3:form=3
  .rw[bL h3]at h;split at h<;>cases h;intro u hu;cases hu
  rw[bw h3]at h;by_cases h4:form=4
  .rw[bL h4]at h;split at h<;>cases h;intro u hu;cases hu
  rw[bw h4]at h;by_cases h5:form=5
  .rw[bL h5]at h;split at h<;>cases h;intro u hu;cases hu
  rw[bw h5]at h;split at h
  .cases h
  .rename_i o ho;split at h
   .cases h
   .exact EA hw parts o.bZ l (ee hw hv ho).2.1.vals h
def EA(hw:lf p w):∀(qs:List aC)(vs:List au)(l:List au),(∀v∈vs,cO p w.bI.length v)->eG w qs vs=some l->∀u∈l,cO p w.bI.length u
 |[],vs,l,hv,h=>by unfold eG at h;cases h;intro u hu;cases hu
 |q::qs,[],l,hv,h=>by unfold eG at h;cases h;intro u hu;cases hu
 |q::qs,v::vs,l,hv,h=>by
  unfold eG at h;split at h
  .cases h
  .rename_i l1 JU;split at h
   .cases h
   .rename_i l2 hl2;cases h;intro u hu;rcases eg.1 hu with hu|hu
    .exact Mt hw q v l1 (hv v eC) JU u hu
    .exact EA hw qs vs l2 (λx hx=>hv x (gL _ hx)) hl2 u hu
end
def Nm(c:Cx p w left f){u:au}(hu:cO p w.bI.length u):∀(qs:List aC)(ks:List Int),(∀k∈ks,0<=k∧k<p.aW.length)->tO p w (qK w left f.Env u qs ks)
 |[],ks,_=>by cases ks<;>exact .inr (.inl rfl)
 |q::qs,[],_=>.inr (.inl rfl)
 |q::qs,k::ks,hk=>by
  unfold qK;split
  .rename_i l hl;refine uA (λfr h=>pV.same c.hw h) (bT _) c.left (hk k eC) λv hv=>?_;rcases eg.1 hv with hv|hv
   .exact c.hf.env v hv
   .exact Mt c.hw q u l hu hl v hv
  .exact Nm c hu qs ks λx hx=>hk x (gL _ hx)
def mP{op:qU}(c:Cx p w left f)(hv:cO p w.bI.length v):tO p w (fU w left v):=
 pV.same c.hw (s6 (bT _) (by have:=c.ll;omega) c.left hv)
def EG{α:Type}{q:α->Bool}:∀{l:List α}{k:Nat},hY q l=some k->∃h:k<l.length,q l[k]=true
 |a::l,k,h=>by
  unfold hY at h;cases hc:hY q l with
  |some j=>rw[hc]at h;obtain⟨h1,h2⟩:=EG hc;simp only[bf]at h;subst h;exact⟨by simp only[fI];omega,h2⟩
  |none=>rw[hc]at h;simp only at h;cases hq:q a<;>rw[hq]at h<;>simp at h;subst h;exact⟨by simp,hq⟩
def adh(c:Cx p w left f):tO p w (jc p w at_ left f):=by
 have nd:=c.nd;have hlen:=c.hw.len;have yT:=c.ll;have h1:=nd.lo;have h2:=nd.hi;have tY:∀{i:Nat},i<(nodeAt p f.Node).Kids.length->0<=(nodeAt p f.Node).Kids.getD i 0∧(nodeAt p f.Node).Kids.getD i 0<p.aW.length:=λh=>nd.kids _ (cG _ h);have many:∀k:Int,(nodeAt p f.Node).Op=k->k≠14->k≠15->(nodeAt p f.Node).Kids.length=rJ.getD k.toNat 0:=by intro k h xg Ci;have:=nd.many (by omega) (by omega);rwa [h]at this
 have ref:∀{o:aE}{v:au},cO p w.bI.length v->tO p w (fU w left v):=λhv=>mP (op:=.waits) c hv;have same:∀{v:au}{e:Option aS},cO p w.bI.length v->tO p w (.go w left [v] e):=λhv=>pV.same c.hw (s6 (bT _) (by omega) c.left hv);obtain⟨k,hk⟩:∃k:Nat,(nodeAt p f.Node).Op=k:=⟨_,(LH (by omega)).symm⟩;have ke:1<=k:=by omega
 have hk2:k<=28:=by omega
 unfold jc;simp only[hk,Jr]
 match k,hk,ke,hk2 with
 |1,hk,_,_=>exact mP (op:=.waits) c (Wk (nd.int hk))
 |2,hk,_,_=>exact mP (op:=.waits) c PF
 |3,hk,_,_=>exact mP (op:=.waits) c um
 |4,hk,_,_=>
  have hn:=nd.name hk;simp only;split
  .refine mP (op:=.waits) c (.inr (.inr (.inr (.inl ⟨rfl,?_,?_⟩))))<;>simp only<;>omega
  .split
   .exact .inl rfl
   .exact mP (op:=.waits) c (c.hf.env _ (cG _ (by omega)))
 |5,hk,_,_=>exact zA c (.func c.hf.lo c.hf.hi hk c.hf.el c.hf.env) (by simp)
 |6,hk,_,_=>
  have hv:=c.vl hk (by decide);simp[dR]at hv;have v0:=c.val (i:=0) (by omega);have v1:=c.val (i:=1) (by omega);simp only;unfold FT;split
  .rename_i o ho;obtain⟨h3,h4,_⟩:=ee c.hw v0 ho;split
   .exact .inr (.inr rfl)
   .refine pV.same c.hw (.back (by rw[jg];omega) (λg hg=>?_) v1);rcases eg.1 hg with hg|hg
    .exact c.left g hg
    .cases h4 with|JJ a b d=>exact b g hg|_=>cases h3
  .split
   .exact .inl rfl
   .rename_i b hb;obtain⟨h3,h4,h5⟩:=Nv c.hp c.hw v0 v1 hb;exact uA (λfr h=>pV.same c.hw h) (bT _) c.left h3 h4
 |7,hk,_,_=>have hv:=c.vl hk (by decide);simp[dR]at hv;have hm:=many _ hk (by decide) (by decide);exact uA (λfr h=>pV.same c.hw h) (bT _) c.left (tY (by rw[hm];decide)) (A9 c.hf.env (c.val (by omega)))
 |8,hk,_,_=>
  have hv:=c.vl hk (by decide);simp[dR]at hv;have hm:=many _ hk (by decide) (by decide);simp only;split
  .exact .inl rfl
  .rename_i h3;have:=(c.val (i:=0) (by omega)).US (by omega);refine uA (λfr h=>pV.same c.hw h) (bT _) c.left (tY ?_) c.hf.env;rw[hm];show _<3;omega
 |9,hk,_,_|10,hk,_,_|11,hk,_,_|12,hk,_,_|13,hk,_,_=>
  simp only;have fin:∀m:Int,tO p w (if hJ m=true then fU w left (gF m)else .fail 4):=by
   intro m;split
   .exact mP (op:=.waits) c (Wk (by assumption))
   .exact .inr (.inr rfl)
  unfold yw;split
  .split
   .exact .inl rfl
   .exact mP (op:=.waits) c PF
  .split
   .exact .inl rfl
   .split
    .exact mP (op:=.waits) c PF
    .exact fin _
 |14,hk,_,_=>obtain⟨a,b,d⟩:=nd.con hk;have hf:=c.full;unfold pH at hf;rw[bL (show(nodeAt p f.Node).Op=14 from hk)]at hf;exact zA c (.data a b (by omega) c.hf.vals) (by simp)
 |15,hk,_,_=>have hv:=c.vl hk (by decide);simp[dR]at hv;exact Nm c (c.val (by omega)) _ _ λx hx=>nd.kids _ (List.mem_of_mem_drop hx)
 |16,hk,_,_=>have hv:=c.vl hk (by decide);simp[dR]at hv;exact Xd (zA c (.cell (c.val (by omega))) (by simp))
 |17,hk,_,_=>
  have hv:=c.vl hk (by decide);simp[dR]at hv;simp only;unfold W8;split
  .exact .inl rfl
  .rename_i o ho;obtain⟨h3,h4,_⟩:=ee c.hw (c.val (by omega)) ho;have:0<o.bZ.length:=by cases h4<;>first|(cases h3;done)|simp
   exact same (h4.vals _ (cG _ this))
 |18,hk,_,_=>
  have hv:=c.vl hk (by decide);simp[dR]at hv;simp only;unfold ij;split
  .exact .inl rfl
  .rename_i o ho;obtain⟨h3,h4,h5,h6,h7,h8⟩:=ee c.hw (c.val (by omega)) ho;exact pV.set c.hw h6 h7 (.cell (c.val (by omega))) (by simp) (by rw[<-h8];omega) (s6 (bT _) (by omega) c.left um)
 |19,hk,_,_=>
  have hv:=c.vl hk (by decide);simp[dR]at hv;simp only;have mk:∀{o:aE},iF p w.bI.length o->o.Form=6->tO p w (if 120<=w.bI.length then .fail 4 else .go (Ag w o) left [wv w.bI.length] (some ⟨at_,19,0,ff⟩)):=by
   intro o ho hf;split
   .exact .inr (.inr rfl)
   .refine ⟨c.hw.spawn (by omega) ho hf,⟨_,rfl⟩,(λh=>by cases h),by simp,λi hi=>?_,s6 (k:=w.bI.length) (by simp) (by omega) c.left (Ve (by simp))⟩;rw[show eF (Ag w o) i=if i=w.bI.length then o else eF w i from rE (w:=w) (o:=o) (i:=i),bw (by omega)]
  unfold DJ;simp only;split
  .rename_i o ho;obtain⟨h3,h4,_⟩:=ee c.hw (c.val (by omega)) ho;cases h4 with|JJ a b d=>exact mk (.back (by simp only[fI];omega) b um) rfl|_=>cases h3
  .split
   .exact .inl rfl
   .rename_i b hb;obtain⟨h3,h4,h5⟩:=Nv c.hp c.hw (c.val (by omega)) um hb;split
    .exact .inr (.inr rfl)
    .exact mk (.A1 (fs:=[]) (by simp) (by simp) ⟨h3.1,h3.2,by omega,h4,by rw[h5];exact Dt _,by rw[h5];simp⟩) rfl
 |20,hk,_,_=>
  have hv:=c.vl hk (by decide);simp[dR]at hv;simp only;unfold MD;split
  .exact .inl rfl
  .rename_i o ho;obtain⟨h3,h4,_⟩:=ee c.hw (c.val (by omega)) ho;split
   .trivial
   .split
    .cases h4 with|dead a=>exact a|done a=>exact absurd rfl ‹_›|A1 a b d=>exact absurd rfl ‹¬_=(0:Int)›|back a b d=>exact absurd rfl ‹¬_=(0:Int)›|_=>cases h3
    .have:0<o.bZ.length:=by cases h4 with|done a=>exact Nat.one_pos|dead a=>exact absurd ‹¬_› (by dsimp only;omega)|A1 a b d=>exact absurd rfl ‹¬_=(0:Int)›|back a b d=>exact Nat.one_pos|_=>cases h3
     exact same (h4.vals _ (cG _ this))
 |21,hk,_,_=>exact Xd (zA c (.chan (by simp) (by simp)) (by simp))
 |22,hk,_,_=>
  have hv:=c.vl hk (by decide);simp[dR]at hv;simp only;unfold Ls;split
  .exact .inl rfl
  .rename_i o ho;obtain⟨h3,h4,h5,h6,h7,h8⟩:=ee c.hw (c.val (by omega)) ho;split
   .trivial
   .exact pV.set c.hw h6 h7 (.chan (by rw[jg];simp only[qC];omega) (A9 h4.vals (c.val (by omega)))) (by simp) (by rw[<-h8];omega) (s6 (bT _) (by omega) c.left um)
 |23,hk,_,_=>
  have hv:=c.vl hk (by decide);simp[dR]at hv;simp only;unfold Ll;split
  .exact .inl rfl
  .rename_i o ho;obtain⟨h3,h4,h5,h6,h7,h8⟩:=ee c.hw (c.val (by omega)) ho;have hvs:=h4.vals;have hl4:o.bZ.length<=4:=by cases h4<;>first|(cases h3;done)|assumption
   split
   .trivial
   .rename_i v l hvl;rw[hvl]at hvs hl4;exact pV.set c.hw h6 h7 (.chan (by simp only[fI]at hl4;omega) λu hu=>hvs u (gL _ hu)) (by simp) (by rw[<-h8];omega) (s6 (bT _) (by omega) c.left (hvs v eC))
 |24,hk,_,_=>
  have hv:=c.vl hk (by decide);simp[dR]at hv;have v0:=c.val (i:=0) (by omega);have hp:=nd.port hk;simp only;unfold VK;split
  .exact .inl rfl
  .split
   .exact .inr (.inr rfl)
   .rename_i h3 h4;refine⟨⟨c.hw.len,c.hw.obs,by simp only[jg,qC];omega,λo ho=>?_,c.hw.ins,c.hw.inn,c.hw.used,c.hw.Ka,c.hw.tl,c.hw.task,c.hw.all⟩,⟨[],by simp⟩,λ_=>rfl,bT _,λ_ _=>ru,s6 (bT _) (by omega) c.left um⟩;rcases eg.1 ho with ho|ho
    .exact c.hw.out o ho
    .rw[mq.1 ho];exact⟨hp.1,hp.2,v0.int (by omega)⟩
 |25,hk,_,_=>
  have hi:=c.hw.inn;have UC:=c.hw.ins;have hu:=c.hw.used;simp only;unfold inS;split
  .trivial
  .rename_i i l hl;rw[hl]at hi UC;split
   .exact .inr (.inr rfl)
   .exact ⟨⟨c.hw.len,c.hw.obs,c.hw.outs,c.hw.out,by simp only[fI]at UC;simp only;omega,λx hx=>hi x (gL _ hx),by simp only;omega,c.hw.Ka,c.hw.tl,c.hw.task,c.hw.all⟩,⟨[],by simp⟩,λ_=>rfl,bT _,λ_ _=>ru,s6 (bT _) (by omega) c.left (Wk (hi i eC))⟩
 |26,hk,_,_=>have hv:=c.vl hk (by decide);simp[dR]at hv;exact mP (op:=.waits) c (c.val (by omega))
 |27,hk,_,_=>
  have hm:=many _ hk (by decide) (by decide);simp only;unfold DM;split
  .exact .inr (.inl rfl)
  .rename_i k hk';obtain⟨h3,h4⟩:=EG hk';split
   .exact .inr (.inr rfl)
   .have hd:left.drop k=left[k]::left.drop (k+1):=Q1 h3;have gx:iF p w.bI.length ⟨5,0,[],left.drop k⟩:=by rw[hd];refine .JJ (by rw[LF];omega) (λg hg=>?_) (by simpa using h4);exact c.left g (List.mem_of_mem_drop (i:=k) (by rw[hd];exact hg))
    have JU:(g8 w ⟨5,0,[],left.drop k⟩).bI.length=w.bI.length+1:=by simp[g8]
    refine uA (λfr h=>pV.add c.hw (by omega) gx (by simp) (by rw[JU]at h;exact h)) (by omega) (λg hg=>c.left g (List.mem_of_mem_take hg)) (tY (by rw[hm];decide)) ?_;rw[JU];exact A9 (λv hv=>(c.hf.env v hv).mono (by omega)) (Ve (by omega))
 |28,hk,_,_=>exact same um
 |k+29,hk,_,h=>omega
end
end
section
abbrev TB:=Unit×Int×List ax×Int×List au×List au×Int×Int×List Int×List aC×List au×Unit
abbrev RB:=List bp×List Int×Int×List cz×List aE×List Int×List dW×List Int×Int×Unit
abbrev tb(place:Int)(fr:List ax)(node:Int)(env vals:List au)(nd:bp)(bk:List au):TB:=
 ((),place,fr,node,env,vals,nd.Op,nd.N,nd.Kids,nd.cx,bk,())
abbrev rb(p:aG)(w:ai):RB:=
 (p.aW,p.dH,p.Main,p.Cons,w.bI,w.cU,w.nw,w.CY,w.Used,())
abbrev fl(s:Int):Any:=Any.a0 ⟨s⟩
section
variable {n:Nat}{place node:Int}{fr l:List ax}{env vals bk:List au}{nd:bp}{p:aG}{w:ai}{T:TB}{v u:au}{form:Int}{o:aE}
def kM(b:Bool)(s:Int):F219 n (b,s,())=bif b then some (.ok ((),()))else some (.dm (fl s,())):=by cases b<;>rfl
theorem Pp:F48 n ()=some ((ff,()),()):=rfl
theorem TR(k:Int):F272 n (k,())=some ((gF k,()),()):=rfl
def aaW(b:Bool):F273 n (b,())=some ((iw b,()),()):=by cases b<;>rfl
def aiK(k:Int):F273 n (D.aO k 1,())=some ((iw (k==1),()),()):=aaW _
def aeJ:F112 n (v,())=some ((oW v,()),()):=by
 unfold F112 oW;by_cases h:v.Kind=4
 .simp[h,aY];rfl
 .by_cases h':v.Kind=5
  .simp[h',aY];rfl
  .simp (disch:=omega)only[aY,h,h',or_self,eO]
def aaY(l:List aE):F170 n (l,())=some ((l,()),()):=by rfl
def aaZ(l:List ax):F160 n (l,())=some ((l,()),()):=by rfl
theorem apN(s:Int):F114 n (⟨s⟩,())=some ((⟨0,0,s,az⟩,()),()):=rfl
def Xo(h1:fr.length<=1000)(h2:l.length<=1000):F171 n (tb place fr node env vals nd bk,rb p w,l,())=
  if fr.length+l.length<=40 then some (.ok ((),tb place (fr++l) node env vals nd bk,rb p w,()))else some (.dm (fl 4,tb place fr node env vals nd bk,rb p w,())):=by
 unfold F171;split
 .simp (disch:=omega)only[aY,kM,bW]
 .simp (disch:=omega)only[aY,kM,bW]
variable {R:RB}{k:Int}
def Xn(h1:T.2.2.1.length<=1000)(h2:l.length<=1000):F171 n (T,R,l,())=
  if T.2.2.1.length+l.length<=40 then some (.ok ((),((),T.2.1,T.2.2.1++l,T.2.2.2),R,()))else some (.dm (fl 4,T,R,())):=by
 unfold F171;split
 .simp (disch:=omega)only[aY,kM,bW]
 .simp (disch:=omega)only[aY,kM,bW]
theorem Ho:F271 n (tb place fr node env vals nd bk,rb p w,v,())=some ((cg.a3 ⟨⟩,()),tb place fr node env vals nd [v],rb p w,()):=rfl
def aaX{env':List au}(hk:0<=k)(hk':k<nd.Kids.length)(h1:fr.length<=1000):F174 n (tb place fr node env vals nd bk,rb p w,k,env',())=
  if fr.length+1<=40 then some (.ok ((cg.a3 ⟨⟩,()),tb place (fr++[⟨nd.Kids.getD k.toNat 0,env',[]⟩]) node env vals nd bk,rb p w,()))else some (.dm (fl 4,tb place fr node env vals nd bk,rb p w,())):=by
 unfold F174;split<;>rename_i h
 .simp (disch:=first|omega|simp only[lX];omega)only[aY,Xo,qC,h,fR]
 .simp (disch:=first|omega|simp only[lX];omega)only[aY,Xo,qC,h,eO]
def Pq{a b:List au}(h1:a.length<=1000)(h2:b.length<=1000):F277 n (a,b,())=
  if a.length+b.length<=30 then some (.ok ((a++b,()),()))else some (.dm (fl 4,())):=by
 unfold F277;split
 .simp (disch:=omega)only[aY,kM,bW]
 .simp (disch:=omega)only[aY,kM,bW]
def bu:(∀(l:List au)(k:Nat),l.getD k az=bQ l k)∧(∀(p:aG)(k:Int),p.aW.getD k.toNat aQ=nodeAt p k)∧(∀(w:ai)(k:Int),w.bI.getD k.toNat aR=eF w k):=
 ⟨λ_ _=>rfl,λ_ _=>rfl,λ_ _=>rfl⟩
def qX{α:Type}(a:α)(l:List α)(k:Int)(hk:k=((l.length+1:Nat):Int)):eo (a::l) 1 k=l:=by subst hk;simp[eo]
def gJ:Option aE->aE×Bool×Unit
 |some o=>(o,true,())
 |none=>(aR,false,())
def TP(hv:v.Kind=5->0<=v.N∧v.N<w.bI.length):F298 n (T,rb p w,v,form,())=some (gJ (iu w v form),T,rb p w,()):=by
 unfold F298 iu eF;by_cases h:v.Kind=5
 .obtain ⟨h1,h2⟩:=hv h;by_cases h':(w.bI.getD v.N.toNat aR).Form=form
  .simp (disch:=omega)only[aY,h,h',and_self,fR,gJ]
  .simp (disch:=omega)only[aY,h,h',and_false,eO,gJ]
 .simp (disch:=omega)only[aY,h,false_and,eO,gJ]
def rQ(hv:v.Kind=5->0<=v.N∧v.N<w.bI.length):F276 n (T,rb p w,v,form,())=match iu w v form with
  |some o=>some (.ok ((o,()),T,rb p w,()))
  |none=>some (.dm (fl 2,T,rb p w,())):=by
 unfold F276;rw[TP hv];cases iu w v form<;>simp only[aY,kM,gJ]
def Be:w.bI.length<=1000->F274 n (T,rb p w,o,())=
  if w.bI.length<120 then some (.ok ((wv w.bI.length,()),T,rb p (g8 w o),()))else some (.dm (fl 4,T,rb p w,())):=by
 intro h1;unfold F274 tw;split
 .simp (disch:=first|omega|simp only[lX];omega)only[aY,kM,g8,jg,qC,fH];rw[ek (by omega) (by omega)];simp[wv,cY,aB]
 .simp (disch:=omega)only[aY,kM]
def Na:F280 n (tb place fr node env vals nd bk,rb p w,v,u,())=
  some ((cg.a1 ⟨⟨place,nd.Op,if nd.Op=24 then nd.N else 0,oW u⟩⟩,()),tb place fr node env vals nd [v],rb p w,()):=by
 unfold F280 KC;rw[aeJ];by_cases h:nd.Op=24
 .simp only[aY,h,fR,tb]
 .simp (disch:=omega)only[aY,h,eO]
def RG{at_:Int}{fr:List ax}:F280 n (tb at_ fr node env vals nd bk,R,v,u,())=
  some ((cg.a1 ⟨⟨at_,nd.Op,if nd.Op=24 then nd.N else 0,oW u⟩⟩,()),tb at_ fr node env vals nd [v],R,()):=by
 unfold F280 KC;rw[aeJ];by_cases h:nd.Op=24
 .simp only[aY,h,fR,tb]
 .simp (disch:=omega)only[aY,h,eO]
def aeF(hk:0<=k)(hk':k<w.bI.length):F281 n (T,rb p w,k,o,())=some ((),T,rb p (nR w k o),()):=by unfold F281;simp(disch:=omega)only[aY,aaY,nR]
def TQ(hl:2<=vals.length):F278 n (tb place fr node env vals nd bk,rb p w,())=
  if(bQ vals 0).Kind=1∧(bQ vals 1).Kind=1 then some (.ok (((bQ vals 0).N,(bQ vals 1).N,()),tb place fr node env vals nd bk,rb p w,()))else some (.dm (fl 2,tb place fr node env vals nd bk,rb p w,())):=by
 unfold F278 Qe bQ;have z0:ah 0=0:=rfl;have z1:ah 1=1:=rfl;by_cases h:(vals.getD 0 az).Kind=1
 .by_cases h':(vals.getD 1 az).Kind=1
  .simp (disch:=omega)only[aY,z0,z1,h,h',and_self,fR,kM]
  .simp (disch:=omega)only[aY,z0,z1,h,h',and_false,eO,kM]
 .simp (disch:=omega)only[aY,z0,z1,h,false_and,eO,kM]
def Fk(hf:u.Kind=4->0<=u.N∧u.N<p.dH.length)(ho:u.Kind=5->0<=u.N∧u.N<w.bI.length)
  (hn:∀o,iu w u 2=some o->0<=o.N∧o.N<p.aW.length∧0<(nodeAt p o.N).Kids.length∧o.bZ.length<=1000) :
  F275 n (T,rb p w,u,v,())=match jh p w u v with
   |none=>some (.ok ((aX,false,()),T,rb p w,()))
   |some b=>if b.Env.length<=30 then some (.ok ((b,true,()),T,rb p w,()))else some (.dm (fl 4,T,rb p w,())):=by
 unfold F275 jh;by_cases h:u.Kind=4
 .obtain ⟨h1,h2⟩:=hf h;simp(disch:=omega)only[aY,h,fR,qC,Nat.reduceLeDiff]
 .simp (disch:=omega)only[aY,h,eO];rw[TP ho];cases hc:iu w u 2 with
  |none=>simp only[aY,gJ]
  |some o=>
   obtain⟨h1,h2,h3,h4⟩:=hn o hc;unfold nodeAt at h3 ⊢;simp(disch:=omega)only[aY,gJ];rw[Pq (by omega) (by simp)];by_cases h5:o.bZ.length+1<=30
   .simp only[jg,qC,h5,fR,aY]
   .simp only[jg,qC,h5,eO,aY]
end
end
section
def aeD:Option aS->cg
 |none=>cg.a3 ⟨⟩
 |some e=>cg.a1 ⟨e⟩
abbrev Out:=Rx ((cg×Unit)×TB×RB×Unit) (Any×TB×RB×Unit)
def Kq(p:aG)(w:ai)(r:qU)(y:Out):Prop:=match r with
 | .fail s=>∃T w1,y=.dm (fl s,T,rb p w1,())
 | .waits=>∃T,y=.ok ((cg.a0 ⟨⟩,()),T,rb p w,())
 | .go w' fr bk e=>∃pl node env vals nd,y=.ok ((aeD e,()),tb pl fr node env vals nd bk,rb p w',())
def gl(p:aG)(w:ai)(r:qU)(f:Nat->Option Out):Prop:=∃y,Ev f y∧Kq p w r y
def gl.of_eq{p:aG}{w:ai}{r:qU}{f:Nat->Option Out}{y:Out}(h:∀n,f n=some y)(hy:Kq p w r y):gl p w r f:=⟨y,Ev.of_eq h,hy⟩
section
variable {p:aG}{w:ai}{left:List ax}{f:ax}{at_:Int}
abbrev yR(at_:Int)(left:List ax)(p:aG)(f:ax):TB:=tb at_ left f.Node f.Env f.bZ (nodeAt p f.Node) []
variable {pl node:Int}{env vals:List au}{nd:bp}{F:Nat->Option Out}
def Dj{k:Nat->Option ((cg×Unit)×TB×RB×Unit)}{v:au}
  (h:∀n,k n=some ((cg.a3 ⟨⟩,()),tb pl left node env vals nd [v],rb p w,())):gl p w (fU w left v) (λn=>ak (k n) λg=>some (Rx.ok g)):=
 .of_eq (y:=.ok ((cg.a3 ⟨⟩,()),tb pl left node env vals nd [v],rb p w,())) (λn=>by rw[h n];rfl) ⟨_,_,_,_,_,rfl⟩
def adm(c:Cx p w left f)(hop:(nodeAt p f.Node).Op=1∨(nodeAt p f.Node).Op=2∨(nodeAt p f.Node).Op=3) :
  gl p w (jc p w at_ left f) (λn=>ak (F221 n (yR at_ left p f,rb p w,())) λg=>some (Rx.ok g)):=by
 unfold jc F221 KE;rcases hop with h|h|h
 .simp only[h,Int.reduceToNat];exact Dj λn=>by simp only[aY,bu,TR,Ho,h];rfl
 .simp only[h,Int.reduceToNat];exact Dj λn=>by simp(disch:=omega)only[aY,bu,aaW,Ho,h];rfl
 .simp only[h,Int.reduceToNat];exact Dj λn=>by simp(disch:=omega)only[aY,bu,Pp,Ho,h];rfl
def alF(c:Cx p w left f)(h:(nodeAt p f.Node).Op=4):gl p w (jc p w at_ left f) (λn=>F222 n (yR at_ left p f,rb p w,())):=by
 have hn:=c.nd.name h;have hl:=c.hp.fl;unfold jc F222;simp only[h,Int.reduceToNat];by_cases h1:(nodeAt p f.Node).N<0
 .rw[bL h1];exact .of_eq (λn=>by simp(disch:=omega)only[aY,bu,Ho,ek]<;>rfl) ⟨_,_,_,_,_,rfl⟩
 .rw[bw h1];by_cases h2:(f.Env.length:Int)<=(nodeAt p f.Node).N
  .rw[bL h2];exact .of_eq (λn=>by simp(disch:=omega)only[aY,bu,kM]<;>rfl) ⟨_,_,rfl⟩
  .rw[bw h2];exact .of_eq (λn=>by simp(disch:=omega)only[aY,bu,kM,Ho]<;>rfl) ⟨_,_,_,_,_,rfl⟩
def V0{o:aE}{bk:List au}(hw:lf p w)
  (h:∀n,F n=ak (F274 n (tb pl left node env vals nd bk,rb p w,o,())) λc=>Rx.el c (λd=>ak (F271 n (d.2.1,d.2.2.1,d.1)) λe=>some (Rx.ok e)) λd=>some (Rx.dm d)) :
  gl p w (oX w left o) F:=by
 have:=hw.len;unfold oX;by_cases h1:120<=w.bI.length
 .rw[bL h1];exact .of_eq (λn=>by rw[h,Be (by omega),bw (by omega)];rfl) ⟨_,_,rfl⟩
 .rw[bw h1];exact .of_eq (λn=>by rw[h,Be (by omega),bL (by omega)];simp only[aY,bu,Ho]<;>rfl) ⟨_,_,_,_,_,rfl⟩
def alE(c:Cx p w left f)(h:(nodeAt p f.Node).Op=5):gl p w (jc p w at_ left f) (λn=>F223 n (yR at_ left p f,rb p w,())):=by unfold jc;simp only[h,Int.reduceToNat];exact V0 c.hw λn=>rfl
def aly(c:Cx p w left f)(h:(nodeAt p f.Node).Op=14):gl p w (jc p w at_ left f) (λn=>F230 n (yR at_ left p f,rb p w,())):=by unfold jc;simp only[h,Int.reduceToNat];exact V0 c.hw λn=>rfl
def Oz{k:Int}{env':List au}(pl node:Int)(env vals:List au){w':ai}(h1:left.length<=1000)(h2:env'.length<=30)(hk:0<=k)(hk':k<nd.Kids.length)
  (h:∀n,F n=ak (F174 n (tb pl left node env vals nd [],rb p w',k,env',())) λe=>Rx.el e (λg=>some (Rx.ok g)) λg=>some (Rx.dm g)) :
  gl p w (kS w' left (nd.Kids.getD k.toNat 0) env') F:=by
 unfold kS;by_cases h3:40<=left.length
 .rw[bL (.inl h3)];exact .of_eq (λn=>by rw[h,aaX hk hk' h1,bw (by omega)];rfl) ⟨_,_,rfl⟩
 .rw[bw (by omega)];exact .of_eq (λn=>by rw[h,aaX hk hk' h1,bL (by omega)];rfl) ⟨_,_,_,_,_,rfl⟩
def alC(c:Cx p w left f)(h:(nodeAt p f.Node).Op=7):gl p w (jc p w at_ left f) (λn=>F225 n (yR at_ left p f,rb p w,())):=by
 have hk:=c.nd.many (by omega) (by omega);have hv:=c.vl h (by decide);have he:=c.hf.el;have yT:=c.ll;rw[h]at hk;simp[rJ]at hk;simp[dR]at hv;unfold jc F225;simp only[h,Int.reduceToNat];by_cases h1:f.Env.length+1<=30
 .refine Oz (k:=1) at_ f.Node f.Env f.bZ (by omega) (by simp;omega) (by omega) (by omega) λn=>?_;simp(disch:=first|omega|simp only[lX];omega)only[aY,bu,Pq,h1,fR]<;>rfl
 .unfold kS;rw[bL (by simp;omega)];exact .of_eq (λn=>by simp(disch:=first|omega|simp only[lX];omega)only[aY,bu,Pq,h1,eO]<;>rfl) ⟨_,_,rfl⟩
def alB(c:Cx p w left f)(h:(nodeAt p f.Node).Op=8):gl p w (jc p w at_ left f) (λn=>F226 n (yR at_ left p f,rb p w,())):=by
 have hk:=c.nd.many (by omega) (by omega);have hv:=c.vl h (by decide);have he:=c.hf.el;have yT:=c.ll;rw[h]at hk;simp[rJ]at hk;simp[dR]at hv;have v0:=c.val (i:=0) (by omega);unfold jc F226;simp only[h,Int.reduceToNat];by_cases h1:(bQ f.bZ 0).Kind=2
 .rw[bw (by omega)];have hb:=v0.US h1;refine Oz (k:=2-(bQ f.bZ 0).N) at_ f.Node f.Env f.bZ (by omega) he (by omega) (by omega) λn=>?_;simp(disch:=omega)only[aY,bu,kM,ek]<;>rfl
 .rw[bL h1];exact .of_eq (λn=>by simp(disch:=omega)only[aY,bu,kM]<;>rfl) ⟨_,_,rfl⟩
def alD(c:Cx p w left f)(h:(nodeAt p f.Node).Op=6):gl p w (jc p w at_ left f) (λn=>F224 n (yR at_ left p f,rb p w,())):=by
 have hv:=c.vl h (by decide);simp[dR]at hv;have yT:=c.ll;have v0:=c.val (i:=0) (by omega);have hn:∀o,iu w (bQ f.bZ 0) 2=some o->0<=o.N∧o.N<p.aW.length∧0<(nodeAt p o.N).Kids.length∧o.bZ.length<=1000:=by
  intro o ho;obtain⟨h1,h2,_⟩:=ee c.hw v0 ho;cases h2 with
  |func a b d e g=>
   refine⟨a,b,?_,by simp only;omega⟩;have:=(c.hp.nd a b).many (by omega) (by omega);rw[this,d]
   decide
  |_=>cases h1
 unfold jc F224 FT;simp only[h,Int.reduceToNat];cases hk:iu w (bQ f.bZ 0) 5 with
 |some o=>
  dsimp only;obtain⟨h1,h2,h3,h4,h5,h6⟩:=ee c.hw v0 hk;have hb:jh p w (bQ f.bZ 0) (bQ f.bZ 1)=none:=by unfold jh iu;rw[bw (by omega),<-h6,bw (by omega)]
  have hfl:o.Frames.length<=40:=by cases h2<;>first|(simp;done)|(simp only[fI,jg,AG];omega)
  by_cases h7:40<left.length+o.Frames.length
  .rw[bL h7];exact .of_eq (λn=>by simp(disch:=omega)only[aY,bu,Fk (v0.code) (v0.ref) hn,hb,rQ (v0.ref),hk,Xo,bw (zk.2 h7)]<;>rfl) ⟨_,_,rfl⟩
  .rw[bw h7];exact .of_eq (λn=>by simp(disch:=omega)only[aY,bu,Fk (v0.code) (v0.ref) hn,hb,rQ (v0.ref),hk,Xo,bL (BW.1 h7),Ho]<;>rfl) ⟨_,_,_,_,_,rfl⟩
 |none=>
  cases hb:jh p w (bQ f.bZ 0) (bQ f.bZ 1)with
  |none=>dsimp only;exact .of_eq (λn=>by simp(disch:=omega)only[aY,bu,Fk (v0.code) (v0.ref) hn,hb,rQ (v0.ref),hk]<;>rfl) ⟨_,_,rfl⟩
  |some b=>
   dsimp only;by_cases h8:b.Env.length<=30
   .unfold kS;by_cases h9:40<=left.length
    .omega
    .rw[bw (by omega)];have hbv:b.bZ=[]:=by
      unfold jh at hb;split at hb
      .cases hb;rfl
      .split at hb<;>cases hb;rfl
     obtain⟨bn,be,bv⟩:=b;subst hbv;exact .of_eq (λn=>by simp(disch:=first|omega|simp only[lX];omega)only[aY,bu,Fk (v0.code) (v0.ref) hn,hb,bL h8,Xo,bL (show left.length+1<=40 by omega)]<;>rfl) ⟨_,_,_,_,_,rfl⟩
   .unfold kS;rw[bL (by omega)];exact .of_eq (λn=>by simp(disch:=omega)only[aY,bu,Fk (v0.code) (v0.ref) hn,hb,bw h8]<;>rfl) ⟨_,_,rfl⟩
def alA(c:Cx p w left f)(h:(nodeAt p f.Node).Op=12):gl p w (jc p w at_ left f) (λn=>F228 n (yR at_ left p f,rb p w,())):=by
 have hv:=c.vl h (by decide);simp[dR]at hv;unfold jc F228 yw;simp only[h,Int.reduceToNat,Int.reduceEq,eO,fR];by_cases h1:(bQ f.bZ 0).Kind=1∧(bQ f.bZ 1).Kind=1
 .rw[bw (by omega)];exact .of_eq (λn=>by simp(disch:=omega)only[aY,bu,TQ,bL h1,aaW,Ho]<;>rfl) ⟨_,_,_,_,_,rfl⟩
 .rw[bL (by omega)];exact .of_eq (λn=>by simp(disch:=omega)only[aY,bu,TQ,bw h1]<;>rfl) ⟨_,_,rfl⟩
theorem bG{X R B P α:Type}(x:X)(e:X->Option α)(f:Nat->X->Option α)(g:B->R->Option α)(h:B->P->Option α):LO.jn (.next x) e f g h=e x:=rfl
theorem adC{X R B P α:Type}(b:B)(q:P)(e:X->Option α)(f:Nat->X->Option α)(g:B->R->Option α)(h:B->P->Option α):LO.jn (.dm b q) e f g h=h b q:=rfl
def e69{n:Nat}(a:Int):F69 n (a,(-1000000000),1000000000,())=some ((hJ a,()),()):=by unfold F69 hJ;by_cases h1:-1000000000<=a<;>by_cases h2:a<=1000000000<;>simp[aj,D.eu,h1,h2]
def agJ{a b:Int}(h1:hJ a=true)(h2:hJ b=true):-1000000000000000000<=a*b∧a*b<=1000000000000000000:=by
 simp only[hJ,eE,qA]at h1 h2;have h3:(a*b).natAbs<=1000000000*1000000000:=by rw[Int.natAbs_mul];exact LR (by omega) (by omega)
 omega
def adl(c:Cx p w left f)(hop:(nodeAt p f.Node).Op=9∨(nodeAt p f.Node).Op=10∨(nodeAt p f.Node).Op=11):gl p w (jc p w at_ left f) (λn=>ak (F227 n (yR at_ left p f,rb p w,())) λg=>Rx.el g (λh=>some (Rx.ok h)) λh=>some (Rx.dm h)):=by
 have hv:f.bZ.length=2:=by rcases hop with h|h|h<;>exact c.vl h (by decide)
 have v0:=c.val (i:=0) (by omega);have v1:=c.val (i:=1) (by omega);unfold jc F227 yw;by_cases h1:(bQ f.bZ 0).Kind=1∧(bQ f.bZ 1).Kind=1
 .have i0:=v0.int h1.1;have i1:=v1.int h1.2;have hm:=agJ i0 i1;simp only[hJ,eE,qA]at i0 i1;have fin:∀k,∀F:Nat->Option Out,(∀n,F n=bif hJ k then some (.ok ((cg.a3 ⟨⟩,()),tb at_ left f.Node f.Env f.bZ (nodeAt p f.Node) [gF k],rb p w,()))else some (.dm (fl 4,yR at_ left p f,rb p w,())))->
    gl p w (if hJ k=true then fU w left (gF k)else .fail 4) F:=by
   intro k F hF;cases hk:hJ k with|true=>rw[bL rfl];exact .of_eq (λn=>by rw[hF,hk];rfl) ⟨_,_,_,_,_,rfl⟩|false=>rw[bw (by decide)];exact .of_eq (λn=>by rw[hF,hk];rfl) ⟨_,_,rfl⟩
  rcases hop with h|h|h
  .simp only[h,Int.reduceToNat,Int.reduceEq,eO,fR];rw[bw (by omega)];refine fin _ _ λn=>?_;simp(disch:=omega)only[aY,bu,TQ,bL h1,h,bG,bW,e69,kM];cases hJ ((bQ f.bZ 0).N+(bQ f.bZ 1).N)<;>simp only[aY,TR,gF,h,tb,yR]<;>rfl
  .simp only[h,Int.reduceToNat,Int.reduceEq,eO,fR];rw[bw (by omega)];refine fin _ _ λn=>?_;simp(disch:=omega)only[aY,bu,TQ,bL h1,h,bG,ek,e69,kM];cases hJ ((bQ f.bZ 0).N-(bQ f.bZ 1).N)<;>simp only[aY,TR,gF,h,tb,yR]<;>rfl
  .simp only[h,Int.reduceToNat,Int.reduceEq,eO,fR];rw[bw (by omega)];refine fin _ _ λn=>?_;simp(disch:=omega)only[aY,bu,TQ,bL h1,h,bG,VT,e69,kM];cases hJ ((bQ f.bZ 0).N*(bQ f.bZ 1).N)<;>simp only[aY,TR,gF,h,tb,yR]<;>rfl
 .rcases hop with h|h|h;all_goals
   simp only[h,Int.reduceToNat,Int.reduceEq,eO,fR];rw[bL (by omega)];exact .of_eq (λn=>by simp(disch:=omega)only[aY,bu,TQ,bw h1]<;>rfl) ⟨_,_,rfl⟩
def Kl(x:Bool):D.ey true x=x:=by cases x<;>rfl
def Bp(x:Bool):D.ey x true=x:=by cases x<;>rfl
def alz(c:Cx p w left f)(h:(nodeAt p f.Node).Op=13):gl p w (jc p w at_ left f) (λn=>F229 n (yR at_ left p f,rb p w,())):=by
 have hv:=c.vl h (by decide);simp[dR]at hv;unfold jc F229 Qg Qh yw;simp only[h,Int.reduceToNat,Int.reduceEq,eO,fR];by_cases h1:(bQ f.bZ 0).Kind=(bQ f.bZ 1).Kind
 .by_cases h2:(bQ f.bZ 0).Kind<=3
  .rw[bw (by omega)];rw[show wu (bQ f.bZ 0) (bQ f.bZ 1)=D.aO (bQ f.bZ 0).N (bQ f.bZ 1).N by simp only[wu,h1,beq_self_eq_true,iL];rfl];exact .of_eq (λn=>by simp(disch:=omega)only[aY,bu,Kl,Bp,kM,aaW,Ho]<;>rfl) ⟨_,_,_,_,_,rfl⟩
  .rw[bL (by omega)];exact .of_eq (λn=>by simp(disch:=omega)only[aY,bu,kM]<;>rfl) ⟨_,_,rfl⟩
 .rw[bL (by omega)];exact .of_eq (λn=>by simp(disch:=omega)only[aY,bu,kM]<;>rfl) ⟨_,_,rfl⟩
def alh(c:Cx p w left f)(h:(nodeAt p f.Node).Op=26):gl p w (jc p w at_ left f) (λn=>ak (F242 n (yR at_ left p f,rb p w,())) λg=>some (Rx.ok g)):=by have hv:=c.vl h (by decide);simp[dR]at hv;unfold jc F242;simp only[h,Int.reduceToNat];exact Dj λn=>by simp(disch:=omega)only[aY,bu,Ho]<;>rfl
def alf(c:Cx p w left f)(h:(nodeAt p f.Node).Op=28):gl p w (jc p w at_ left f) (λn=>ak (F244 n (yR at_ left p f,rb p w,())) λg=>some (Rx.ok g)):=by unfold jc F244;simp only[h,Int.reduceToNat];exact .of_eq (λn=>by simp only[aY,bu,Pp,Na,h,Int.reduceEq,eO]<;>rfl) ⟨_,_,_,_,_,rfl⟩
end
end
section
section
variable {p:aG}{w:ai}{left:List ax}{f:ax}{at_:Int}
def alw(c:Cx p w left f)(h:(nodeAt p f.Node).Op=16):gl p w (jc p w at_ left f) (λn=>F232 n (yR at_ left p f,rb p w,())):=by
 have hv:=c.vl h (by decide);simp[dR]at hv;have hl:=c.hw.len;unfold jc F232 oX;simp only[h,Int.reduceToNat];by_cases h1:120<=w.bI.length
 .rw[bL h1];exact .of_eq (λn=>by simp(disch:=omega)only[aY,bu,Be,bw (BW.2 h1)]<;>rfl) ⟨_,_,rfl⟩
 .rw[bw h1];exact .of_eq (λn=>by simp(disch:=omega)only[aY,bu,Be,bL (zk.1 h1),Na,h,Int.reduceEq,eO]<;>rfl) ⟨_,_,_,_,_,rfl⟩
def aln(c:Cx p w left f)(h:(nodeAt p f.Node).Op=21):gl p w (jc p w at_ left f) (λn=>F237 n (yR at_ left p f,rb p w,())):=by
 have hl:=c.hw.len;unfold jc F237 oX;simp only[h,Int.reduceToNat];by_cases h1:120<=w.bI.length
 .rw[bL h1];exact .of_eq (λn=>by simp(disch:=omega)only[aY,bu,Be,bw (BW.2 h1)]<;>rfl) ⟨_,_,rfl⟩
 .rw[bw h1];exact .of_eq (λn=>by simp(disch:=omega)only[aY,bu,Be,bL (zk.1 h1),Pp,Na,h,Int.reduceEq,eO]<;>rfl) ⟨_,_,_,_,_,rfl⟩
def alv(c:Cx p w left f)(h:(nodeAt p f.Node).Op=17):gl p w (jc p w at_ left f) (λn=>F233 n (yR at_ left p f,rb p w,())):=by
 have hv:=c.vl h (by decide);simp[dR]at hv;have v0:=c.val (i:=0) (by omega);unfold jc F233 W8;simp only[h,Int.reduceToNat];cases ho:iu w (bQ f.bZ 0) 3 with
 |none=>exact .of_eq (λn=>by simp(disch:=omega)only[aY,bu,rQ v0.ref,ho]<;>rfl) ⟨_,_,rfl⟩
 |some o=>
  obtain⟨h1,h2,h3,h4,h5,h6⟩:=ee c.hw v0 ho;have hl:0<o.bZ.length:=by cases h2<;>first|(cases h1;done)|simp
  exact .of_eq (λn=>by simp(disch:=omega)only[aY,bu,rQ v0.ref,ho,Na,h,Int.reduceEq,eO]<;>rfl) ⟨_,_,_,_,_,rfl⟩
def alu(c:Cx p w left f)(h:(nodeAt p f.Node).Op=18):gl p w (jc p w at_ left f) (λn=>F234 n (yR at_ left p f,rb p w,())):=by have hv:=c.vl h (by decide);simp[dR]at hv;have v0:=c.val (i:=0) (by omega);unfold jc F234 ij;simp only[h,Int.reduceToNat];cases ho:iu w (bQ f.bZ 0) 3 with|none=>exact .of_eq (λn=>by simp(disch:=omega)only[aY,bu,rQ v0.ref,ho]<;>rfl) ⟨_,_,rfl⟩|some o=>obtain⟨h1,h2,h3,h4,h5,h6⟩:=ee c.hw v0 ho;exact .of_eq (λn=>by simp(disch:=omega)only[aY,bu,rQ v0.ref,ho,aeF,Pp,Na,h,Int.reduceEq,eO]<;>rfl) ⟨_,_,_,_,_,rfl⟩
def alm(c:Cx p w left f)(h:(nodeAt p f.Node).Op=22):gl p w (jc p w at_ left f) (λn=>F238 n (yR at_ left p f,rb p w,())):=by
 have hv:=c.vl h (by decide);simp[dR]at hv;have v0:=c.val (i:=0) (by omega);unfold jc F238 Ls;simp only[h,Int.reduceToNat];cases ho:iu w (bQ f.bZ 0) 4 with
 |none=>exact .of_eq (λn=>by simp(disch:=omega)only[aY,bu,rQ v0.ref,ho]<;>rfl) ⟨_,_,rfl⟩
 |some o=>
  obtain⟨h1,h2,h3,h4,h5,h6⟩:=ee c.hw v0 ho;cases h2 with
  |chan a b=>
   rename_i vs;clear h6;by_cases h7:4<=vs.length
   .dsimp only;rw[bL h7];exact .of_eq (λn=>by simp(disch:=omega)only[aY,bu,rQ v0.ref,ho]<;>rfl) ⟨_,rfl⟩
   .dsimp only;rw[bw h7];exact .of_eq (λn=>by simp(disch:=first|omega|simp only[lX];omega)only[aY,bu,rQ v0.ref,ho,aeF,Pp,Na,h,Int.reduceEq,eO]<;>rfl) ⟨_,_,_,_,_,rfl⟩
  |_=>cases h1
def alk(c:Cx p w left f)(h:(nodeAt p f.Node).Op=23):gl p w (jc p w at_ left f) (λn=>F239 n (yR at_ left p f,rb p w,())):=by
 have hv:=c.vl h (by decide);simp[dR]at hv;have v0:=c.val (i:=0) (by omega);unfold jc F239 Ll;simp only[h,Int.reduceToNat];cases ho:iu w (bQ f.bZ 0) 4 with
 |none=>exact .of_eq (λn=>by simp(disch:=omega)only[aY,bu,rQ v0.ref,ho]<;>rfl) ⟨_,_,rfl⟩
 |some o=>
  obtain⟨h1,h2,h3,h4,h5,h6⟩:=ee c.hw v0 ho;cases h2 with
  |chan a b=>
   rename_i vs;clear h6;cases vs with|nil=>exact .of_eq (λn=>by simp(disch:=omega)only[aY,bu,rQ v0.ref,ho]<;>rfl) ⟨_,rfl⟩|cons v vs=>exact .of_eq (λn=>by simp(disch:=first|omega|simp only[lX];omega)only[aY,bu,rQ v0.ref,ho,qX,aeF,Pp,Na,h,Int.reduceEq,eO]<;>rfl) ⟨_,_,_,_,_,rfl⟩
  |_=>cases h1
def alp(c:Cx p w left f)(h:(nodeAt p f.Node).Op=20):gl p w (jc p w at_ left f) (λn=>F236 n (yR at_ left p f,rb p w,())):=by
 have hv:=c.vl h (by decide);simp[dR]at hv;have v0:=c.val (i:=0) (by omega);unfold jc F236 MD;simp only[h,Int.reduceToNat];cases ho:iu w (bQ f.bZ 0) 6 with
 |none=>exact .of_eq (λn=>by simp(disch:=omega)only[aY,bu,rQ v0.ref,ho]<;>rfl) ⟨_,_,rfl⟩
 |some o=>
  obtain⟨h1,h2,h3,h4,h5,h6⟩:=ee c.hw v0 ho;dsimp only;by_cases h7:o.N=0
  .rw[bL h7];exact .of_eq (λn=>by simp(disch:=omega)only[aY,bu,rQ v0.ref,ho]<;>rfl) ⟨_,rfl⟩
  .rw[bw h7];by_cases h8:o.N=1
   .have hl:0<o.bZ.length:=by cases h2<;>first|(cases h1;done)|exact Nat.one_pos|exact absurd rfl h7|(dsimp only at h8;omega)
    rw[bw (by omega)];exact .of_eq (λn=>by simp(disch:=omega)only[aY,bu,rQ v0.ref,ho,Na,h,Int.reduceEq,eO]<;>rfl) ⟨_,_,_,_,_,rfl⟩
   .rw[bL (by omega)];exact .of_eq (λn=>by simp(disch:=omega)only[aY,bu,rQ v0.ref,ho]<;>rfl) ⟨_,_,rfl⟩
def alj(c:Cx p w left f)(h:(nodeAt p f.Node).Op=24):gl p w (jc p w at_ left f) (λn=>F240 n (yR at_ left p f,rb p w,())):=by
 have hv:=c.vl h (by decide);simp[dR]at hv;have hl:=c.hw.outs;unfold jc F240 Gi vH VK;simp only[h,Int.reduceToNat];by_cases h1:(bQ f.bZ 0).Kind=1
 .rw[bw (by omega)];by_cases h2:100<=w.nw.length
  .rw[bL h2];exact .of_eq (λn=>by simp(disch:=omega)only[aY,bu,kM]<;>rfl) ⟨_,_,rfl⟩
  .rw[bw h2];exact .of_eq (λn=>by simp(disch:=first|omega|simp only[lX];omega)only[aY,bu,kM,Pp,RG (at_:=at_),h,fR]<;>rfl) ⟨_,_,_,_,_,rfl⟩
 .rw[bL h1];exact .of_eq (λn=>by simp(disch:=omega)only[aY,bu,kM]<;>rfl) ⟨_,_,rfl⟩
def ali(c:Cx p w left f)(h:(nodeAt p f.Node).Op=25):gl p w (jc p w at_ left f) (λn=>F241 n (yR at_ left p f,rb p w,())):=by
 have hu:=c.hw.used;have hl:=c.hw.ins;unfold jc F241 Gg inS;simp only[h,Int.reduceToNat];cases hi:w.CY with
 |nil=>exact .of_eq (λn=>by simp(disch:=omega)only[aY,bu,hi]<;>rfl) ⟨_,rfl⟩
 |cons i l=>
  dsimp only;by_cases h2:1000000000<=w.Used
  .rw[bL h2];exact .of_eq (λn=>by simp(disch:=omega)only[aY,bu,hi,kM]<;>rfl) ⟨_,_,rfl⟩
  .rw[bw h2];rw[hi]at hl;simp only[fI]at hl;exact .of_eq (λn=>by simp(disch:=first|omega|simp only[lX];omega)only[aY,bu,hi,kM,qX,TR,bW,RG (at_:=at_),h,Int.reduceEq,eO]<;>rfl) ⟨_,_,_,_,_,rfl⟩
end
end
section
section
variable {p:aG}{w:ai}{left:List ax}{f:ax}{at_:Int}
def Pc(hp:yV p)(hw:lf p w){v:au}(hv:cO p w.bI.length v):∀o,iu w v 2=some o->0<=o.N∧o.N<p.aW.length∧0<(nodeAt p o.N).Kids.length∧o.bZ.length<=1000:=by
 intro o ho;obtain⟨h1,h2,_⟩:=ee hw hv ho;cases h2 with
 |func a b d e g=>
  refine⟨a,b,?_,by simp only;omega⟩;have:=(hp.nd a b).many (by omega) (by omega);rw[this,d]
  decide
 |_=>cases h1
def alq(c:Cx p w left f)(h:(nodeAt p f.Node).Op=19):gl p w (jc p w at_ left f) (λn=>F235 n (yR at_ left p f,rb p w,())):=by
 have hv:=c.vl h (by decide);simp[dR]at hv;have v0:=c.val (i:=0) (by omega);have hn:=Pc c.hp c.hw v0;have hl:=c.hw.len;have ht:=c.hw.tl;unfold jc F235 yH DJ;simp only[h,Int.reduceToNat];cases hk:iu w (bQ f.bZ 0) 5 with
 |some o=>
  dsimp only;obtain⟨h1,h2,h3,h4,h5,h6⟩:=ee c.hw v0 hk;have hb:jh p w (bQ f.bZ 0) ff=none:=by unfold jh iu;rw[bw (by omega),<-h6,bw (by omega)]
  by_cases h7:120<=w.bI.length
  .rw[bL h7];exact .of_eq (λn=>by simp(disch:=omega)only[aY,bu,Pp,Fk v0.code v0.ref hn,hb,rQ v0.ref,hk,bG,Be,bw (BW.2 h7)]<;>rfl) ⟨_,_,rfl⟩
  .rw[bw h7];exact .of_eq (λn=>by simp(disch:=first|omega|simp only[lX];omega)only[aY,bu,Pp,Fk v0.code v0.ref hn,hb,rQ v0.ref,hk,bG,Be,bL (zk.1 h7),wv,g8,RG (at_:=at_),h,Int.reduceEq,eO]<;>rfl) ⟨_,_,_,_,_,rfl⟩
 |none=>
  dsimp only;cases hb:jh p w (bQ f.bZ 0) ff with
  |none=>exact .of_eq (λn=>by simp(disch:=omega)only[aY,bu,Pp,Fk v0.code v0.ref hn,hb,rQ v0.ref,hk,adC]<;>rfl) ⟨_,_,rfl⟩
  |some b=>
   dsimp only;by_cases h8:b.Env.length<=30
   .rw[bw (by omega)];by_cases h7:120<=w.bI.length
    .rw[bL h7];exact .of_eq (λn=>by simp(disch:=omega)only[aY,bu,Pp,Fk v0.code v0.ref hn,hb,bL h8,bG,Be,bw (BW.2 h7)]<;>rfl) ⟨_,_,rfl⟩
    .rw[bw h7];exact .of_eq (λn=>by simp(disch:=first|omega|simp only[lX];omega)only[aY,bu,Pp,Fk v0.code v0.ref hn,hb,bL h8,bG,Be,bL (zk.1 h7),wv,g8,RG (at_:=at_),h,Int.reduceEq,eO]<;>rfl) ⟨_,_,_,_,_,rfl⟩
   .rw[bL (by omega)];exact .of_eq (λn=>by simp(disch:=omega)only[aY,bu,Pp,Fk v0.code v0.ref hn,hb,bw h8]<;>rfl) ⟨_,_,rfl⟩
def sI{α:Type}{q:α->Bool}:∀{l:List α},(∀j(h:j<l.length),q l[j]=false)->hY q l=none
 |[],_=>rfl
 |a::l,h=>by unfold hY;rw[sI λj hj=>h (j+1) (by simpa using hj)];simp only;have:=h 0 (by simp);simp only[Vw]at this;rw[this];rfl
def zE{α:Type}{q:α->Bool}:∀{l:List α}{m:Nat}(hm:m<l.length),q l[m]=true->(∀j(h:j<l.length),m<j->q l[j]=false)->hY q l=some m
 |a::l,0,_,h1,h=>by unfold hY;rw[sI λj hj=>h (j+1) (by simpa using hj) (by omega)];simp only[Vw]at h1;simp only[h1];rfl
 |a::l,m+1,hm,h1,h=>by unfold hY;rw[zE (l:=l) (m:=m) (by simpa using hm) (by simpa using h1) λj hj hmj=>h (j+1) (by simpa using hj) (by omega)]
def xX{α:Type}{q:α->Bool}:∀{l:List α}{k:Nat},hY q l=some k->k<l.length
 |a::l,k,h=>by unfold hY at h;cases hc:hY q l with|some j=>rw[hc]at h;have:=xX hc;simp only[bf]at h;simp only[fI];omega|none=>rw[hc]at h;simp only at h;cases hq:q a<;>rw[hq]at h<;>simp at h;simp only[fI];omega
def xI(hf:∀g∈left,0<=g.Node∧g.Node<p.aW.length)(hl:left.length<40){R B P:Type}{F:Nat->Int×Unit->Option (LO (Int×Unit) R B P)}
  (hF:∀n c,F n c=aj (D.eu 0 c.1) (aB (av c.1 left) (aB (av (aN left (ah c.1) aX).Node p.aW) (aj (D.aM (D.aO (aN p.aW (ah (aN left (ah c.1) aX).Node) aQ).Op 26)) (some (.next (D.dN .i64 c.1 1,()))) (some (.out 0 c))))) (some (.out 0 c))) :
  ∀m:Nat,m<=left.length->(∀j(h:j<left.length),m<=j->(nodeAt p left[j].Node).Op≠26)->
  fE F ((m:Int)-1,()) (.out 0 (match hY (λf:ax=>(nodeAt p f.Node).Op==26) left with|some k=>(k:Int)|none=>-1,()))
 |0,_,h=>by rw[sI λj hj=>by simpa using h j hj (wZ _)];exact .out (Ev.of_eq λn=>by rw[hF];simp(disch:=omega)only[aY];rfl)
 |m+1,hm,h=>by
  have hg:=hf left[m] (GK _);have e:left.getD m aX=left[m]:=by rw[pQ,gm (by omega)];rfl
  have e':(((m+1:Nat):Int)-1).toNat=m:=by omega
  by_cases hq:(nodeAt p left[m].Node).Op=26
  .rw[zE (m:=m) (by omega) (by simpa using hq) λj hj hmj=>by simpa using h j hj hmj];refine .out (Ev.of_eq λn=>?_);rw[hF];simp(disch:=omega)only[aY,bu,e',e,hq];simp
  .refine .next (y:=((m:Int)-1,())) (Ev.of_eq λn=>?_) (xI hf hl hF m (by omega) λj hj hmj=>?_)
   .rw[hF];simp(disch:=omega)only[aY,bu,e',e,hq,ek];simp
   .by_cases WJ:j=m
    .subst WJ;exact hq
    .exact h j hj (by omega)
def alg(c:Cx p w left f)(h:(nodeAt p f.Node).Op=27):gl p w (jc p w at_ left f) (λn=>F243 n (yR at_ left p f,rb p w,())):=by
 have hk:=c.nd.many (by omega) (by omega);rw[h]at hk;simp[rJ]at hk;have hl:=c.hw.len;have yT:=c.ll;have he:=c.hf.el;have e0:D.dN .i64 (aq left) 1=(left.length:Int)-1:=ek (by simp only[aq];omega) (by simp only[aq];omega);unfold jc F243 Qf DM;simp only[h,Int.reduceToNat,e0];have hs:=λ(R B P:Type)=>@xI p left (λg hg=>⟨(c.left g hg).1.lo,(c.left g hg).1.hi⟩) yT R B P _ (λn c=>rfl) left.length (bT _) (λj hj hmj=>by omega);have fin:∀(k:Int)(G:Nat->Int×Unit->Option Out)(r:qU),(∃y,Ev (λn=>G n (k,())) y∧Kq p w r y)->∀(R B P:Type)(F:Nat->Int×Unit->Option (LO (Int×Unit) R B P))(g2:Nat->B->R->Option Out)(g3:Nat->B->P->Option Out)(x:Int×Unit),
   fE F x (.out 0 (k,()))->gl p w r (λn=>ak (iter (F n) n x) λc=>LO.el c (λ_ e=>G n e) (g2 n) (g3 n)):=by
  intro k G r ⟨y,h1,h2⟩ R B P F g2 g3 x hr;exact⟨y,Ev.aU hr _ _ h1,h2⟩
 cases hi:hY (λf:ax=>(nodeAt p f.Node).Op==26) left with
 |none=>simp only[hi]at hs;refine fin _ _ (.fail 3) ?_ _ _ _ _ _ _ _ (hs _ _ _);exact⟨_,Ev.of_eq λn=>by simp(disch:=omega)only[aY,kM]<;>rfl,_,_,rfl⟩
 |some k=>
  have hkl:=xX hi;simp only[hi]at hs;refine fin _ (λn e=>_) _ ?_ _ _ _ _ _ _ _ (hs _ _ _);dsimp only;have ht:(left.take (k+1)).length=k+1:=by rw[LG];omega
  have e1:((k:Int)+1).toNat=k+1:=by omega
  by_cases h1:120<=w.bI.length
  .rw[bL h1];exact⟨_,Ev.of_eq λn=>by simp(disch:=omega)only[aY,kM,vV,aaZ,Be,bw (BW.2 h1)]<;>rfl,_,_,rfl⟩
  .rw[bw h1];unfold kS;by_cases h2:f.Env.length+1<=30
   .rw[bw (by rw[ht];simp only[jg,qC];omega)];exact⟨_,Ev.of_eq λn=>by simp(disch:=first|omega|simp only[lX];omega)only[aY,kM,vV,r8,aaZ,Be,bL (zk.1 h1),bW,e1,wv,Pq,bL h2,aaX,ht,bL (show k+1+1<=40 by omega)]<;>rfl,_,_,_,_,_,rfl⟩
   .rw[bL (by simp only[jg,qC];omega)];exact⟨_,Ev.of_eq λn=>by simp(disch:=first|omega|simp only[lX];omega)only[aY,kM,vV,r8,aaZ,Be,bL (zk.1 h1),bW,e1,wv,Pq,bw h2]<;>rfl,_,_,rfl⟩
end
end
section
abbrev afv:=(Bool×Unit)×TB×RB×(List au×Unit)×Unit
def A5(T:TB)(R:RB)(l l':List au):Option (List au)->afv
 |some m=>((true,()),T,R,(l++m,()),())
 |none=>((false,()),T,R,(l',()),())
def Fits(p:aG)(w:ai)(T:TB)(q:aC):Prop:=∀(v:au)(l:List au),cO p w.bI.length v->l.length+pw q<=1000->
 ∃l',xD R279 (T,rb p w,q,v,(l,()),()) (A5 T (rb p w) l l' (j4 w q v))
section
variable {p:aG}{w:ai}{T:TB}
def oV:∀(q:aC)(v:au)(m:List au),j4 w q v=some m->m.length<=pw q
 |⟨form,n,text,parts⟩,v,m,h=>by
  unfold j4 at h;unfold pw;by_cases h1:form=1
  .rw[bL h1]at h;cases h;simp
  rw[bw h1]at h;by_cases h2:form=2
  .rw[bL h2]at h;cases h;simp
  rw[bw h2]at h;by_cases h3:form=3
  .rw[bL h3]at h;split at h<;>cases h;simp
  rw[bw h3]at h;by_cases h4:form=4
  .rw[bL h4]at h;split at h<;>cases h;simp
  rw[bw h4]at h;by_cases h5:form=5
  .rw[bL h5]at h;split at h<;>cases h;simp
  rw[bw h5]at h;split at h
  .cases h
  .split at h
   .cases h
   .have:=lens parts _ m h;omega
where
 lens:∀(qs:List aC)(vs:List au)(m:List au),eG w qs vs=some m->m.length<=qR qs
 |[],vs,m,h=>by unfold eG at h;cases h;simp
 |q::qs,[],m,h=>by unfold eG at h;cases h;simp
 |q::qs,v::vs,m,h=>by
  unfold eG at h;unfold qR;split at h
  .cases h
  .rename_i l hl;split at h
   .cases h
   .rename_i m' hm;cases h;have a:=oV q v l hl;have b:=lens qs vs m' hm;rw[jg];omega
def eU{α:Type}(a:List α)(x:α)(b:List α)(d:α):(a++x::b).getD a.length d=x:=by rw[pQ,VE (bT _),Nat.sub_self];rfl
def TM(q:aC):aC.mk q.Form q.N q.Text q.CA=q:=by cases q;rfl
def Iv{P:Type}:∀(qs:List aC)(vs:List au)(pre:List aC)(xF:List au)(l:List au),qs.length=vs.length->pre.length=xF.length->pre.length+qs.length<=1000->
  (∀q∈qs,Fits p w T q)->(∀v∈vs,cO p w.bI.length v)->l.length+qR qs<=1000->
  ∃l',∀(d:Nat)(F:Nat->Int×TB×RB×(List au×Unit)×Unit->Option (LO (Int×TB×RB×(List au×Unit)×Unit) (Bool×Unit) (TB×RB×(List au×Unit)×Unit) P)),
  (∀n e,F n e=aj (D.bN e.1 (aq (pre++qs))) (aB (av e.1 (pre++qs)) (aB (av e.1 (xF++vs)) (ak (R279 n (n-d) (e.2.1,e.2.2.1,aC.mk (aN (pre++qs) (ah e.1) aK).1 (aN (pre++qs) (ah e.1) aK).2
   (aN (pre++qs) (ah e.1) aK).3 (aN (pre++qs) (ah e.1) aK).4,@aN au (xF++vs) (ah e.1) az,e.2.2.2)) λg=>aj (D.aM g.1.1) (some (LO.ret g.2 (false,()))) (some (LO.next (D.add .i64 e.1 1,g.2)))))) (some (LO.out 0 e)))->
  fE F ((pre.length:Int),T,rb p w,(l,()),()) (match eG w qs vs with
   |some m=>.out 0 (((pre++qs).length:Int),T,rb p w,(l++m,()),())
   |none=>.ret (T,rb p w,(l',()),()) (false,()))
 |[],[],pre,xF,l,_,_,hb,_,_,_=>by refine⟨[],λd F hF=>?_⟩;unfold eG;refine .out (Ev.of_eq λn=>?_);rw[hF];simp(disch:=omega)only[aY,lB]<;>rfl
 |q::qs,v::vs,pre,xF,l,hl,hp,hb,hq,hv,hw=>by
  unfold qR at hw;simp only[fI]at hb;obtain⟨l1,h1⟩:=hq q eC v l (hv v eC) (by omega);have g1:(pre++q::qs).getD pre.length aK=q:=eU ..;have g2:(xF++v::vs).getD pre.length az=v:=by rw[hp];exact eU ..
  unfold eG;cases hm:j4 w q v with
  |none=>rw[hm]at h1;refine⟨l1,λd F hF=>.ret ?_⟩;obtain⟨N,h1⟩:=h1 d;refine⟨N,λn hn=>?_⟩;have:=h1 n hn;simp only at this;show F n _=_;rw[hF];simp(disch:=first|omega|simp only[lX];omega)only[aY,g1,g2,TM];exact(nB (λx=>ak x _) this).trans rfl
  |some m=>
   rw[hm]at h1;have hml:=oV q v m hm;obtain⟨l2,h2⟩:=Iv (P:=P) qs vs (pre++[q]) (xF++[v]) (l++m) (by simpa using hl) (by simp;omega) (by simp;omega) (λq' h=>hq q' (gL _ h)) (λv' h=>hv v' (gL _ h))
    (by simp;omega)
   refine⟨l2,λd F hF=>?_⟩;have h2:=h2 d F (λn e=>by rw[hF];simp only[sn,zj]<;>rfl);refine(.next (y:=(((pre++[q]).length:Int),T,rb p w,(l++m,()),())) ?_ ?_)
   .obtain ⟨N,h1⟩:=h1 d;refine⟨N,λn hn=>?_⟩;have:=h1 n hn;simp only at this;show F n _=_;rw[hF];simp(disch:=first|omega|simp only[lX];omega)only[aY,g1,g2,TM,bW,fH,fJ];exact(nB (λx=>ak x _) this).trans rfl
   .simp only;cases O3:eG w qs vs with|none=>rw[O3]at h2;exact h2|some m'=>rw[O3]at h2;simpa only[sn,zj]using h2
theorem lg(n k:Nat):R279 n (k+1)=B279 n (R279 n k):=rfl
def fits:∀(q:aC),pf q=true->pw q<=1000->∀(hw:lf p w),Fits p w T q
 |⟨form,n0,text,parts⟩,hf,dc,hw=>by
  intro v l hv hl;unfold pf at hf;unfold pw at hl dc;simp only[eE,qA]at hf;obtain⟨⟨JX,Tu⟩,N5⟩:=hf;unfold j4;by_cases h1:form=1
  .refine ⟨[],xD.step lg λd=>Ev.of_eq λn=>?_⟩;unfold B279;simp(disch:=omega)only[aY,h1,fR,A5,lB]<;>rfl
  rw[bw h1];by_cases h2:form=2
  .refine ⟨[],xD.step lg λd=>Ev.of_eq λn=>?_⟩;unfold B279;simp(disch:=first|omega|simp only[lX];omega)only[aY,h2,fR,A5]<;>rfl
  rw[bw h2];have cmp:∀u:au,∃l',(if wu v u=true then some ([]:List au)else none)=none∧D.ey (D.aO v.Kind u.Kind) (D.ey (D.aO v.N u.N) true)=false∨(if wu v u=true then some ([]:List au)else none)=some []∧D.ey (D.aO v.Kind u.Kind) (D.ey (D.aO v.N u.N) true)=true∧l'=l:=by
   intro u;have:D.ey (D.aO v.Kind u.Kind) (D.ey (D.aO v.N u.N) true)=wu v u:=by rw[Bp];rfl
   rw[this];refine⟨l,?_⟩;cases wu v u<;>simp
  by_cases h3:form=3
  .rw[bL h3];refine⟨l,xD.step lg λd=>Ev.of_eq λn=>?_⟩;unfold B279 BL;obtain⟨_,⟨e1,e2⟩|⟨e1,e2,_⟩⟩:=cmp (gF n0)<;>rw[e1]<;>simp(disch:=omega)only[aY,h3,TR,e2,A5,lB]<;>rfl
  rw[bw h3];by_cases h4:form=4
  .rw[bL h4];refine⟨l,xD.step lg λd=>Ev.of_eq λn=>?_⟩;unfold B279 BL;obtain⟨_,⟨e1,e2⟩|⟨e1,e2,_⟩⟩:=cmp (iw (n0==1))<;>rw[e1]<;>simp(disch:=omega)only[aY,h4,aiK,e2,A5,lB]<;>rfl
  rw[bw h4];by_cases h5:form=5
  .rw[bL h5];refine⟨l,xD.step lg λd=>Ev.of_eq λn=>?_⟩;unfold B279 BL;obtain⟨_,⟨e1,e2⟩|⟨e1,e2,_⟩⟩:=cmp ff<;>rw[e1]<;>simp(disch:=omega)only[aY,h5,Pp,e2,A5,lB]<;>rfl
  rw[bw h5];have h6:form=6:=by omega
  cases ho:iu w v 1 with
  |none=>refine⟨l,xD.step lg λd=>Ev.of_eq λn=>?_⟩;unfold B279 Gv;simp(disch:=omega)only[aY,h6,TP hv.ref,ho,gJ,A5]<;>rfl
  |some o=>
   dsimp only;obtain⟨_,h8,_⟩:=ee hw hv ho;by_cases h7:o.N≠n0∨o.bZ.length≠parts.length
   .rw[bL h7];refine⟨l,xD.step lg λd=>Ev.of_eq λn=>?_⟩;unfold B279 Gv;by_cases h9:o.N=n0
    .simp (disch:=omega)only[aY,h6,TP hv.ref,ho,gJ,A5]<;>rfl
    .simp (disch:=omega)only[aY,h6,TP hv.ref,ho,gJ,A5]<;>rfl
   .rw[bw h7];have hov:=h8.vals;have qS:parts.length<=qR parts:=agL parts;obtain⟨l',hl'⟩:=Iv (p:=p) (w:=w) (T:=T) (P:=Any) parts o.bZ [] [] l (by omega) rfl (by simp only[AG];omega)
      (λq hq=>ab6 parts N5 (by omega) hw q hq) hov (by omega)
    refine⟨l',xD.step lg λd=>?_⟩;have hB:∀n,B279 n (R279 n (n-d)) (T,rb p w,⟨form,n0,text,parts⟩,v,(l,()),())=ak (iter (λe=>aj (D.bN e.1 (aq parts)) (aB (av e.1 parts) (aB (av e.1 o.bZ) (ak (R279 n (n-d) (e.2.1,e.2.2.1,aC.mk (aN parts (ah e.1) aK).1 (aN parts (ah e.1) aK).2
   (aN parts (ah e.1) aK).3 (aN parts (ah e.1) aK).4,@aN au o.bZ (ah e.1) az,e.2.2.2)) λg=>aj (D.aM g.1.1) (some (LO.ret g.2 (false,()))) (some (LO.next (D.add .i64 e.1 1,g.2)))))) (some (LO.out 0 e))) n (0,T,rb p w,(l,()),())) λe=>LO.el e (λ_ h=>some ((true,()),h.2)) (λg h=>some (h,g)) λ_(_:Any)=>none:=by intro n;unfold B279;simp(disch:=omega)only[aY,h6,TP hv.ref,ho,gJ];rfl
    refine Ev.congr hB (Ev.aU (hl' d _ λn e=>rfl) (λn e=>_) _ ?_);cases eG w parts o.bZ<;>exact Ev.of_eq λn=>rfl
where
 agL:∀qs:List aC,qs.length<=qR qs
 |[]=>wZ _
 |⟨_,_,_,_⟩::qs=>by unfold qR pw;have:=agL qs;simp only[fI];omega
 ab6:∀(qs:List aC),pfs qs=true->qR qs<=1000->∀(hw:lf p w),∀q∈qs,Fits p w T q
 |[],_,_,_,_,h=>by cases h
 |q::qs,hf,hp,hw,q',h=>by
  unfold pfs at hf;unfold qR at hp;simp only[eE]at hf;rcases fc.1 h with h|h
  .rw[h];exact fits q hf.1 (by omega) hw
  .exact ab6 qs hf.2 (by omega) hw q' h
def apx{q:aC}(hf:pf q=true)(hq:pw q<=1000)(hw:lf p w){v:au}(hv:cO p w.bI.length v):∃l',Ev (λn=>F279 n (T,rb p w,q,v,([],()),())) (A5 T (rb p w) [] l' (j4 w q v)):=by obtain⟨l',h⟩:=fits (T:=T) q hf hq hw v [] hv (by simp only[AG];omega);exact⟨l',h 0⟩
variable {left:List ax}{f:ax}{at_:Int}
abbrev adk(o:LO (Int×TB×RB×Unit) (cg×Unit) (TB×RB×Unit) Any):Option Out:=LO.el o (λ_ e=>some (Rx.dm (Any.a0 (fY.mk 3),e.2))) (λd e=>some (Rx.ok (e,d))) λd e=>some (Rx.dm (e,d))
def EB(hp:yV p)(hw:lf p w){u:au}{node:Int}{env vals:List au}{nd:bp}(hu:cO p w.bI.length u)(hl:left.length<40)(he:env.length<=30)(hv:0<vals.length)(Gy:bQ vals 0=u)
  (F:Nat->Int×TB×RB×Unit->Option (LO (Int×TB×RB×Unit) (cg×Unit) (TB×RB×Unit) Any))
  (hF:∀n c,F n c=aj (D.bN c.1 (aq nd.cx)) (aB (av c.1 nd.cx) (aB (av 0 c.2.1.2.2.2.2.2.1) (ak (F279 n (c.2.1,c.2.2.1,aC.mk (aN nd.cx (ah c.1) aK).1 (aN nd.cx (ah c.1) aK).2 (aN nd.cx (ah c.1) aK).3 (aN nd.cx (ah c.1) aK).4,
   @aN au c.2.1.2.2.2.2.2.1 (ah 0) az,([],()),())) λd=>aj d.1.1 (ak (F277 n (d.2.1.2.2.2.2.1,d.2.2.2.1)) λe=>Rx.el e (λg=>ak (F174 n (d.2.1,d.2.2.1,D.add .i64 c.1 1,g.1)) λh=>Rx.el h (λi=>some (LO.ret i.2 i.1)) λi=>some (LO.dm i.2 i.1)) λg=>some (LO.dm (d.2.1,d.2.2.1,()) g.1))
   (some (LO.next (D.add .i64 c.1 1,d.2.1,d.2.2.1,())))))) (some (LO.out 0 c))) :
  ∀(qs:List aC)(ks:List Int)(pre:List aC)(xY:List Int),nd.cx=pre++qs->nd.Kids=xY++ks->xY.length=pre.length+1->ks.length=qs.length->pre.length+qs.length<=1000->(∀q∈qs,pw q<=12∧pf q=true)->
  ∃o y,fE F ((pre.length:Int),tb at_ left node env vals nd [],rb p w,()) o∧adk o=some y∧Kq p w (qK w left env u qs ks) y
 |[],ks,pre,xY,h1,h2,h3,h4,h5,h6=>by
  refine⟨_,_,.out (j:=0) (y:=((pre.length:Int),tb at_ left node env vals nd [],rb p w,())) (Ev.of_eq λn=>?_),rfl,?_⟩
  .rw[hF];simp(disch:=omega)only[aY,h1,lB]<;>rfl
  .cases ks<;>exact⟨_,_,rfl⟩
 |q::qs,[],pre,xY,h1,h2,h3,h4,h5,h6=>by simp at h4
 |q::qs,k::ks,pre,xY,h1,h2,h3,h4,h5,h6=>by
  simp only[fI]at h4 h5;have qS:nd.cx.length=pre.length+(qs.length+1):=by rw[h1];simp
  have hkl:nd.Kids.length=xY.length+(ks.length+1):=by rw[h2];simp
  have g1:nd.cx.getD pre.length aK=q:=by rw[h1];exact eU ..
  have g2:nd.Kids.getD (pre.length+1) 0=k:=by rw[h2,<-h3];exact eU ..
  obtain⟨Tn,hq2⟩:=h6 q eC;obtain⟨l',hE⟩:=apx (T:=tb at_ left node env vals nd []) hq2 (by omega) hw hu;have e1:((pre.length:Int)+1).toNat=pre.length+1:=by omega
  have hb:∀n,F n ((pre.length:Int),tb at_ left node env vals nd [],rb p w,())=ak (F279 n (tb at_ left node env vals nd [],rb p w,q,u,([],()),())) λd=>aj d.1.1 (ak (F277 n (d.2.1.2.2.2.2.1,d.2.2.2.1)) λe=>Rx.el e (λg=>ak (F174 n (d.2.1,d.2.2.1,D.add .i64 pre.length 1,g.1)) λh=>Rx.el h (λi=>some (LO.ret i.2 i.1)) λi=>some (LO.dm i.2 i.1)) λg=>some (LO.dm (d.2.1,d.2.2.1,()) g.1))
   (some (LO.next (D.add .i64 pre.length 1,d.2.1,d.2.2.1,()))):=by
   intro n;rw[hF];simp(disch:=omega)only[aY,g1,bu,Gy,TM]<;>rfl
  unfold qK;cases hm:j4 w q u with
  |none=>rw[hm]at hE;obtain⟨o,y,r1,r2,r3⟩:=EB hp hw hu hl he hv Gy F hF qs ks (pre++[q]) (xY++[k]) (by rw[h1];simp) (by rw[h2];simp) (by simp;omega) (by omega) (by simp;omega) (λq' h=>h6 q' (gL _ h));refine⟨o,y,.next ?_ r1,r2,r3⟩;refine Ev.congr hb (Ev.ak hE (Ev.of_eq λn=>?_));simp(disch:=omega)only[aY,A5,bW,fH,fJ]<;>rfl
  |some m=>
   rw[hm]at hE;have hml:=oV q u m hm;dsimp only;unfold kS;by_cases h7:env.length+m.length<=30
   .rw[bw (by rw[jg];omega)];refine⟨.ret (tb at_ (left++[⟨k,env++m,[]⟩]) node env vals nd [],rb p w,()) (cg.a3 ⟨⟩,()),_,.ret ?_,rfl,_,_,_,_,_,rfl⟩;refine Ev.congr hb (Ev.ak hE (Ev.of_eq λn=>?_));simp(disch:=omega)only[aY,A5,xN,Pq,bL h7,bW,aaX,bL (show left.length+1<=40 by omega),e1,g2]<;>rfl
   .rw[bL (by rw[jg];omega)];refine⟨.dm (tb at_ left node env vals nd [],rb p w,()) (fl 4),_,.dm ?_,rfl,_,_,rfl⟩;refine Ev.congr hb (Ev.ak hE (Ev.of_eq λn=>?_));simp(disch:=omega)only[aY,A5,xN,Pq,bw h7]<;>rfl
def alx(c:Cx p w left f)(h:(nodeAt p f.Node).Op=15):gl p w (jc p w at_ left f) (λn=>F231 n (yR at_ left p f,rb p w,())):=by
 have hv:=c.vl h (by decide);simp[dR]at hv;have v0:=c.val (i:=0) (by omega);obtain⟨hk,qS⟩:=c.nd.mat h;have hq:=c.nd.pats;unfold jc F231 Gj;simp only[h,Int.reduceToNat];obtain⟨k0,hk0⟩:∃k0,(nodeAt p f.Node).Kids=[k0]++(nodeAt p f.Node).Kids.drop 1:=by cases hc:(nodeAt p f.Node).Kids with|nil=>rw[hc]at hk;simp at hk;omega|cons a l=>exact⟨a,rfl⟩
 obtain⟨o,y,r1,r2,r3⟩:=EB (at_:=at_) (node:=f.Node) c.hp c.hw v0 c.ll c.hf.el (vals:=f.bZ) (by omega) rfl _ (λn e=>rfl) (nodeAt p f.Node).cx ((nodeAt p f.Node).Kids.drop 1) [] [k0] rfl hk0 rfl (by rw[LF];omega) (by simp only[AG];omega) hq;exact⟨y,Ev.aU (F:=λn c=>_) r1 (λn c=>_) _ (Ev.of_eq λn=>r2),r3⟩
end
end
section
variable {n k:Nat}{l:List ax}{nd:bp}{o:aE}
def aiM(nd:bp)(h1:1<=nd.Op)(h2:nd.Op<=28):F173 n (nd,())=some ((pH nd,()),()):=by
 obtain⟨op,m,kids,pats⟩:=nd;dsimp only at h1 h2;obtain⟨k,rfl⟩:∃k:Nat,op=k:=⟨_,(LH (by omega)).symm⟩;have hk2:k<=28:=by omega
 match k,hk2 with
 |0,_=>omega
 |1,_|2,_|3,_|4,_|5,_|6,_|7,_|8,_|9,_|10,_|11,_|12,_|13,_|14,_|15,_|16,_|17,_|18,_|19,_|20,_|21,_|22,_|23,_|24,_|25,_|26,_|27,_|28,_=>rfl
 |k+29,h=>omega
section
variable {p:aG}{w:ai}{left:List ax}{f:ax}{at_:Int}
noncomputable def opF(k:Nat)(n:Nat)(x:TB×RB×Unit):Option Out:=
 match k with
 |1|2|3=>ak (F221 n x) λg=>some (Rx.ok g)
 |9|10|11=>ak (F227 n x) λg=>Rx.el g (λh=>some (Rx.ok h)) λh=>some (Rx.dm h)
 |26=>ak (F242 n x) λg=>some (Rx.ok g)
 |28=>ak (F244 n x) λg=>some (Rx.ok g)
 |4=>F222 n x|5=>F223 n x|6=>F224 n x|7=>F225 n x|8=>F226 n x|12=>F228 n x|13=>F229 n x|14=>F230 n x|15=>F231 n x|16=>F232 n x
 |17=>F233 n x|18=>F234 n x|19=>F235 n x|20=>F236 n x|21=>F237 n x|22=>F238 n x|23=>F239 n x|24=>F240 n x|25=>F241 n x|27=>F243 n x
 |_=>none
def S2(c:Cx p w left f):gl p w (jc p w at_ left f) (λn=>opF (nodeAt p f.Node).Op.toNat n (yR at_ left p f,rb p w,())):=by
 have h1:=c.nd.lo;have h2:=c.nd.hi;obtain⟨k,hk⟩:∃k:Nat,(nodeAt p f.Node).Op=k:=⟨_,(LH (by omega)).symm⟩;have ke:1<=k:=by omega
 have hk2:k<=28:=by omega
 rw[hk,Jr]
 match k,hk,ke,hk2 with
 |1,h,_,_=>exact adm c (.inl h)
 |2,h,_,_=>exact adm c (.inr (.inl h))
 |3,h,_,_=>exact adm c (.inr (.inr h))
 |4,h,_,_=>exact alF c h
 |5,h,_,_=>exact alE c h
 |6,h,_,_=>exact alD c h
 |7,h,_,_=>exact alC c h
 |8,h,_,_=>exact alB c h
 |9,h,_,_=>exact adl c (.inl h)
 |10,h,_,_=>exact adl c (.inr (.inl h))
 |11,h,_,_=>exact adl c (.inr (.inr h))
 |12,h,_,_=>exact alA c h
 |13,h,_,_=>exact alz c h
 |14,h,_,_=>exact aly c h
 |15,h,_,_=>exact alx c h
 |16,h,_,_=>exact alw c h
 |17,h,_,_=>exact alv c h
 |18,h,_,_=>exact alu c h
 |19,h,_,_=>exact alq c h
 |20,h,_,_=>exact alp c h
 |21,h,_,_=>exact aln c h
 |22,h,_,_=>exact alm c h
 |23,h,_,_=>exact alk c h
 |24,h,_,_=>exact alj c h
 |25,h,_,_=>exact ali c h
 |26,h,_,_=>exact alh c h
 |27,h,_,_=>exact alg c h
 |28,h,_,_=>exact alf c h
 |k+29,_,_,h=>omega
def Xw{α:Type}(x:Int)(h1:1<=x)(h2:x<=28)(g:Nat->Option α) :
  aj (hU x 1) (g 1) (aj (hU x 2) (g 2) (aj (hU x 3) (g 3) (aj (hU x 4) (g 4) (aj (hU x 5) (g 5) (aj (hU x 6) (g 6) (aj (hU x 7) (g 7) (aj (hU x 8) (g 8)
  (aj (hU x 9) (g 9) (aj (hU x 10) (g 10) (aj (hU x 11) (g 11) (aj (hU x 12) (g 12) (aj (hU x 13) (g 13) (aj (hU x 14) (g 14) (aj (hU x 15) (g 15)
  (aj (hU x 16) (g 16) (aj (hU x 17) (g 17) (aj (hU x 18) (g 18) (aj (hU x 19) (g 19) (aj (hU x 20) (g 20) (aj (hU x 21) (g 21) (aj (hU x 22) (g 22)
  (aj (hU x 23) (g 23) (aj (hU x 24) (g 24) (aj (hU x 25) (g 25) (aj (hU x 26) (g 26) (aj (hU x 27) (g 27) (aj (hU x 28) (g 28) (aB false none))))))))))))))))))))))))))))=g x.toNat:=by
 obtain⟨k,rfl⟩:∃k:Nat,x=k:=⟨_,(LH (by omega)).symm⟩;have ke:1<=k:=by omega
 have hk2:k<=28:=by omega
 match k,ke,hk2 with
 |1,_,_|2,_,_|3,_,_|4,_,_|5,_,_|6,_,_|7,_,_|8,_,_|9,_,_|10,_,_|11,_,_|12,_,_|13,_,_|14,_,_|15,_,_|16,_,_|17,_,_|18,_,_|19,_,_|20,_,_|21,_,_|22,_,_|23,_,_|24,_,_|25,_,_|26,_,_|27,_,_|28,_,_=>rfl
 |k+29,_,h=>omega
def aiF(c:Option Out):(ak c λg=>Rx.el g (λh=>some (Rx.ok h)) λh=>some (Rx.dm h))=c:=by cases c with|none=>rfl|some y=>cases y<;>rfl
abbrev T0(at_:Int):TB:=((),at_,[],0,[],[],0,0,[],[],[],())
def A0(h:l≠[]):l=l.take (l.length-1)++[l.getD (l.length-1) aX]:=by
 have hl:l.length-1<l.length:=by have:=LI.2 h;omega
 rw[pQ,gm hl];simp only[Jp];rw[<-List.dropLast_eq_take,List.getElem_length_sub_one_eq_getLast];exact(List.dropLast_concat_getLast h).symm
def oB(h:Up p nd):pH nd<=nd.Kids.length:=by
 unfold pH;split
 .exact Int.le_refl _
 .rename_i xg;by_cases Ci:nd.Op=15
  .have:=(h.mat Ci).1;rw[Ci,this];simp[dR];omega
  .rw[h.many xg Ci];have h1:=h.lo;have h2:=h.hi;have:∀k,k<29->k≠15->dR.getD k 0<=rJ.getD k 0:=by decide
   exact_mod_cast this _ (by omega) (by omega)
def zF(hp:yV p)(h:Up p nd):nd.Kids.length<=6:=by
 by_cases xg:nd.Op=14
 .obtain ⟨a,b,d⟩:=h.con xg;have:=(hp.cons _ (cG bE (show nd.N.toNat<p.Cons.length by omega))).2;omega
 .by_cases Ci:nd.Op=15
  .have:=h.mat Ci;omega
  .rw[h.many xg Ci];have h1:=h.lo;have h2:=h.hi;have:∀k,k<29->rJ.getD k 0<=6:=by decide
   exact this _ (by omega)
def Et{g:ax}:∀{o:aE},iF p k o->o.Form=6->o.N=0->o.Frames=l++[g]->
  eK p k g∧(∀x∈l,eK p k x∧zq p x)∧l.length<40∧(o.bZ=[]∨∃v,o.bZ=[v]∧cO p k v∧zq p g)
 |_,.A1 a b c,_,_,h=>by have h':=List.append_inj' h rfl;have h1:=h'.1;have h2:=(List.cons.inj h'.2).1;subst h1;subst h2;exact⟨c,b,a,.inl rfl⟩
 |_,.back a b c,_,_,h=>by dsimp only at h;subst h;exact⟨(b g (by simp)).1,λx hx=>b x (by simp[hx]),by simp at a;omega,.inr ⟨_,rfl,c,(b g (by simp)).2⟩⟩
 |_,.done _,_,h,_=>by cases h
 |_,.dead a,_,h,_=>by dsimp only at h;omega
 |_,.data ..,h,_,_=>by cases h
 |_,.func ..,h,_,_=>by cases h
 |_,.cell _,h,_,_=>by cases h
 |_,.chan ..,h,_,_=>by cases h
 |_,.JJ ..,h,_,_=>by cases h
def alG(hp:yV p)(hw:lf p w)(hf:o.Form=6)(hn:o.N=0)(hfr:o.Frames≠[])(ho:iF p w.bI.length o):gl p w (goS p w at_ o) (λn=>F115 n (T0 at_,rb p w,o,())):=by
 obtain⟨l,g,Rq⟩:∃l g,o.Frames=l++[g]:=⟨_,_,A0 hfr⟩;obtain⟨hg,hl,yT,hvs⟩:=Et ho hf hn Rq;have l5:=hp.nd hg.lo hg.hi;have Ws:(l++[g]).length-1=l.length:=by simp
 have xd:(l++[g]).take l.length=l:=List.take_left;have cJ:(l++[g]).getD l.length aX=g:=eU ..;have e1:tC (T0 at_,rb p w,o,())=(l.length:Int):=by unfold tC;simp only[Rq];simp(disch:=omega)only[aY,ek];omega
 have e2:iA (T0 at_,rb p w,o,())=g:=by unfold iA;rw[e1];simp only[Rq,Xl,zy];exact cJ
 have e3:yO (T0 at_,rb p w,o,())=nodeAt p g.Node:=by unfold yO;rw[e2];rfl
 have hvl:g.bZ.length<=1000:=by have h1:=hg.vl;have h2:=oB l5;have h3:=zF hp l5;omega
 unfold goS F115;simp only[Rq,Ws,xd,cJ,e1,e2,e3];rcases hvs with hv|⟨v,hv,yS,hop⟩
 .simp only[hv];by_cases hk:(g.bZ.length:Int)<pH (nodeAt p g.Node)
  .rw[bL hk];have:=oB l5;refine Oz (k:=(g.bZ.length:Int)) at_ 0 [] [] (left:=l++[g]) (by simp;omega) hg.el (by omega) (by omega) λn=>?_;unfold KP;simp only[e3];have hlo:=hg.lo;have hhi:=hg.hi;simp(disch:=first|omega|simp only[lX];omega)only[aY,aiM _ l5.lo l5.hi,Xn,ju,xN,bL (show l.length+1<=40 by omega)]<;>rfl
  .rw[bw hk];have hlo:=hg.lo;have hhi:=hg.hi;have c:Cx p w l g:=⟨hp,hw,hg,by have:=hg.vl;omega,yT,hl⟩;obtain⟨y,h1,h2⟩:=S2 (at_:=at_) c;refine⟨y,Ev.congr (λn=>?_) h1,h2⟩;have ke:=l5.lo;have hk2:=l5.hi;rw[<-Xw (nodeAt p g.Node).Op ke hk2 (λj=>opF j n (yR at_ l p g,rb p w,()))];unfold KP KO KN fZ;simp only[e2,e3];simp(disch:=first|omega|simp only[lX];omega)only[aY,aiM _ l5.lo l5.hi,r8,xd,Xn,ju,xN,bL (show l.length<=40 by omega)];simp only[aiF,opF]
 .simp only[hv];exact .of_eq (λn=>by simp(disch:=first|omega|simp only[lX];omega)only[aY,r8,xd,Xn,ju,xN,HT,List.getD_cons_zero,bL (show l.length<=40 by omega),bL (show l.length+1<=40 by omega)]<;>rfl) ⟨_,_,_,_,aQ,rfl⟩
def Lm(p:aG)(w:ai):Option (ai×Option aS)->(cg×Unit)×RB×Unit
 |none=>((cg.a0 ⟨⟩,()),rb p w,())
 |some (w',e)=>((aeD e,()),rb p w',())
theorem aiJ{n:Nat}:F71 n (cg.a0 ⟨⟩,())=some ((2,()),()):=rfl
def aaV(e:Option aS):F71 n (aeD e,())=some ((match e with|none=>0|some _=>1,()),()):=by cases e<;>rfl
def W7(hp:yV p)(hw:lf p w)(hf:o.Form=6)(hn:o.N=0)(hfr:o.Frames≠[])(ho:iF p w.bI.length o):tO p w (goS p w at_ o):=by
 obtain⟨l,g,Rq⟩:∃l g,o.Frames=l++[g]:=⟨_,_,A0 hfr⟩;obtain⟨hg,hl,yT,hvs⟩:=Et ho hf hn Rq;have l5:=hp.nd hg.lo hg.hi;have Ws:(l++[g]).length-1=l.length:=by simp
 have xd:(l++[g]).take l.length=l:=List.take_left;have cJ:(l++[g]).getD l.length aX=g:=eU ..;unfold goS;simp only[Rq,Ws,xd,cJ];rcases hvs with hv|⟨v,hv,yS,hop⟩
 .simp only[hv];split
  .rename_i hk;have:=oB l5;unfold kS;split
   .exact .inr (.inr rfl)
   .rename_i h40;have hk2:=l5.kids _ (cG 0 (show g.bZ.length<(nodeAt p g.Node).Kids.length by omega));refine pV.same hw (.A1 (by omega) (λx hx=>?_) ⟨hk2.1,hk2.2,hg.el,hg.env,Dt _,λv hv=>by cases hv⟩);rcases eg.1 hx with hx|hx
    .exact hl x hx
    .rw[mq.1 hx];exact⟨hg,hk⟩
  .rename_i hk;exact adh ⟨hp,hw,hg,by have:=hg.vl;omega,yT,hl⟩
 .simp only[hv];refine pV.same hw (.A1 yT hl ⟨hg.lo,hg.hi,hg.el,hg.env,?_,A9 hg.vals yS⟩);unfold zq at hop;simp only[jg,qC];omega
def Fm:∀{o:aE},iF p k o->o.Form=6->o.N=0->o.Frames=[]->∃v,o.bZ=[v]∧cO p k v
 |_,.A1 a b c,_,_,h=>by simp at h
 |_,.back a b c,_,_,h=>⟨_,rfl,c⟩
 |_,.done a,_,_,h=>⟨_,rfl,a⟩
 |_,.dead a,_,h,_=>by dsimp only at h;omega
 |_,.data ..,h,_,_=>by cases h
 |_,.func ..,h,_,_=>by cases h
 |_,.cell _,h,_,_=>by cases h
 |_,.chan ..,h,_,_=>by cases h
 |_,.JJ ..,h,_,_=>by cases h
def DG(hp:yV p)(hw:lf p w)(h0:0<=at_)(h1:at_<w.cU.length){w':ai}{e:Option aS}(hs:qY p w at_=some (w',e)) :
  lf p w'∧(∃l,w'.cU=w.cU++l)∧(e=none->w'.cU=w.cU):=by
 have ht:=hw.task _ (cG 0 (show at_.toNat<w.cU.length by omega));obtain⟨t1,t2,t3⟩:=ht;have ho:=hw.ob t1 t2;unfold qY at hs;simp only at hs;change 0<=cL w at_ at t1;change cL w at_<_ at t2;change(eF w (cL w at_)).Form=6 at t3;change iF p _ (eF w (cL w at_))at ho;split at hs
 .cases hs
 .rename_i hN;have hN:(eF w (cL w at_)).N=0:=by omega
  split at hs
  .rename_i hfr;cases hs;refine⟨hw.set t1 t2 (.done ?_) ⟨λ_=>t3,λ_=>rfl⟩,⟨[],by simp[nR]⟩,λ_=>rfl⟩;obtain⟨v,hv,yS⟩:=Fm ho t3 hN hfr;rw[hv];exact yS
  .rename_i hfr;have hr:=W7 (at_:=at_) hp hw t3 hN hfr ho;split at hs
   .cases hs
   .rename_i s UD;rw[UD]at hr;cases hs;exact⟨hw.set t1 t2 (.dead hr) ⟨λ_=>t3,λ_=>rfl⟩,⟨[],by simp[nR]⟩,λ_=>rfl⟩
   .rename_i w1 fr bk e1 UD;rw[UD]at hr;cases hs;have hln:=hr.ln;have e0:(((cL w at_).toNat:Nat):Int)=cL w at_:=by omega
    refine⟨hr.ok.set t1 (by omega) hr.ob ⟨λ_=>?_,λ_=>rfl⟩,hr.tk,hr.tn⟩;have:=hr.fm (cL w at_).toNat (by omega);rw[e0]at this;exact this.2 t3
def e70(hp:yV p)(hw:lf p w)(h0:0<=at_)(h1:at_<w.cU.length):Ev (λn=>F70 n (rb p w,at_,())) (Lm p w (qY p w at_)):=by
 obtain⟨t1,t2,t3⟩:=hw.task _ (cG 0 (show at_.toNat<w.cU.length by omega));have ho:=hw.ob t1 t2;change 0<=cL w at_ at t1;change cL w at_<_ at t2;change(eF w (cL w at_)).Form=6 at t3;change iF p _ (eF w (cL w at_))at ho;have e1:An (rb p w,at_,())=cL w at_:=rfl;have e2:Gc (rb p w,at_,())=eF w (cL w at_):=rfl;unfold qY F70;simp only[e1,e2];by_cases hN:(eF w (cL w at_)).N=0
 .rw[bw (by omega)];by_cases hfr:(eF w (cL w at_)).Frames=[]
  .rw[bL hfr];obtain⟨v,hv,yS⟩:=Fm ho t3 hN hfr;rw[hv];exact Ev.of_eq λn=>by simp(disch:=first|omega|simp only[lX];omega)only[aY,hN,hfr,hv,aaY,aeJ]<;>rfl
  .rw[bw hfr];obtain⟨y,hy1,hy2⟩:=alG (at_:=at_) hp hw t3 hN hfr ho;have hlen:0<(eF w (cL w at_)).Frames.length:=LI.2 hfr;have hr:=W7 (at_:=at_) hp hw t3 hN hfr ho;simp(disch:=omega)only[aY,hN];refine Ev.ak hy1 ?_;cases UD:goS p w at_ (eF w (cL w at_))with
   |waits=>rw[UD]at hy2;obtain⟨T,rfl⟩:=hy2;exact Ev.of_eq λn=>by simp only[aY,aiJ]<;>rfl
   |fail s=>rw[UD]at hy2;obtain⟨T,w1,rfl⟩:=hy2;exact Ev.of_eq λn=>by simp(disch:=omega)only[aY,aaY,apN]<;>rfl
   |go w1 fr bk e=>
    rw[UD]at hy2 hr;obtain⟨pl,node,env,vals,nd,rfl⟩:=hy2;obtain⟨l,hl⟩:=hr.tk;have hln:=hr.ln;have ht:w1.cU.getD at_.toNat 0=cL w at_:=by rw[hl,pQ,QZ (by omega)];rfl
    have htl:at_<w1.cU.length:=by rw[hl,jg];omega
    exact Ev.of_eq λn=>by cases e<;>simp(disch:=omega)only[aY,aaV,aaY,ht]<;>rfl
 .rw[bL hN];exact Ev.of_eq λn=>by simp(disch:=omega)only[aY]<;>rfl
end
end
section
def dK(w:ai)(at_ t:Int):qU->aA
 | .fail s=>⟨nR w t ⟨6,s,[],[]⟩,1,⟨at_,0,s,az⟩⟩
 | .waits=>⟨w,2,aZ⟩
 | .go w' fr bk none=>⟨nR w' t ⟨6,0,bk,fr⟩,0,aZ⟩
 | .go w' fr bk (some e)=>⟨nR w' t ⟨6,0,bk,fr⟩,1,e⟩
section
variable {n:Nat}{p:aG}{w:ai}{left:List ax}{f:ax}{at_:Int}{v u:au}{form:Int}
theorem J9(k:Int):F117 n (k,())=some ((wv k,()),()):=rfl
theorem Po:F97 n ()=some ((ff,()),()):=rfl
theorem e25(k:Int):F25 n (k,())=some ((gF k,()),()):=rfl
def aeI(b:Bool):F120 n (b,())=some ((iw b,()),()):=by cases b<;>rfl
def acd(k:Int):F120 n (D.aO k 1,())=some ((iw (k==1),()),()):=aeI _
def e73:F73 n (v,())=some ((oW v,()),()):=by
 unfold F73 oW;by_cases h:v.Kind=4
 .simp[h,aY,J9]
 .by_cases h':v.Kind=5
  .simp[h',aY,J9]
  .simp (disch:=omega)only[aY,h,h',or_self,eO]
def e74{l:List au}(h:l.length<=1000):F74 n (l,v,())=some ((l++[v],()),()):=by unfold F74;simp(disch:=first|omega|simp only[lX];omega)only[aY]
def e75(nd:bp)(h1:1<=nd.Op)(h2:nd.Op<=28):F75 n (nd,())=some ((pH nd,()),()):=by
 obtain⟨op,m,kids,pats⟩:=nd;dsimp only at h1 h2;obtain⟨k,rfl⟩:∃k:Nat,op=k:=⟨_,(LH (by omega)).symm⟩;have hk2:k<=28:=by omega
 match k,hk2 with
 |0,_=>omega
 |1,_|2,_|3,_|4,_|5,_|6,_|7,_|8,_|9,_|10,_|11,_|12,_|13,_|14,_|15,_|16,_|17,_|18,_|19,_|20,_|21,_|22,_|23,_|24,_|25,_|26,_|27,_|28,_=>rfl
 |k+29,h=>omega
variable {op:Int}
def wL{d:aA}{k:Int}:F129 n (d,at_,op,k,v,())=if d.afm=1 then some ((d,()),())else some ((⟨d.W,1,⟨at_,op,k,oW v⟩⟩,()),()):=by
 unfold F129;split<;>rename_i h
 .simp only[aY,h]
 .simp (disch:=omega)only[aY,h,e73]
def lS(hv:v.Kind=5->0<=v.N∧v.N<w.bI.length):F176 n (w,v,form,())=some (gJ (iu w v form),()):=by
 unfold F176 iu eF;by_cases h:v.Kind=5
 .obtain ⟨h1,h2⟩:=hv h;by_cases h':(w.bI.getD v.N.toNat aR).Form=form
  .simp (disch:=omega)only[aY,h,h',and_self,fR,gJ]
  .simp (disch:=omega)only[aY,h,h',and_false,eO,gJ]
 .simp (disch:=omega)only[aY,h,false_and,eO,gJ]
def Zd:Option ax->ax×Bool×Unit
 |some b=>(b,true,())
 |none=>(aX,false,())
def TS(hf:u.Kind=4->0<=u.N∧u.N<p.dH.length)(ho:u.Kind=5->0<=u.N∧u.N<w.bI.length)
  (hn:∀o,iu w u 2=some o->0<=o.N∧o.N<p.aW.length∧0<(nodeAt p o.N).Kids.length∧o.bZ.length<=1000) :
  F177 n (p,w,u,v,())=some (Zd (jh p w u v),()):=by
 unfold F177 jh;by_cases h:u.Kind=4
 .obtain ⟨h1,h2⟩:=hf h;simp(disch:=omega)only[aY,h,fR,Zd]
 .simp (disch:=omega)only[aY,h,eO];rw[lS ho];cases hc:iu w u 2 with|none=>simp only[aY,gJ,Zd]|some o=>obtain⟨h1,h2,h3,h4⟩:=hn o hc;unfold nodeAt at h3 ⊢;simp(disch:=omega)only[aY,gJ,e74,Zd]
structure At(w:ai)(at_:Int):Prop where
 lo:0<=at_
 hi:at_<w.cU.length
 tlo:0<=cL w at_
 thi:cL w at_<w.bI.length
theorem cH(w:ai)(k:Int):w.cU.getD k.toNat 0=cL w k:=rfl
def e76{node:Int}{env:List au}(a:At w at_)(hl:left.length<=1000)(he:env.length<=1000):F76 n (w,at_,left,node,env,())=some ((dK w at_ (cL w at_) (kS w left node env),()),()):=by
 obtain⟨a1,a2,a3,a4⟩:=a;unfold F76 X7 kS;by_cases h1:40<=left.length
 .simp (disch:=omega)only[aY,cH,bL (show 40<=left.length∨30<env.length from .inl h1),dK]<;>rfl
 .by_cases h2:30<env.length
  .simp (disch:=omega)only[aY,cH,bL (show 40<=left.length∨30<env.length from .inr h2),dK]<;>rfl
  .simp (disch:=first|omega|simp only[lX];omega)only[aY,cH,bw (show ¬(40<=left.length∨30<env.length)by omega),dK]<;>rfl
def apM(a:At w at_)(hp:yV p)(hw:lf p w)(hu:cO p w.bI.length u)(hl:left.length<=100):F122 n (p,w,at_,left,u,v,())=some ((dK w at_ (cL w at_) (FT p w left u v),()),()):=by
 obtain⟨a1,a2,a3,a4⟩:=a;unfold F122 KM yN FT;cases ho:iu w u 5 with
 |some o=>
  obtain⟨h1,h2,_⟩:=ee hw hu ho;have hfl:o.Frames.length<=40:=by cases h2<;>first|(simp;done)|(simp only[fI,jg,AG];omega)
  dsimp only;by_cases h3:40<left.length+o.Frames.length
  .simp (disch:=omega)only[aY,lS hu.ref,ho,gJ,cH,bL h3,dK]<;>rfl
  .simp (disch:=omega)only[aY,lS hu.ref,ho,gJ,cH,bw h3,dK,fU]<;>rfl
 |none=>
  dsimp only;have hn:=Pc hp hw hu;cases hb:jh p w u v with
  |none=>simp(disch:=omega)only[aY,lS hu.ref,ho,gJ,cH,TS hu.code hu.ref hn,hb,Zd,dK]<;>rfl
  |some b=>
   have he:b.Env.length<=1000:=by
    unfold jh at hb;split at hb
    .cases hb;simp
    .split at hb
     .rename_i o' ho';cases hb;have h4:=(ee hw hu ho').2.1;have h5:=(ee hw hu ho').1;cases h4<;>first|(cases h5;done)|(simp only[jg,qC];omega)
     .cases hb
   simp only[aY,lS hu.ref,ho,gJ,TS hu.code hu.ref hn,hb,Zd,e76 ⟨a1,a2,a3,a4⟩ (show left.length<=1000 by omega) he]<;>rfl
def e55(a:Int):F55 n (a,(-1000000000),1000000000,())=some ((hJ a,()),()):=by unfold F55 hJ;by_cases h1:-1000000000<=a<;>by_cases h2:a<=1000000000<;>simp[aj,D.eu,h1,h2]
def Xs(a:At w at_)(hop:op=9∨op=10∨op=11∨op=12∨op=13)(hu:cO p w.bI.length u)(hv:cO p w.bI.length v):F123 n (w,at_,left,op,u,v,())=some ((dK w at_ (cL w at_) (yw w left op u v),()),()):=by
 obtain⟨a1,a2,a3,a4⟩:=a;unfold F123 Gu KK KL yM yw;by_cases h13:op=13
 .subst h13;rw[bL rfl];by_cases h1:u.Kind=v.Kind
  .by_cases h2:u.Kind<=3
   .rw[bw (by omega),show wu u v=D.aO u.N v.N by simp only[wu,h1,beq_self_eq_true,iL];rfl];simp(disch:=omega)only[aY,cH,Kl,Bp,aeI,dK,fU]<;>rfl
   .rw[bL (by omega)];simp(disch:=omega)only[aY,cH,dK]<;>rfl
  .rw[bL (by omega)];simp(disch:=omega)only[aY,cH,dK]<;>rfl
 .rw[bw h13];by_cases h1:u.Kind=1∧v.Kind=1
  .obtain ⟨j6,Dm⟩:=h1;have i0:=hu.int j6;have i1:=hv.int Dm;have hm:=agJ i0 i1;simp only[hJ,eE,qA]at i0 i1;rw[bw (by omega)];rcases hop with h|h|h|h|h
   .subst h;simp only[Int.reduceEq,eO,fR];simp(disch:=omega)only[aY,cH,bG,bW,e55];cases hc:hJ (u.N+v.N)<;>simp only[aY,cH,e25,dK,fU,eO,fR,reduceCtorEq]<;>rfl
   .subst h;simp only[Int.reduceEq,eO,fR];simp(disch:=omega)only[aY,cH,bG,ek,e55];cases hc:hJ (u.N-v.N)<;>simp only[aY,cH,e25,dK,fU,eO,fR,reduceCtorEq]<;>rfl
   .subst h;simp only[Int.reduceEq,eO,fR];simp(disch:=omega)only[aY,cH,bG,VT,e55];cases hc:hJ (u.N*v.N)<;>simp only[aY,cH,e25,dK,fU,eO,fR,reduceCtorEq]<;>rfl
   .subst h;simp only[Int.reduceEq,eO,fR];simp(disch:=omega)only[aY,cH,aeI,dK,fU]<;>rfl
   .exact absurd h h13
  .rw[bL (by omega)];by_cases j6:u.Kind=1
   .simp (disch:=omega)only[aY,cH,dK]<;>rfl
   .simp (disch:=omega)only[aY,cH,dK]<;>rfl
end
end
section
section
variable {n:Nat}{p:aG}{w:ai}{left:List ax}{f:ax}{at_:Int}{v u:au}{form:Int}
variable {vals:List au}{nd:bp}
def TV(a:At w at_)(hw:lf p w)(hv:0<vals.length):F126 n (w,at_,left,16,vals,())=some ((dK w at_ (cL w at_) (evS at_ 16 0 (bQ vals 0) (oX w left ⟨3,0,[bQ vals 0],[]⟩)),()),()):=by
 obtain⟨a1,a2,a3,a4⟩:=a;have hl:=hw.len;unfold F126 yK BJ jm pM oX;by_cases h1:120<=w.bI.length
 .simp (disch:=omega)only[aY,bu,cH,wL,dK,evS,bL h1,fR]<;>rfl
 .simp (disch:=first|omega|simp only[lX];omega)only[aY,bu,cH,J9,ek,wL,dK,evS,bw h1,Int.reduceEq,eO,fU,ju,fH,fJ,Om]<;>rfl
def Xr(a:At w at_)(hw:lf p w)(hv:0<vals.length)(hu:cO p w.bI.length (bQ vals 0)):F126 n (w,at_,left,17,vals,())=some ((dK w at_ (cL w at_) (W8 w at_ left (bQ vals 0)),()),()):=by
 obtain⟨a1,a2,a3,a4⟩:=a;unfold F126 yK BJ jm pM W8;cases ho:iu w (bQ vals 0) 3 with
 |none=>simp(disch:=omega)only[aY,bu,cH,lS hu.ref,ho,gJ,dK]<;>rfl
 |some o=>
  obtain⟨h1,h2,h3,h4,h5,h6⟩:=ee hw hu ho;have hl:0<o.bZ.length:=by cases h2<;>first|(cases h1;done)|simp
  simp(disch:=omega)only[aY,bu,cH,lS hu.ref,ho,gJ,wL,Int.reduceEq,eO,dK]<;>rfl
def Xq(a:At w at_)(hw:lf p w)(hv:1<vals.length)(hu:cO p w.bI.length (bQ vals 0)):F126 n (w,at_,left,18,vals,())=some ((dK w at_ (cL w at_) (ij w at_ left (bQ vals 0) (bQ vals 1)),()),()):=by obtain⟨a1,a2,a3,a4⟩:=a;unfold F126 yK BJ jm pM ij;cases ho:iu w (bQ vals 0) 3 with|none=>simp(disch:=omega)only[aY,bu,cH,lS hu.ref,ho,gJ,dK]<;>rfl|some o=>obtain⟨h1,h2,h3,h4,h5,h6⟩:=ee hw hu ho;simp(disch:=first|omega|simp only[lX];omega)only[aY,bu,cH,lS hu.ref,ho,gJ,Po,wL,Int.reduceEq,eO,dK]<;>rfl
def apI(a:At w at_)(hw:lf p w)(hu:cO p w.bI.length u):F128 n (w,at_,left,u,())=some ((dK w at_ (cL w at_) (MD w at_ left u),()),()):=by
 obtain⟨a1,a2,a3,a4⟩:=a;unfold F128 KH yJ MD;cases ho:iu w u 6 with
 |none=>simp(disch:=omega)only[aY,bu,cH,lS hu.ref,ho,gJ,dK]<;>rfl
 |some o=>
  obtain⟨h1,h2,h3,h4,h5,h6⟩:=ee hw hu ho;dsimp only;by_cases h7:o.N=0
  .simp (disch:=omega)only[aY,bu,cH,lS hu.ref,ho,gJ,bL h7,dK]<;>rfl
  .by_cases h8:o.N=1
   .have hl:0<o.bZ.length:=by cases h2<;>first|(cases h1;done)|exact Nat.one_pos|exact absurd rfl h7|(dsimp only at h8;omega)
    simp(disch:=omega)only[aY,bu,cH,lS hu.ref,ho,gJ,bw h7,bw (show ¬o.N≠1 by omega),wL,Int.reduceEq,eO,dK]<;>rfl
   .simp (disch:=omega)only[aY,bu,cH,lS hu.ref,ho,gJ,bw h7,bL (show o.N≠1 by omega),dK]<;>rfl
def TU(a:At w at_)(hw:lf p w)(hv:1<vals.length)(hu:cO p w.bI.length (bQ vals 0)):F130 n (w,at_,left,22,vals,())=some ((dK w at_ (cL w at_) (Ls w at_ left (bQ vals 0) (bQ vals 1)),()),()):=by
 obtain⟨a1,a2,a3,a4⟩:=a;unfold F130 Gp Gn pL BH Ls;cases ho:iu w (bQ vals 0) 4 with
 |none=>simp(disch:=omega)only[aY,bu,cH,lS hu.ref,ho,gJ,dK]<;>rfl
 |some o=>
  obtain⟨h1,h2,h3,h4,h5,h6⟩:=ee hw hu ho;have hl:o.bZ.length<=4:=by cases h2<;>first|(cases h1;done)|assumption
  dsimp only;by_cases h7:4<=o.bZ.length
  .simp (disch:=omega)only[aY,bu,cH,lS hu.ref,ho,gJ,bL h7,dK]<;>rfl
  .simp (disch:=first|omega|simp only[lX];omega)only[aY,bu,cH,lS hu.ref,ho,gJ,bw h7,e74,Po,wL,Int.reduceEq,eO,dK]<;>rfl
def TT(a:At w at_)(hw:lf p w)(hv:0<vals.length)(hu:cO p w.bI.length (bQ vals 0)):F130 n (w,at_,left,23,vals,())=some ((dK w at_ (cL w at_) (Ll w at_ left (bQ vals 0)),()),()):=by
 obtain⟨a1,a2,a3,a4⟩:=a;unfold F130 Gp Gn pL BH Ll;cases ho:iu w (bQ vals 0) 4 with
 |none=>simp(disch:=omega)only[aY,bu,cH,lS hu.ref,ho,gJ,dK]<;>rfl
 |some o=>
  obtain⟨h1,h2,h3,h4,h5,h6⟩:=ee hw hu ho;dsimp only;cases hvs:o.bZ with|nil=>simp(disch:=omega)only[aY,bu,cH,lS hu.ref,ho,gJ,hvs,dK]<;>rfl|cons v vs=>simp(disch:=first|omega|simp only[lX];omega)only[aY,bu,cH,lS hu.ref,ho,gJ,hvs,qX,wL,Int.reduceEq,eO,dK]<;>rfl
def aa0(a:At w at_)(hw:lf p w)(h:nd.Op=25):F131 n (w,at_,left,nd,vals,())=some ((dK w at_ (cL w at_) (inS w at_ left),()),()):=by
 obtain⟨a1,a2,a3,a4⟩:=a;have hu:=hw.used;have hl:=hw.ins;unfold F131 KG BG BF BE yI inS;cases hi:w.CY with
 |nil=>simp(disch:=omega)only[aY,bu,cH,hi,dK]<;>rfl
 |cons i l=>
  dsimp only;rw[hi]at hl;simp only[fI]at hl;by_cases h2:1000000000<=w.Used
  .simp (disch:=first|omega|simp only[lX];omega)only[aY,bu,cH,hi,e25,if_pos h2,dK,nR]<;>rfl
  .simp (disch:=first|omega|simp only[lX];omega)only[aY,bu,cH,hi,e25,if_neg h2,qX,bW,wL,h,Int.reduceEq,eO,dK]<;>rfl
def Xp(a:At w at_)(hw:lf p w)(h:nd.Op=24)(hv:0<vals.length):F131 n (w,at_,left,nd,vals,())=some ((dK w at_ (cL w at_) (VK w at_ left nd.N (bQ vals 0)),()),()):=by
 obtain⟨a1,a2,a3,a4⟩:=a;have hl:=hw.outs;unfold F131 KG BG BF BE yI VK;by_cases h1:(bQ vals 0).Kind=1
 .by_cases h2:100<=w.nw.length
  .simp (disch:=omega)only[aY,bu,cH,bw (show ¬(bQ vals 0).Kind≠1 by omega),bL h2,dK]<;>rfl
  .simp (disch:=first|omega|simp only[lX];omega)only[aY,bu,cH,bw (show ¬(bQ vals 0).Kind≠1 by omega),bw h2,Po,wL,h,Int.reduceEq,eO,dK]<;>rfl
 .simp (disch:=omega)only[aY,bu,cH,bL h1,dK]<;>rfl
def apJ(a:At w at_)(hp:yV p)(hw:lf p w)(hu:cO p w.bI.length u):F127 n (p,w,at_,left,u,())=some ((dK w at_ (cL w at_) (DJ p w at_ left u),()),()):=by
 obtain⟨a1,a2,a3,a4⟩:=a;have hn:=Pc hp hw hu;have hl:=hw.len;have ht:=hw.tl;unfold F127 Gq Gr Qj Gs BI vL KI Gt Qk DJ;cases ho:iu w u 5 with
 |some o=>
  dsimp only;by_cases h7:120<=w.bI.length
  .simp (disch:=omega)only[aY,bu,cH,lS hu.ref,ho,gJ,Po,bG,wL,bL h7,fR,dK]<;>rfl
  .simp (disch:=first|omega|simp only[lX];omega)only[aY,bu,cH,lS hu.ref,ho,gJ,Po,bG,J9,AH,ek,wL,bw h7,Int.reduceEq,eO,ju,fH,fJ,Om,dK]<;>rfl
 |none=>
  dsimp only;cases hb:jh p w u ff with
  |none=>simp(disch:=first|omega|simp only[lX];omega)only[aY,bu,cH,lS hu.ref,ho,gJ,Po,TS hu.code hu.ref hn,hb,Zd,dK]<;>rfl
  |some b=>
   dsimp only;by_cases h8:b.Env.length<=30
   .rw[bw (by omega)];by_cases h7:120<=w.bI.length
    .simp (disch:=omega)only[aY,bu,cH,lS hu.ref,ho,gJ,Po,TS hu.code hu.ref hn,hb,Zd,bG,wL,bL h7,fR,dK]<;>rfl
    .simp (disch:=first|omega|simp only[lX];omega)only[aY,bu,cH,lS hu.ref,ho,gJ,Po,TS hu.code hu.ref hn,hb,Zd,bG,J9,AH,ek,wL,bw h7,Int.reduceEq,eO,ju,fH,fJ,Om,dK]<;>rfl
   .rw[bL (by omega)];simp(disch:=first|omega|simp only[lX];omega)only[aY,bu,cH,lS hu.ref,ho,gJ,Po,TS hu.code hu.ref hn,hb,Zd,dK]<;>rfl
def apK{tY:Int}{env:List au}(a:At w at_)(hw:lf p w)(hl:left.length<40)(hf:∀g∈left,0<=g.Node∧g.Node<p.aW.length)(he:env.length<=900):Ev (λn=>F125 n (p,w,at_,left,tY,env,())) ((dK w at_ (cL w at_) (DM p w left tY env),()),()):=by
 have hlen:=hw.len;have a':=a;obtain⟨a1,a2,a3,a4⟩:=a;have e0:D.dN .i64 (aq left) 1=(left.length:Int)-1:=ek (by simp only[aq];omega) (by simp only[aq];omega);unfold F125 Ql KJ yL DM;simp only[e0];have hs:=λ(R B P:Type)=>@xI p left hf hl R B P _ (λn c=>rfl) left.length (bT _) (λj hj hmj=>by omega);cases hi:hY (λf:ax=>(nodeAt p f.Node).Op==26) left with
 |none=>simp only[hi]at hs;refine Ev.aU (F:=λn c=>_) (hs _ _ _) (λn c=>_) _ (Ev.of_eq λn=>?_);show TL.aj _ _ _=_;simp(disch:=omega)only[aY,cH,dK]<;>rfl
 |some k=>
  have hkl:=xX hi;simp only[hi]at hs;refine Ev.aU (F:=λn c=>_) (hs _ _ _) (λn c=>_) _ (Ev.of_eq λn=>?_);show TL.aj _ _ _=_;dsimp only;have ht:(left.take (k+1)).length=k+1:=by rw[LG];omega
  have e1:((k:Int)+1).toNat=k+1:=by omega
  by_cases h1:120<=w.bI.length
  .simp (disch:=omega)only[aY,cH,bL h1,dK]<;>rfl
  .have a2':At (g8 w ⟨5,0,[],left.drop k⟩) at_:=⟨a1,a2,a3,by unfold g8;simp only[jg,qC];show cL w at_<_;omega⟩;have h76:=e76 (n:=n) (left:=left.take (k+1)) (node:=tY) (env:=env++[wv w.bI.length]) a2' (by omega) (by simp;omega);unfold g8 at h76;rw[bw h1];simp(disch:=first|omega|simp only[lX];omega)only[aY,cH,vV,r8,bW,e1,J9,ek,ju,fH,fJ,Om,e74,h76];unfold kS;by_cases h2:30<env.length+1
   .rw[bL (.inr (by simp only[jg,qC];omega)),bL (.inr (by simp only[jg,qC];omega))];simp only[aY,dK]<;>rfl
   .rw[bw (by rw[ht];simp only[jg,qC];omega),bw (by rw[ht];simp only[jg,qC];omega)];simp(disch:=omega)only[aY,dK]<;>rfl
end
end
end Mn
end
end
