/- hypercubelaw24.ConvTurns and hypercubelaw24.ConvSelf return true for all definitions, all terms and any fuel; the cards with an upper bound of the input's bulk. -/
import Derived.Test.YtfffkmcpnggkdaaGreatDoorX5
import Derived.KernelRfl
import Derived.Test.YtfffkmcpnggkdaaGreatDoorChecked
import Derived.Test.YtfffkmcpnggkdaaGreatDoorRows
import Derived.JoinedOf
open Bool renaming and_eq_true→ql,not_false→sV,not_true→va
open ByteArray renaming empty→po
open Eq renaming trans→pr
open Go.IntKind renaming wrap→ou
open List renaming all_eq_true→xq,append_nil→xK,getElem?_eq_getElem→zm,getElem?_eq_some_iff→De,length→EO,length_cons→uA,length_eq_zero_iff→Ix,map_cons→FA,mem_append→xA,mem_cons→xt,mem_flatMap→Ib,mem_map→vh,nil_append→zi
open Nat renaming le_refl→bu,le_trans→xJ,mul_le_mul_right→HZ
open Option renaming bind→oe,bind_some→qm
set_option linter.unusedVariables false
set_option linter.unusedSimpArgs false
namespace Go.Proofs.YtfffkmcpnggkdaaGreatDoor
set_option maxRecDepth 100000
section
open Go PI
variable {S:Type} {k:Nat}
theorem dt {n:Nat}: ∀ {l:LB},(∀x∈l,∃t,x.c=[t]/\pw t/\am t<=n/\aq x.f/\x.f.length<1073741824)->ba l/\aO l<=n+2:=by
 intro l
 induction l with
 |nil=>grind [ba,aO]
 |cons x l q=>
  intro h
  obtain ⟨h1,h2⟩:=q fun y z=>h y (by simp [z])
  obtain ⟨t,A,q2,B,E,F⟩:=h x (by simp)
  obtain ⟨f,I⟩:=x
  grind [ba,Fa,aZ,aO,Ej,aH]
theorem aA7 {a1:Tm} (A:pw a1) {q:Br Tm×Tm} (B:pw q.2) (E:pw (k1 q.1)) (hf:aq q.1.f/\q.1.f.length<1073741824) (c:Int):
  ∃t,(M1 a1 c q).1.c=[t]/\pw t/\am t<=299/\aq (M1 a1 c q).1.f/\(M1 a1 c q).1.f.length<1073741824:=by
 have fx:=Fy (c:=c) (a:=0) (b:=1) (by omega) (by omega) B
 have fl:=Fy (c:=(mM c (wA 0 1 q.2)).2) (a:=0) (b:=1) (by omega) (by omega) A
 have F:=Fy (c:=(mM (mM c (wA 0 1 q.2)).2 (wA 0 1 a1)).2) (a:=0) (b:=1) (by omega) (by omega) E
 have x:=Ml (kd:=10) (by omega) fx.sm (by omega)
 have I:=Ml (kd:=9) (by omega) fx.sm (by omega)
 have z:=Ml (kd:=9) (by omega) F.sm (by omega)
 have J:=IK (kd:=6) (by omega) (d:=201) z I (by omega)
 have:=azY (MG (a:=1) (b:=0) (by omega) (by omega)) (d:=202) ⟨x.1,by omega⟩ ⟨fl.sm.1,by have:=fl.sm.2;omega⟩ ⟨J.1,by omega⟩ (by omega)
 exact ⟨_,rfl,this.1.ok,by omega,hf.1,hf.2⟩
theorem pj (a b:Int) (c:BA) (d:LC) (e:LT) (f:LB):(Tm.mk a b c d e f).k=a/\(Tm.mk a b c d e f).n=b/\(Tm.mk a b c d e f).name=c/\(Tm.mk a b c d e f).r=d/\(Tm.mk a b c d e f).c=e/\(Tm.mk a b c d e f).s=f:=⟨rfl,rfl,rfl,rfl,rfl,rfl⟩
theorem aIe (hk:F3 k) {t:Tm} (T:In k t) (I:Tm×Bool×Int->OS S):b6 k t I=I (ib t):=by
 have a8:4294968296<=k:=hk
 simp only [b6,az9,ag hk.fu,ar,An T.1 T.2.1 T.dep]
 unfold ib
 by_cases h0:bw t=0
 case neg=>rw [dj h0,sV,ae,if_pos h0];rfl
 rw [h0,show (!((0:Int)==0))=false from rfl,n3,if_neg (by simp)]
 have ft:Fm t:=⟨T.1,h0⟩
 by_cases E:t.k=14
 case neg=>rw [beq_false_of_ne E,sV,ae,if_neg (fun h=>E h.1)];rfl
 rw [E,show (!((14:Int)==14))=false from rfl,n3]
 obtain ⟨g,a,ad⟩:=I8 (E5 ft E (n:=2) rfl)
 obtain ⟨g0,g1⟩:=KQ ad
 obtain ⟨d0,d1⟩:=EC ad
 have fg:Fm g:=ft.bV (by grind)
 have fa:Fm a:=ft.bV (by grind)
 have hp:=ft.r14 E
 rw [g0,qm,d0,d1]
 by_cases A:g.k=16
 case neg=>rw [beq_false_of_ne A,sV,ae,if_neg (fun h=>A h.2)];rfl
 rw [A,show (!((16:Int)==16))=false from rfl,n3,vU t T.1 _ T.2.1,if_pos ⟨rfl,rfl⟩]
 simp only [g0,g1,qm]
 generalize a7:t.r=ot at hp
 obtain ⟨x1,x2,x3,x4,x5,x6⟩:=a
 simp only [pj x1 x2 x3 x4 x5 x6]
 rw [aH1 hk fg A fa hp]
 unfold m'
 dsimp only
 obtain ⟨J,sB,lB⟩:=aAK hk fg A fa hp
 generalize SF g ot (Tm.mk x1 x2 x3 x4 x5 x6)=B at J sB lB ⊢
 obtain ⟨st,⟨y1,y2,y3,y4,y5,y6⟩,c0⟩:=B
 dsimp only at J sB lB ⊢
 simp only [pj y1 y2 y3 y4 y5 y6]
 rw [vZ hk (fun _=>fg.isIn hk)]
 have gG:GN (mM c0 (xk 0 [⟨0,0⟩] g)).1:=p1 fg A Qz (aBA (by decide))
 generalize mM c0 (xk 0 [⟨0,0⟩] g)=G at gG ⊢
 obtain ⟨f1,Y,lG,ao⟩:=aBc gG
 have i1:=J.sm.1.isIn hk (by omega)
 have main: ∀ {z1 z2:Int} {z3:BA} {z4:LC} {z5:LT} {z6:LB},Tm.mk z1 z2 z3 z4 z5 z6=Il G.1.c->
   (mh k G.1.s G.2 ot x1 x2 x3 x4 x5 x6 st y1 y2 y3 y4 y5 y6 z1 z2 z3 z4 z5 z6 fun ax=>kv k ax.2 ot x1 x2 x3 x4 x5 x6 st y1 y2 y3 y4 y5 y6 z1 z2 z3 z4 z5 z6 fun az=>RE k I t (c0,st,y1,y2,y3,y4,y5,y6) (Tm.mk x1 x2 x3 x4 x5 x6) G k az.2 z1 z2 z3 z4 z5 z6 [] 0 ax.1 az.1)=
    (fun q:Tm×Int=>I ((dM q.2 q.1).1,(dM q.2 q.1).2==0,(dM q.2 q.1).2)) (.mk 17 0 po [] [.mk 15 0 po [] [Il G.1.c,Tm.mk y1 y2 y3 y4 y5 y6] ((EG ot (fun c=>mM c (wA 0 1 (Tm.mk y1 y2 y3 y4 y5 y6))) (wD (ky ot (Tm.mk x1 x2 x3 x4 x5 x6) (Tm.mk y1 y2 y3 y4 y5 y6) (Il G.1.c) st) G.2 G.1.s).2).1++(wD (M1 (Tm.mk y1 y2 y3 y4 y5 y6)) (EG ot (fun c=>mM c (wA 0 1 (Tm.mk y1 y2 y3 y4 y5 y6))) (wD (ky ot (Tm.mk x1 x2 x3 x4 x5 x6) (Tm.mk y1 y2 y3 y4 y5 y6) (Il G.1.c) st) G.2 G.1.s).2).2 (G.1.s.zip (wD (ky ot (Tm.mk x1 x2 x3 x4 x5 x6) (Tm.mk y1 y2 y3 y4 y5 y6) (Il G.1.c) st) G.2 G.1.s).1)).1)] ((G.1.s.zip (wD (ky ot (Tm.mk x1 x2 x3 x4 x5 x6) (Tm.mk y1 y2 y3 y4 y5 y6) (Il G.1.c) st) G.2 G.1.s).1).map u3),(wD (M1 (Tm.mk y1 y2 y3 y4 y5 y6)) (EG ot (fun c=>mM c (wA 0 1 (Tm.mk y1 y2 y3 y4 y5 y6))) (wD (ky ot (Tm.mk x1 x2 x3 x4 x5 x6) (Tm.mk y1 y2 y3 y4 y5 y6) (Il G.1.c) st) G.2 G.1.s).2).2 (G.1.s.zip (wD (ky ot (Tm.mk x1 x2 x3 x4 x5 x6) (Tm.mk y1 y2 y3 y4 y5 y6) (Il G.1.c) st) G.2 G.1.s).1)).2):=by
  intro z1 z2 z3 z4 z5 z6 hz
  rw [<-hz] at f1
  rw [aIO hk fa J f1 hp sB lB Y lG,<-hz]
  have L:=aDv (ot:=ot) (st:=st) (c:=G.2) hk fa J f1 hp sB lB Y
  have a6:(wD (ky ot (Tm.mk x1 x2 x3 x4 x5 x6) (Tm.mk y1 y2 y3 y4 y5 y6) (Tm.mk z1 z2 z3 z4 z5 z6) st) G.2 G.1.s).1.length=G.1.s.length:=No
  generalize wD (ky ot (Tm.mk x1 x2 x3 x4 x5 x6) (Tm.mk y1 y2 y3 y4 y5 y6) (Tm.mk z1 z2 z3 z4 z5 z6) st) G.2 G.1.s=ws at L a6 ⊢
  rw [aIL hk i1]
  have fU: ∀c,FN (mM c (wA 0 1 (Tm.mk y1 y2 y3 y4 y5 y6))).1:=fun c=>Fy (by omega) (by omega) J.sm.1.ok
  obtain ⟨w1,w2⟩:=e6 (F:=fun c=>mM c (wA 0 1 (Tm.mk y1 y2 y3 y4 y5 y6))) hp (n:=20000) (fun c=>⟨(fU c).sm.1,by have:=(fU c).sm.2;omega⟩) ws.2
  generalize EG ot (fun c=>mM c (wA 0 1 (Tm.mk y1 y2 y3 y4 y5 y6))) ws.2=W at w1 w2 ⊢
  have x: ∀q∈G.1.s.zip ws.1,q.1∈G.1.s/\q.2∈ws.1:=fun q M=>⟨(List.of_mem_zip M).1,(List.of_mem_zip M).2⟩
  have key:=aGR (z1:=z1) (z2:=z2) (z3:=z3) (z4:=z4) (z5:=z5) (z6:=z6) hk I (r3:=t) (x4:=Tm.mk x1 x2 x3 x4 x5 x6) (r6:=(c0,st,y1,y2,y3,y4,y5,y6)) (r8:=G) (a1:=Tm.mk y1 y2 y3 y4 y5 y6) rfl J.sm.1.ok i1 Y lG (ws:=ws.1) (fun w hw=>(L w hw).1.isIn hk (by omega)) a6
   (END:=fun pa sy c=>ly k (.mk 17 0 po [] [.mk 15 0 po [] [Tm.mk z1 z2 z3 z4 z5 z6,Tm.mk y1 y2 y3 y4 y5 y6] sy] pa) c fun O=>I (O.1,O.2.1,O.2.2.1)) (fun m c pa sy=>by
    have:=xy (l:=G.1.s) (p:=G.1.s) (by simp)
    simp only [RE,w3,this,n3,ag hk.fu,ar,JM])
   G.1.s [] ws.1 [] [] W.1 k W.2 rfl rfl rfl (by omega) rfl (by omega)
  refine pr ?_ (key.trans ?_)
  ·rfl
  rw [zi]
  dsimp only
  generalize hZ:wD (M1 (Tm.mk y1 y2 y3 y4 y5 y6)) W.2 (G.1.s.zip ws.1)=Z
  have zq: ∀y∈Z.1,∃t,y.c=[t]/\pw t/\am t<=299/\aq y.f/\y.f.length<1073741824:=by
   rw [<-hZ]
   exact SJ fun q M c=>aA7 J.sm.1.ok (L q.2 (x q M).2).1.ok (Y q.1 (x q M).1).2.2.1.ok (G9 (Y q.1 (x q M).1).2.2.2) c
  have zl:Z.1.length=(G.1.s.zip ws.1).length:=by grind [No]
  have pq: ∀y∈(G.1.s.zip ws.1).map u3,∃t,y.c=[t]/\pw t/\am t<=301/\aq y.f/\y.f.length<1073741824:=fun y hy=>by
   obtain ⟨q,M,rfl⟩:=vh.1 hy
   obtain ⟨h1,h2⟩:=L q.2 (x q M).2
   have r:=G9 (Y q.1 (x q M).1).2.2.2
   refine ⟨_,rfl, ?_, ?_,r.1,r.2⟩
   ·unfold dS;rw [pw,aZ,aZ,ba];exact ⟨⟨by unfold aG;omega,by unfold aG;omega,by decide,(fun c hc=>by cases hc),by simp,by simp,by simp⟩,⟨h1.ok,trivial⟩,trivial⟩
   grind [dS,am,aH,aO]
  obtain ⟨o1,o2⟩:=dt (l:=W.1++Z.1) (n:=299) fun y hy=>by
   rcases xA.1 hy with hy|hy
   ·obtain ⟨t,q1,q2,q3,q4,q5⟩:=w1 y hy;exact ⟨t,q1,q2.ok,q3,q4,q5⟩
   grind
  obtain ⟨o3,o4⟩:=dt pq
  have bc:(G.1.s.zip ws.1).length<=10000:=by grind
  have b1:=f1.sm;have b2:=J.sm
  refine azT hk ?_ ?_ _
  ·rw [pw,aZ,aZ,pw,aZ,aZ,aZ]
   exact ⟨⟨by unfold aG;omega,by unfold aG;omega,by decide,(fun c hc=>by cases hc),by simp,by simp,by grind⟩,⟨⟨⟨by unfold aG;omega,by unfold aG;omega,by decide,(fun c hc=>by cases hc),by simp,by simp,by grind⟩,⟨b1.1.ok,b2.1.ok,trivial⟩,o1⟩,trivial⟩,o3⟩
  grind [am,aH]
 rcases ao with ⟨e1,e2⟩|⟨e1,e2⟩
 ·have gk:af G.1.c 0=some (Il G.1.c):=by rw [e2];rfl
  rw [e1,show ((((1:Nat):Int))==1)=true from rfl,ae,gk,qm]
  generalize hz:Il G.1.c=z at main ⊢
  obtain ⟨z1,z2,z3,z4,z5,z6⟩:=z
  grind [pj]
 ·rw [e1,show ((((0:Nat):Int))==1)=false from rfl,n3]
  exact main e2.symm
theorem azt {t:Tm} (h:t.c.length=3): ∃a b c,t.c=[a,b,c]:=by
 match hk:t.c,h with
 |[a,b,c],_=>simp
def Mf (q:Tm×Int):Tm×Bool×Int:=((dM q.2 q.1).1,(dM q.2 q.1).2==0,(dM q.2 q.1).2)
def u9 (t:Tm):Tm×Bool×Int:=
 if bw t≠0 then (ov,false,bw t) else
 if t.k≠14 then (ov,false,0) else
 let l:=t.c.getD 0 ov
 let a:=t.c.getD 1 ov
 let k0:=l.c.getD 0 ov
 let k1:=l.c.getD 1 ov
 if l.k=3\/l.k=19 then Mf (a,0) else
 if l.k=4 then Mf (tPi t.r k0 k1 a) else
 if l.k=7 then Mf (az6 t.r k0 k1 a) else
 if l.k=11 then Mf (az4 t.r k0 k1 (l.c.getD 2 ov) a) else
 if l.k=23 then h_ t else
 if l.k=16 then ib t else (ov,false,0)
theorem aIE (E:F4 k) {t:Tm} (J:In k t) (I:Tm×Bool×Int->OS S):hz k t I=I (u9 t):=by
 have hk:=E.f3
 have a6:4294968296<=k:=hk
 simp only [hz,ag hk.fu,ar,An J.1 J.2.1 J.dep]
 unfold u9
 by_cases h0:bw t=0
 case neg=>rw [dj h0,sV,ae,if_pos h0];rfl
 rw [h0,show (!((0:Int)==0))=false from rfl,n3,if_neg (by simp)]
 have ft:Fm t:=⟨J.1,h0⟩
 by_cases z:t.k=14
 case neg=>rw [beq_false_of_ne z,sV,ae,if_pos z];rfl
 rw [z,show (!((14:Int)==14))=false from rfl,n3,if_neg (by simp)]
 obtain ⟨l,a,L⟩:=I8 (E5 ft z (n:=2) rfl)
 obtain ⟨g0,g1⟩:=KQ L
 obtain ⟨d0,d1⟩:=EC L
 have fl:Fm l:=ft.bV (by grind)
 have fa:Fm a:=ft.bV (by grind)
 have hp:=ft.r14 z
 rw [vU t J.1 _ J.2.1]
 simp only [g0,g1,qm,d0,d1]
 have M:=fun {x:Tm} {c:Int} (hx:In k x) (g:Tm×Bool×Int->OS S)=>Ry hk (c:=c) hx (fun r=>g (r.1,r.2.1,r.2.2.1))
 generalize az:t.r=ot at hp
 obtain ⟨x1,x2,x3,x4,x5,x6⟩:=a
 simp only [pj x1 x2 x3 x4 x5 x6]
 by_cases h3:l.k=3
 ·rw [h3,show ((3:Int)==3)=true from rfl,ae,if_pos (.inl rfl),M (fa.isIn hk)];rfl
 rw [beq_false_of_ne h3,n3]
 by_cases F:l.k=19
 ·rw [F,show ((19:Int)==19)=true from rfl,ae,if_pos (.inr rfl),M (fa.isIn hk)];rfl
 rw [beq_false_of_ne F,n3,if_neg (fun h=>h.elim h3 F)]
 by_cases h4:l.k=4
 ·obtain ⟨k0,ax,hb⟩:=I8 (E5 fl h4 (n:=2) rfl)
  obtain ⟨O,T⟩:=EC hb
  rw [h4,show ((4:Int)==4)=true from rfl,ae,if_pos rfl,O,T]
  obtain ⟨ks,c,W,q2,Y⟩:=aDg (ot:=ot) E hb (fl.bV (by grind)) (fl.bV (by grind)) fa hp (fun q=>ly k (Tm.mk q.1 q.2.1 q.2.2.1 [] q.2.2.2.1 []) q.2.2.2.2 fun A=>I (A.1,A.2.1,A.2.2.1))
  rw [W,<-q2]
  exact M Y I
 rw [beq_false_of_ne h4,n3,if_neg h4]
 by_cases h7:l.k=7
 ·obtain ⟨k0,ax,hb⟩:=I8 (E5 fl h7 (n:=2) rfl)
  obtain ⟨O,T⟩:=EC hb
  rw [h7,show ((7:Int)==7)=true from rfl,ae,if_pos rfl,O,T]
  obtain ⟨ks,c,W,q2,Y⟩:=aDi (ot:=ot) E hb (fl.bV (by grind)) (fl.bV (by grind)) fa hp (fun q=>ly k (Tm.mk q.1 q.2.1 q.2.2.1 [] q.2.2.2.1 []) q.2.2.2.2 fun A=>I (A.1,A.2.1,A.2.2.1))
  rw [W,<-q2]
  exact M Y I
 rw [beq_false_of_ne h7,n3,if_neg h7]
 by_cases B:l.k=11
 ·obtain ⟨k0,kl,kr,hb⟩:=azt (E5 fl B (n:=3) rfl)
  have O:l.c.getD 0 ov=k0:=by grind
  have T:l.c.getD 1 ov=kl:=by grind
  have e2:l.c.getD 2 ov=kr:=by simp_all
  rw [B,show ((11:Int)==11)=true from rfl,ae,if_pos rfl,O,T,e2]
  obtain ⟨ks,c,W,q2,Y⟩:=aDf (ot:=ot) hk hb (fl.bV (by grind)) (fl.bV (by grind)) (fl.bV (by grind)) fa hp (fun q=>ly k (Tm.mk q.1 q.2.1 q.2.2.1 [] q.2.2.2.1 []) q.2.2.2.2 fun A=>I (A.1,A.2.1,A.2.2.1))
  rw [W,<-q2]
  exact M Y I
 rw [beq_false_of_ne B,n3,if_neg B]
 by_cases ad:l.k=23
 ·grind [ae,ap_]
 rw [beq_false_of_ne ad,n3,if_neg ad]
 by_cases ao:l.k=16
 ·grind [ae,aIe]
 rw [beq_false_of_ne ao,n3,if_neg ao]
 rfl
def Rz (f:LC):Bool:=decide (f=[⟨0,0⟩])
def SD (l:LB):Option (Br Tm):=l.find? fun b=>Rz b.f
def MA (r:LC):Int:=if r.length=0 then 0 else if Rz r then 1 else-1
theorem aCz {f:LC} (h:f.length≠1):Rz f=false:=by
 grind [Rz]
theorem aCA (c:Cl):Rz [c]=((c.pos==0)&&((c.neg==0)&&true)):=by
 unfold Rz
 obtain ⟨p,n⟩:=c
 grind
theorem azS (r:LC) (I:Int->OS S):aW k r I=I (MA r):=by
 simp only [aW]
 unfold MA
 match r with
 |[]=>rfl
 |[c]=>
  rw [show ((([c]:LC).length:Int)==0)=false from rfl,n3,show ((([c]:LC).length:Int)==1)=true from rfl,ae,show af [c] 0=some c from rfl,qm,<-aCA,if_neg (by simp)]
  cases Rz [c]<;>rfl
 |c::d::r=>
  rw [beq_false_of_ne (by grind),n3,beq_false_of_ne (by grind),n3,if_neg (by simp),aCz (by simp)]
  rfl
theorem aIG (b:Br Tm) (I:Bool->OS S):cW k b I=I (Rz b.f):=by
 simp only [cW]
 match h:b.f with
 |[]=>rfl
 |[c]=>simp_all [ae,af,aCA]
 |c::d::r=>rw [beq_false_of_ne (by grind),n3,aCz (by simp)]
theorem aGY (hk:Fu k) (I:Int->OS S) {l:LB} (hl:l.length<4611686018427387904):
  ∀ (r p:LB) (m:Nat),l=p++r->r.length<m-> ∃i,N2 k I l m (p.length:Int)=I i/\(i<0/\SD r=none\/0<=i/\ ∃b,af l i=some b/\SD r=some b):=by
 intro r
 induction r with
 |nil=>
  intro p m h q
  obtain ⟨m,rfl,z⟩:=pz q
  refine ⟨-1, ?_,.inl ⟨by omega,rfl⟩⟩
  grind [N2,cm,n3]
 |cons x r A=>
  intro p m h q
  obtain ⟨m,rfl,z⟩:=pz q
  obtain ⟨B,E,F,J⟩:=qI h (by omega)
  grind [N2,cm,ae,aIG,ag,SD,n3]
theorem aIH (hk:F3 k) {l:LB} (hl:l.length<=20000) (I:Int->OS S): ∃i,cS k l I=I i/\(i<0/\SD l=none\/0<=i/\ ∃b,af l i=some b/\SD l=some b):=by
 have q:4294968296<=k:=hk
 obtain ⟨i,h1,h2⟩:=aGY hk.fu (fun r1=>I r1) (l:=l) (by omega) l [] k rfl (by omega)
 grind [cS,cP,aAn,ag]
theorem Fm.parts {t:Tm} (h:Fm t): ∀b∈t.s,(b.c.length:Int)=xX t.k:=fun b hb=>by
 have ho:=h.own
 obtain ⟨kd,n,nm,r,q,sys⟩:=t
 have hb:b∈sys:=hb
 by_cases hp:xX kd=0
 ·have:sys.length=0:=by
   have ho:((_&&(_&&(_&&decide (xX kd=0->sys.length=0))))&&_)=true:=ho
   grind
  grind
 ·have hk:kd=16\/kd=15\/kd=17\/kd=18:=by
   grind [xX]
  have key:sys.all (bX kd 24)=true:=by
   rcases hk with rfl|rfl|rfl|rfl
   ·have ho:(_&&(sys.all (bX 16 24)&&_))=true:=ho
    grind
   ·have ho:(_&&(sys.all (bX 15 24)&&_))=true:=ho
    grind
   ·have ho:(_&&(sys.all (bX 17 24)&&_))=true:=ho
    grind
   ·have ho:(_&&(sys.all (bX 18 24)&&_))=true:=ho
    grind
  have:=xq.1 key b hb
  unfold bX at this
  simp only [ql,decide_eq_true_eq] at this
  exact this.1
theorem aDq {l:LB} {b:Br Tm} (h:SD l=some b):b∈l:=List.mem_of_find?_eq_some h
def H9 (t:Tm):Tm×Bool×Int:=match SD t.s with
 |none=>(ov,false,0)
 |some b=>if t.k=15 then ((tE (xk 0 [⟨0,0⟩] (AK b))).1,true,(tE (xk 0 [⟨0,0⟩] (AK b))).2)
  else if t.k=18 then (dS 6 [dS 9 [AK b],t.c.getD 0 ov],true,0)
  else if t.k=16\/t.k=17 then (AK b,true,0) else (ov,false,0)
theorem aH0 (hk:F3 k) {t:Tm} (ft:Fm t) (I:Tm×Bool×Int->OS S):aJ k t 0 I=I (H9 t):=by
 have hz:=ft.dP
 have hl:t.s.length<=20000:=by
  have: ∀ {l:LB},(∀b∈l,(b.c.length:Int)=xX t.k)->l≠[]->xX t.k≠0->l.length<=aI l:=by
   intro l
   induction l with
   |nil=>simp
   |cons b l ih=>
    intro hb _ hp
    have h1:=hb b (by simp)
    have h2:1<=ay b.c:=by
     cases hk:b.c<;>grind [ay,mB]
    obtain ⟨f,F⟩:=b
    have h2:1<=ay F:=h2
    rw [aI,Ft,uA]
    by_cases hn:l=[]<;>grind
  by_cases hn:t.s=[]
  ·grind
  ·have hp:xX t.k≠0:=by
    intro O
    cases hs:t.s with
    |nil=>simp_all
    |cons b l=>
     have ho:=ft.own
     obtain ⟨kd,n,nm,r,F,sys⟩:=t
     have ho:((_&&(_&&(_&&decide (xX kd=0->sys.length=0))))&&_)=true:=ho
     simp only [ql,decide_eq_true_eq] at ho
     have:=ho.1.2.2.2 O
     have hs:sys=b::l:=hs
     grind
   have h1:=this ft.parts hn hp
   have h2:aI t.s+1<=au t:=by cases t<;>grind [au,Tm.s]
   omega
 obtain ⟨i,h1,h2⟩:=aIH hk hl (fun r1=>ab (decide ((r1:Int)<0)) (I (ov,false,0)) (oe (af t.s r1) fun x2=>ab (t.k==15) (oe (af x2.c 0) fun x3=>JI k x3 0 fun J=>I (J.1,true,J.2)) (ab (t.k==18) (oe (af x2.c 0) fun x5=>oe (af t.c 0) fun T=>I (dS 6 [dS 9 [x5],T],true,0)) (ab (t.k==16) (oe (af x2.c 0) fun W=>I (W,true,0)) (ab (t.k==17) (oe (af x2.c 0) fun A=>I (A,true,0)) (I (ov,false,0)))))))
 simp only [aJ,ag hk.fu,ar,zc]
 refine pr ?_ (h1.trans ?_)
 ·rfl
 unfold H9
 rcases h2 with ⟨h2,L⟩|⟨h2,b,L,M⟩
 ·grind [ae]
 ·rw [M,decide_eq_false (by omega),n3,L,qm]
  have hb:=aDq M
  have hp:=ft.parts b hb
  have fb:t.k=15\/t.k=16\/t.k=17\/t.k=18->af b.c 0=some (AK b)/\Fm (AK b):=fun B=>by
   have Y:xX t.k≠0:=by rcases B with h|h|h|h<;>rw [h]<;>decide
   cases hk:b.c with
   |nil=>grind
   |cons x r=>
    have e:AK b=x:=by grind [AK]
    rw [e]
    exact ⟨rfl,ft.brk hb (by grind)⟩
  dsimp only
  by_cases z:t.k=15
  ·obtain ⟨E,f0⟩:=fb (.inl z)
   rw [z,show ((15:Int)==15)=true from rfl,ae,if_pos rfl,E,qm,vZ hk (fun _=>f0.isIn hk)]
   rfl
  rw [beq_false_of_ne z,n3,if_neg z]
  by_cases q:t.k=18
  ·obtain ⟨E,f0⟩:=fb (.inr (.inr (.inr q)))
   obtain ⟨a,ha⟩: ∃a,t.c=[a]:=by
    have:=E5 ft q (n:=1) rfl
    match h:t.c,this with
    |[a],_=>simp
   rw [q,show ((18:Int)==18)=true from rfl,ae,if_pos rfl,E,qm,ha]
   rfl
  rw [beq_false_of_ne q,n3,if_neg q]
  by_cases ad:t.k=16<;>grind [ae,n3]
abbrev kd0 (t:Tm):Tm:=t.c.getD 0 ov
abbrev gx (t:Tm):Tm:=t.c.getD 1 ov
abbrev w6 (t:Tm):Tm:=t.c.getD 2 ov
abbrev sR (t:Tm):Tm:=t.c.getD 3 ov
abbrev rj (t:Tm):Tm:=t.c.getD 4 ov
theorem xG {t:Tm} {n i:Nat} (h:t.c.length=n) (q:i<n):af t.c (i:Int)=some (t.c.getD i ov)/\t.c.getD i ov∈t.c:=by
 grind [pU]
theorem aAY (r:LC):MA r= -1\/MA r=0\/MA r=1:=by
 grind [MA]
def q1 (t:Tm):Tm×Bool×Int:=
 if MA t.r=0 then (gx t,true,0) else if MA t.r=1 then (w6 t,true,0) else
 if (kd0 t).k=12 then ((tE (xk 0 t.r (kd0 (kd0 t)))).1,true,(tE (xk 0 t.r (kd0 (kd0 t)))).2) else (ov,false,0)
theorem Fm.r13 {t:Tm} (h:Fm t) (hk:t.k=13):RF t.r:=by
 have ho:=h.own
 obtain ⟨kd,n,nm,r,q,sys⟩:=t
 have hk:kd=13:=hk
 subst hk
 have ho:(_&&(xY r&&_))=true:=ho
 simp only [ql] at ho
 exact (Mb (h.ok.no.2.2.2.1)).1 ho.2.1
theorem aHX (hk:F3 k) {t:Tm} (ft:Fm t) (x:t.k=13) (I:Tm×Bool×Int->OS S):cA k t 0 I=I (q1 t):=by
 have hl:=E5 ft x (n:=3) rfl
 obtain ⟨g0,m0⟩:=xG hl (i:=0) (by omega)
 obtain ⟨g1,_⟩:=xG hl (i:=1) (by omega)
 obtain ⟨g2,_⟩:=xG hl (i:=2) (by omega)
 simp only [cA,ag hk.fu,ar,azS]
 unfold q1
 rcases aAY t.r with h|h|h
 ·rw [h,show decide ((-1:Int)>=0)=false from rfl,n3,if_neg (by decide),if_neg (by decide)]
  simp only [Int.natCast_zero] at g0
  rw [g0,qm]
  by_cases q:(kd0 t).k=12
  ·rw [q,show ((12:Int)==12)=true from rfl,ae,if_pos rfl,qm]
   have f0:=ft.bV m0
   have z:=E5 f0 q (n:=1) rfl
   obtain ⟨g,m⟩:=xG z (i:=0) (by omega)
   simp only [Int.natCast_zero] at g
   rw [g,qm,SS hk (fun _=>(f0.bV m).isIn hk) (ft.r13 x)]
   rfl
  ·rw [beq_false_of_ne q,n3,if_neg q];rfl
 ·rw [h,show decide ((0:Int)>=0)=true from rfl,ae,if_pos rfl]
  have:ou .i64 (1+0)=((1:Nat):Int):=rfl
  grind
 ·rw [h,show decide ((1:Int)>=0)=true from rfl,ae,if_neg (by decide),if_pos rfl]
  have:ou .i64 (1+1)=((2:Nat):Int):=rfl
  grind
def SG (t:Tm):Tm×Bool:=
 if MA t.r= -1 then (ov,false) else if t.k=21 then (dS 20 [],true) else if MA t.r=0 then (dS 24 [],true) else (dS 25 [],true)
theorem aC7 (hk:F3 k) (t:Tm) (I:Tm×Bool->OS S):bA k t I=I (SG t):=by
 simp only [bA,ag hk.fu,azS,zc]
 unfold SG
 rcases aAY t.r with h|h|h
 ·rw [h,show decide ((-1:Int)<0)=true from rfl,ae,if_pos rfl];rfl
 ·rw [h,show decide ((0:Int)<0)=false from rfl,n3,if_neg (by decide)]
  by_cases q:t.k=21
  ·rw [q,show ((21:Int)==21)=true from rfl,ae,if_pos rfl];rfl
  ·rw [beq_false_of_ne q,n3,if_neg q,show ((0:Int)==0)=true from rfl,ae,if_pos rfl];rfl
 ·rw [h,show decide ((1:Int)<0)=false from rfl,n3,if_neg (by decide)]
  by_cases q:t.k=21
  ·rw [q,show ((21:Int)==21)=true from rfl,ae,if_pos rfl];rfl
  ·rw [beq_false_of_ne q,n3,if_neg q,show ((1:Int)==0)=false from rfl,n3,if_neg (by decide)];rfl
def q0 (t:Tm):Tm×Bool:=
 if (sR t).k=20 then (gx t,true) else if (sR t).k=21 then (fG (sR t).r (w6 t) (gx t) (gx t),true) else (ov,false)
theorem aHW (hk:F3 k) {t:Tm} (ft:Fm t) (q:t.k=22) (I:Tm×Bool->OS S):q5 k t I=I (q0 t):=by
 have hl:=E5 ft q (n:=4) rfl
 obtain ⟨g1,_⟩:=xG hl (i:=1) (by omega)
 obtain ⟨g2,_⟩:=xG hl (i:=2) (by omega)
 obtain ⟨g3,_⟩:=xG hl (i:=3) (by omega)
 have g1:af t.c 1=some (gx t):=g1
 have g2:af t.c 2=some (w6 t):=g2
 have g3:af t.c 3=some (sR t):=g3
 simp only [q5,ag hk.fu,ar,g1,g2,g3,qm,tO]
 unfold q0
 by_cases h:(sR t).k=20
 ·grind [ae]
 rw [beq_false_of_ne h,n3,if_neg h]
 by_cases h:(sR t).k=21
 ·grind [ae]
 rw [beq_false_of_ne h,n3,if_neg h];rfl
def Lo (t:Tm):Tm×Bool:=
 if (rj t).k=24 then (gx t,true) else if (rj t).k=25 then (w6 t,true) else
 if (rj t).k=26 then (fG (rj t).r (dS 6 [sR t,kd0 (rj t)]) (gx t) (w6 t),true) else (ov,false)
theorem aHZ (hk:F3 k) {t:Tm} (ft:Fm t) (q:t.k=27) (I:Tm×Bool->OS S):Ig k t I=I (Lo t):=by
 have hl:=E5 ft q (n:=5) rfl
 obtain ⟨g1,_⟩:=xG hl (i:=1) (by omega)
 obtain ⟨g2,_⟩:=xG hl (i:=2) (by omega)
 obtain ⟨g3,_⟩:=xG hl (i:=3) (by omega)
 obtain ⟨g4,m4⟩:=xG hl (i:=4) (by omega)
 have g1:af t.c 1=some (gx t):=g1
 have g2:af t.c 2=some (w6 t):=g2
 have g3:af t.c 3=some (sR t):=g3
 have g4:af t.c 4=some (rj t):=g4
 simp only [Ig,ag hk.fu,ar,g1,g2,g3,g4,qm,tO,zc]
 unfold Lo
 by_cases h:(rj t).k=24
 ·grind [ae]
 rw [beq_false_of_ne h,n3,if_neg h]
 by_cases h:(rj t).k=25
 ·grind [ae]
 rw [beq_false_of_ne h,n3,if_neg h]
 by_cases h:(rj t).k=26
 ·have x:=E5 (ft.bV m4) h (n:=1) rfl
  obtain ⟨g,_⟩:=xG x (i:=0) (by omega)
  have g:af (rj t).c 0=some (kd0 (rj t)):=g
  rw [h,show ((26:Int)==26)=true from rfl,ae,if_pos rfl,g,qm];rfl
 rw [beq_false_of_ne h,n3,if_neg h];rfl
def Nv (t:Tm):Tm×Bool×Int:=
 if t.k=6 then (if (kd0 t).k=5 then ((tE (ri 0 (kd0 (kd0 t)) (gx t))).1,true,(tE (ri 0 (kd0 (kd0 t)) (gx t))).2) else H9 t) else
 if t.k=9 then (if (kd0 t).k=8 then (kd0 (kd0 t),true,0) else H9 t) else
 if t.k=10 then (if (kd0 t).k=8 then (gx (kd0 t),true,0) else H9 t) else
 if t.k=13 then q1 t else
 if t.k=21 then ((SG t).1,(SG t).2,0) else
 if t.k=26 then ((SG t).1,(SG t).2,0) else
 if t.k=22 then ((q0 t).1,(q0 t).2,0) else
 if t.k=27 then ((Lo t).1,(Lo t).2,0) else
 if t.k=28 then (kd0 t,true,0) else
 if t.k=14 then (gx t,MA t.r==1,0) else
 if t.k=18 then (if (H9 t).2.1=true then ((H9 t).1,true,(H9 t).2.2) else if (kd0 t).k=17 then (kd0 (kd0 t),true,(H9 t).2.2) else H9 t) else H9 t
theorem aEW {t:Tm} (h:t.k=18):(H9 t).2.2=0:=by
 grind [H9]
theorem aHY (F:F4 k) {t:Tm} (ft:Fm t) (I:Tm×Bool×Int->OS S):cD k t 0 I=I (Nv t):=by
 have hk:=F.f3
 have ad: ∀g:Tm×Bool×Int->OS S,aJ k t 0 g=g (H9 t):=fun g=>aH0 hk ft g
 simp only [cD,ag hk.fu,ar,ad]
 unfold Nv
 by_cases J:t.k=6
 ·have hl:=E5 ft J (n:=2) rfl
  obtain ⟨g0,m0⟩:=xG hl (i:=0) (by omega)
  obtain ⟨g1,m1⟩:=xG hl (i:=1) (by omega)
  have g0:af t.c 0=some (kd0 t):=g0
  have g1:af t.c 1=some (gx t):=g1
  rw [if_pos J,J,show ((6:Int)==6)=true from rfl,ae,g0,qm]
  by_cases h5:(kd0 t).k=5
  ·have q:=E5 (ft.bV m0) h5 (n:=1) rfl
   obtain ⟨g,m⟩:=xG q (i:=0) (by omega)
   have g:af (kd0 t).c 0=some (kd0 (kd0 t)):=g
   rw [if_pos h5,h5,show ((5:Int)==5)=true from rfl,ae,qm,g,qm,g1,qm,Hf F (fun _=>⟨((ft.bV m0).bV m).isIn hk,(ft.bV m1).isIn hk⟩)]
   rfl
  grind [n3]
 rw [if_neg J,beq_false_of_ne J,n3]
 by_cases L:t.k=9
 ·have hl:=E5 ft L (n:=1) rfl
  obtain ⟨g0,m0⟩:=xG hl (i:=0) (by omega)
  have g0:af t.c 0=some (kd0 t):=g0
  rw [if_pos L,L,show ((9:Int)==9)=true from rfl,ae,g0,qm]
  by_cases A:(kd0 t).k=8
  ·have q:=E5 (ft.bV m0) A (n:=2) rfl
   obtain ⟨g,_⟩:=xG q (i:=0) (by omega)
   have g:af (kd0 t).c 0=some (kd0 (kd0 t)):=g
   rw [if_pos A,A,show ((8:Int)==8)=true from rfl,ae,qm,show ou .i64 ((9:Int)-9)=0 from rfl,g,qm]
  grind [n3]
 rw [if_neg L,beq_false_of_ne L,n3]
 by_cases x:t.k=10
 ·have hl:=E5 ft x (n:=1) rfl
  obtain ⟨g0,m0⟩:=xG hl (i:=0) (by omega)
  have g0:af t.c 0=some (kd0 t):=g0
  rw [if_pos x,x,show ((10:Int)==10)=true from rfl,ae,g0,qm]
  by_cases A:(kd0 t).k=8
  ·have q:=E5 (ft.bV m0) A (n:=2) rfl
   obtain ⟨g,_⟩:=xG q (i:=1) (by omega)
   have g:af (kd0 t).c 1=some (gx (kd0 t)):=g
   rw [if_pos A,A,show ((8:Int)==8)=true from rfl,ae,qm,show ou .i64 ((10:Int)-9)=1 from rfl,g,qm]
  grind [n3]
 rw [if_neg x,beq_false_of_ne x,n3]
 by_cases M:t.k=13
 ·grind [ae,aHX]
 rw [if_neg M,beq_false_of_ne M,n3]
 by_cases O:t.k=21
 ·grind [ae,aC7]
 rw [if_neg O,beq_false_of_ne O,n3]
 by_cases T:t.k=26
 ·grind [ae,aC7]
 rw [if_neg T,beq_false_of_ne T,n3]
 by_cases W:t.k=22
 ·grind [ae,aHW]
 rw [if_neg W,beq_false_of_ne W,n3]
 by_cases Y:t.k=27
 ·grind [ae,aHZ]
 rw [if_neg Y,beq_false_of_ne Y,n3]
 by_cases B:t.k=28
 ·have hl:=E5 ft B (n:=2) rfl
  grind [af,ae]
 rw [if_neg B,beq_false_of_ne B,n3]
 by_cases E:t.k=14
 ·have hl:=E5 ft E (n:=2) rfl
  grind [af,ae,azS]
 rw [if_neg E,beq_false_of_ne E,n3]
 by_cases z:t.k=18
 ·have hl:=E5 ft z (n:=1) rfl
  obtain ⟨g0,m0⟩:=xG hl (i:=0) (by omega)
  have g0:af t.c 0=some (kd0 t):=g0
  rw [if_pos z,z,show ((18:Int)==18)=true from rfl,ae,aEW z]
  by_cases hb:(H9 t).2.1=true
  ·grind [ae]
  ·have ao:(H9 t).2.1=false:=by grind
   rw [if_neg hb,ao,n3,g0,qm]
   by_cases ax:(kd0 t).k=17
   ·have q:=E5 (ft.bV m0) ax (n:=1) rfl
    grind [af,ae]
   grind [n3]
 grind [n3]
def Ob (x:Tm):Prop:=pw x/\am x<=300
theorem Fm.ob {x:Tm} (h:Fm x):Ob x:=⟨h.ok,by have:=h.dep;omega⟩
theorem Q2.ob {x:Tm} (h:Q2 x):Ob x:=⟨h.1.ok,by have:=h.2;omega⟩
theorem RD:Ob ov:=KW.ob
theorem azs {t:Tm} (ft:Fm t) (i:Nat):FN (t.c.getD i ov):=by
 by_cases h:i<t.c.length
 ·exact .inl (ft.bV (xG (t:=t) rfl h).2)
 ·rw [List.getD_eq_getElem?_getD,List.getElem?_eq_none (by omega)];exact .inr rfl
theorem FN.ob {x:Tm} (h:FN x):Ob x:=h.elim Fm.ob fun e=>by rw [e];exact RD
theorem aGG {t:Tm} (ft:FN t) (i:Nat):FN (t.c.getD i ov):=by
 rcases ft with h|h
 ·exact azs h i
 ·rw [h];exact .inr (by rfl)
theorem az3 {x:Except Int Tm} (h: ∀t,x= .ok t->Q2 t):Ob (tE x).1:=by
 cases x with
 |error e=>exact RD
 |ok t=>exact (h t rfl).ob
theorem azo (n:Int) (h:0<=n/\n<=28):Ob (dS n []):=by
 unfold dS
 refine ⟨?_, ?_⟩
 ·rw [pw,aZ,ba];exact ⟨⟨by unfold aG;omega,by unfold aG;omega,by decide,(fun c hc=>by cases hc),by simp,by simp,by simp⟩,trivial,trivial⟩
 grind [am,aH,aO]
theorem aEX {t:Tm} (ft:Fm t):Ob (H9 t).1:=by
 unfold H9
 split
 ·exact RD
 rename_i b hb
 have q:=aDq hb
 have fb:FN (AK b):=by
  unfold AK
  cases hk:b.c with
  |nil=>exact .inr rfl
  |cons x r=>exact .inl (ft.brk q (by grind))
 split
 ·exact az3 fun t h=>Sq fb.sm.1.ok h
 split
 ·have z:=Ml (kd:=9) (by omega) fb.sm (by omega)
  have A:=(azs ft 0).sm
  have:=IK (kd:=6) (by omega) (d:=201) z ⟨A.1,by omega⟩ (by omega)
  exact ⟨this.1.ok,xJ this.2 (by omega)⟩
 split
 ·exact fb.ob
 ·exact RD
theorem aCC {r:LC} (B:aq r/\r.length<1073741824) {x y z:Tm} {n:Nat} (E:Sm n x/\am x<=201) (q:FN y) (A:FN z):Ob (fG r x y z):=by
 have:=azY B (d:=201) E ⟨q.sm.1,by have:=q.sm.2;omega⟩ ⟨A.sm.1,by have:=A.sm.2;omega⟩ (by omega)
 exact ⟨this.1.ok,by omega⟩
theorem aA9 {x:Tm} (h:FN x):aq x.r/\x.r.length<1073741824:=⟨h.sm.1.ok.no.2.2.2.1,h.sm.1.ok.no.2.2.2.2.1⟩
theorem HV {c:Prop} [Decidable c] {a b:Tm×Bool×Int} (ha:Ob a.1) (hb:Ob b.1):Ob (if c then a else b).1:=by
 grind
theorem RG {c:Prop} [Decidable c] {a b:Tm×Bool} (ha:Ob a.1) (hb:Ob b.1):Ob (if c then a else b).1:=by
 grind
theorem aAJ {t:Tm} (ft:Fm t):Ob (Nv t).1:=by
 have q:=aEX ft
 have c:=azs ft
 have cc:=fun i j=>aGG (c i) j
 have z:Ob (q1 t).1:=HV (c 1).ob (HV (c 2).ob (HV (az3 fun y h=>Sq (cc 0 0).sm.1.ok h) RD))
 have x:Ob (SG t).1:=RG RD (RG (azo 20 (by omega)) (RG (azo 24 (by omega)) (azo 25 (by omega))))
 have A:Ob (q0 t).1:=RG (c 1).ob (RG (aCC (aA9 (c 3)) ⟨(c 2).sm.1,xJ (c 2).sm.2 (by omega)⟩ (c 1) (c 1)) RD)
 have B:Ob (Lo t).1:=RG (c 1).ob (RG (c 2).ob (RG (aCC (aA9 (c 4)) (IK (kd:=6) (by omega) (c 3).sm (cc 4 0).sm (by omega)) (c 1) (c 2)) RD))
 unfold Nv
 exact HV (HV (az3 fun y h=>azK (cc 0 0).sm.1.ok (c 1).sm.1.ok h) q) (HV (HV (cc 0 0).ob q) (HV (HV (cc 0 1).ob q) (HV z (HV x (HV x (HV A (HV B (HV (c 0).ob (HV (c 1).ob (HV (HV q (HV (cc 0 0).ob q)) q))))))))))
def jc (t:Tm):Tm×Bool×Int:=
 if bw t≠0 then (ov,false,bw t) else
 if (Nv t).2.1=true then Mf ((Nv t).1,(Nv t).2.2) else (ov,false,0)
theorem aH3 (x:F4 k) {t:Tm} (q:In k t) (I:Tm×Bool×Int->OS S):eg k t I=I (jc t):=by
 have hk:=x.f3
 simp only [eg,ag hk.fu,ar,An q.1 q.2.1 q.dep]
 unfold jc
 by_cases z:bw t=0
 case neg=>rw [dj z,sV,ae,if_pos z];rfl
 rw [z,show (!((0:Int)==0))=false from rfl,n3,if_neg (by simp),vU t q.1 _ q.2.1]
 have ft:Fm t:=⟨q.1,z⟩
 rw [aHY x ft]
 have ob:=aAJ ft
 by_cases hb:(Nv t).2.1=true
 ·rw [if_pos hb,hb,va,n3]
  exact azT hk ob.1 (by have:=ob.2;omega) _
 ·have A:(Nv t).2.1=false:=by grind
  rw [if_neg hb,A,sV,ae];rfl
theorem NA (hk:F3 k) {c a b:Int} {t:Tm} (ha:0<=a/\a<1000) (hb:0<=b/\b<1000) (h:In k t) (I:Tm×Int->OS S):Bx k t a b c I=I (mM c (wA a b t)):=by
 by_cases hc:c=0
 ·subst hc
  simp only [Bx,ag hk.fu,de,ar,rI,if_true]
  rw [show ((0:Int)==0)=true from rfl,va,n3,aiH hk h (vb:=a) (db:=b) (by omega) (by omega)]
  rfl
 grind [Hh,n9]
def RI (c:Int) (t a f y:Tm):Tm×Int:=
 (dS 7 [t,dS 11 [(mM c (wA 1 1 a)).1,(mM (mM c (wA 1 1 a)).2 (wA 1 0 y)).1,dS 6 [(mM (mM (mM c (wA 1 1 a)).2 (wA 1 0 y)).2 (wA 1 0 f)).1,vN 0]]],(mM (mM (mM c (wA 1 1 a)).2 (wA 1 0 y)).2 (wA 1 0 f)).2)
theorem aIb (hk:F3 k) {c:Int} {t a f y:Tm} (ha:In k a) (hf:In k f) (q:In k y) (I:Int×Int×BA×LT×Int->OS S):
  SM k t a f y c I=I (7,0,po,(RI c t a f y).1.c,(RI c t a f y).2):=by
 simp only [SM,ag hk.fu,ar,Iw,xi]
 rw [NA hk (by omega) (by omega) ha,NA hk (by omega) (by omega) q,NA hk (by omega) (by omega) hf]
 rfl
def RM (c:Int) (t:Tm):Tm×Int:=(dS 7 [t,dS 4 [(mM c (wA 1 0 t)).1,dS 11 [(mM (mM c (wA 1 0 t)).2 (wA 2 1 t)).1,vN 1,vN 0]]],(mM (mM c (wA 1 0 t)).2 (wA 2 1 t)).2)
theorem aH5 (hk:F3 k) {c:Int} {t:Tm} (h:In k t) (I:Int×Int×BA×LT×Int->OS S):
  c9 k t c I=I (7,0,po,(RM c t).1.c,(RM c t).2):=by
 simp only [c9,ag hk.fu,ar,Iw,xi]
 rw [NA hk (by omega) (by omega) h,NA hk (by omega) (by omega) h]
 rfl
def SI (c:Int) (t a:Tm):Tm×Int:=
 let q:=mM c (wA 1 0 a)
 let x:=mM q.2 (wA 1 0 a)
 let z:=mM x.2 (wA 2 0 t)
 let A:=mM z.2 (wA 2 0 a)
 let B:=RI A.2 z.1 A.1 (vN 1) (vN 0)
 let E:=RM B.2 B.1
 (dS 7 [dS 4 [t,q.1],dS 4 [x.1,E.1]],E.2)
def Nn (t a:Tm):Except Int Tm:=FD (oy (SI (xx [t,a]) t a))
theorem aDl {kd:Int} (q:0<=kd/\kd<=28) {n m j d:Nat} {x y z:Tm} (A:Sm n x/\am x<=d) (B:Sm m y/\am y<=d) (E:Sm j z/\am z<=d) (hd:d<=290):Sm (n+m+j+1) (dS kd [x,y,z])/\am (dS kd [x,y,z])<=d+1:=by
 unfold dS
 refine ⟨(Hn (kd:=kd) q (r:=[]) ⟨(fun c hc=>by cases hc),by simp⟩ (ks:=[x,y,z]) (sys:=[]) (n:=n+m+j) (m:=0) (fun w F=>by
  simp at F
  rcases F with rfl|rfl|rfl
  ·exact ⟨A.1.ok,by omega⟩
  ·exact ⟨B.1.ok,by omega⟩
  ·exact ⟨E.1.ok,by omega⟩) (by simp) (by rw [ay,ay,ay,ay];have:=A.1.dP;have:=B.1.dP;have:=E.1.dP;omega) (by rw [ba];trivial) (by simp) (by rw [aO];omega) (by rw [aI];omega)).mono (by omega), ?_⟩
 grind [am,aH,aO]
theorem aA2 {c:Int} {t a f y:Tm} (z:Sm 20000 t/\am t<=200) (ha:pw a) (hf:pw f) (A:pw y):Sm 150000 (RI c t a f y).1/\am (RI c t a f y).1<=204:=by
 have fa:=Fy (c:=c) (a:=1) (b:=1) (by omega) (by omega) ha
 have fy:=Fy (c:=(mM c (wA 1 1 a)).2) (a:=1) (b:=0) (by omega) (by omega) A
 have ff:=Fy (c:=(mM (mM c (wA 1 1 a)).2 (wA 1 0 y)).2) (a:=1) (b:=0) (by omega) (by omega) hf
 have v0:=MC (n:=0) (by omega)
 have B:=IK (kd:=6) (by omega) (d:=200) ff.sm v0 (by omega)
 have q:=aDl (kd:=11) (by omega) (d:=201) ⟨fa.sm.1,by have:=fa.sm.2;omega⟩ ⟨fy.sm.1,by have:=fy.sm.2;omega⟩ B (by omega)
 have x:=IK (kd:=7) (by omega) (d:=202) ⟨z.1,by omega⟩ q (by omega)
 exact ⟨x.1.mono (by omega),xJ x.2 (by omega)⟩
theorem aE9 {c:Int} {t:Tm} {n d:Nat} (q:Sm n t/\am t<=d) (hd:200<=d/\d<=280):Sm (n+100000) (RM c t).1/\am (RM c t).1<=d+3:=by
 have f1:=Fy (c:=c) (a:=1) (b:=0) (by omega) (by omega) q.1.ok
 have f2:=Fy (c:=(mM c (wA 1 0 t)).2) (a:=2) (b:=1) (by omega) (by omega) q.1.ok
 have v0:=MC (n:=0) (by omega)
 have v1:=MC (n:=1) (by omega)
 have x:=aDl (kd:=11) (by omega) (d:=200) f2.sm v1 v0 (by omega)
 have A:=IK (kd:=4) (by omega) (d:=201) ⟨f1.sm.1,by have:=f1.sm.2;omega⟩ x (by omega)
 have z:=IK (kd:=7) (by omega) (d:=d+2) ⟨q.1,by omega⟩ ⟨A.1,by omega⟩ (by omega)
 exact ⟨z.1.mono (by omega),xJ z.2 (by omega)⟩
theorem aA0 {c:Int} {t a:Tm} {n d:Nat} (z:Sm n t/\am t<=d) (hd:200<=d/\d<=270) (ha:pw a):Sm (n+400000) (SI c t a).1/\am (SI c t a).1<=d+10:=by
 have f1:=Fy (c:=c) (a:=1) (b:=0) (by omega) (by omega) ha
 have f2:=Fy (c:=(mM c (wA 1 0 a)).2) (a:=1) (b:=0) (by omega) (by omega) ha
 have f3:=Fy (c:=(mM (mM c (wA 1 0 a)).2 (wA 1 0 a)).2) (a:=2) (b:=0) (by omega) (by omega) z.1.ok
 have f4:=Fy (c:=(mM (mM (mM c (wA 1 0 a)).2 (wA 1 0 a)).2 (wA 2 0 t)).2) (a:=2) (b:=0) (by omega) (by omega) ha
 unfold SI
 dsimp only
 generalize mM (mM (mM (mM c (wA 1 0 a)).2 (wA 1 0 a)).2 (wA 2 0 t)).2 (wA 2 0 a)=q at f4 ⊢
 generalize mM (mM (mM c (wA 1 0 a)).2 (wA 1 0 a)).2 (wA 2 0 t)=A at f3 ⊢
 have B:=aA2 (c:=q.2) (t:=A.1) (a:=q.1) (f:=vN 1) (y:=vN 0) f3.sm f4.sm.1.ok (MC (by omega)).1.ok (MC (by omega)).1.ok
 generalize RI q.2 A.1 q.1 (vN 1) (vN 0)=x at B ⊢
 have E:=aE9 (c:=x.2) B (by omega)
 generalize RM x.2 x.1=I at E ⊢
 have a1:=IK (kd:=4) (by omega) (d:=d+7) ⟨z.1,by omega⟩ ⟨f1.sm.1,by have:=f1.sm.2;omega⟩ (by omega)
 have a2:=IK (kd:=4) (by omega) (d:=d+7) ⟨f2.sm.1,by have:=f2.sm.2;omega⟩ ⟨E.1,by omega⟩ (by omega)
 have F:=IK (kd:=7) (by omega) (d:=d+8) a1 a2 (by omega)
 exact ⟨F.1.mono (by omega),by omega⟩
theorem aHS (hk:F3 k) {t a:Tm} (z:Q2 t) (ha:Q2 a) (I:Tm×Int->OS S):ec k t a I=I (tE (Nn t a)):=by
 have it:=z.isIn hk
 have A:=ha.isIn hk
 have B: ∀x∈[t,a],In k x:=fun x O=>by
  grind
 have E:Tm.mk 1 0 po [] [] []=vN 0:=rfl
 have F:Tm.mk 1 1 po [] [] []=vN 1:=rfl
 have i0:=(MC (n:=0) (by omega)).isIn hk
 have i1:=(MC (n:=1) (by omega)).isIn hk
 simp only [ec,ag hk.fu,ar,Re hk B (by simp),vU t it.1 _ it.2.1,xi,Iw]
 unfold Nn
 have q:=aA0 (c:=xx [t,a]) (t:=t) (a:=a) (n:=20000) (d:=200) z (by omega) ha.1.ok
 generalize xx [t,a]=c at q ⊢
 have f3:=Fy (c:=(mM (mM c (wA 1 0 a)).2 (wA 1 0 a)).2) (a:=2) (b:=0) (by omega) (by omega) z.1.ok
 have f4:=Fy (c:=(mM (mM (mM c (wA 1 0 a)).2 (wA 1 0 a)).2 (wA 2 0 t)).2) (a:=2) (b:=0) (by omega) (by omega) ha.1.ok
 have J:=aA2 (c:=(mM (mM (mM (mM c (wA 1 0 a)).2 (wA 1 0 a)).2 (wA 2 0 t)).2 (wA 2 0 a)).2) (t:=(mM (mM (mM c (wA 1 0 a)).2 (wA 1 0 a)).2 (wA 2 0 t)).1) (a:=(mM (mM (mM (mM c (wA 1 0 a)).2 (wA 1 0 a)).2 (wA 2 0 t)).2 (wA 2 0 a)).1) (f:=vN 1) (y:=vN 0) f3.sm f4.sm.1.ok (MC (by omega)).1.ok (MC (by omega)).1.ok
 rw [NA hk (by omega) (by omega) A,NA hk (by omega) (by omega) A,NA hk (by omega) (by omega) it,NA hk (by omega) (by omega) A,E,F,aIb hk (f4.sm.1.isIn hk (by omega)) i1 i0]
 have L: ∀c t a f y,Tm.mk 7 0 po [] (RI c t a f y).1.c []=(RI c t a f y).1:=fun _ _ _ _ _=>rfl
 have M: ∀c t,Tm.mk 7 0 po [] (RM c t).1.c []=(RM c t).1:=fun _ _=>rfl
 dsimp only
 rw [L,aH5 hk (J.1.isIn hk (by omega))]
 dsimp only
 rw [M]
 exact Rk (t:=(SI c t a).1) (c:=(SI c t a).2) hk (fun _=>q.1.isIn hk (by omega)) I
theorem aFN {t a:Tm} {e:Int} (h:Nn t a= .error e):e≠0:=by
 grind [Nn,FD,oy,aD,lk]
theorem aIv (hk:F3 k) {t a:Tm} {c:Int} (q:Q2 t) (ha:Q2 a) (I:Tm×Int->OS S):Ao k t a c I=I (mM c (Nn t a)):=by
 simp only [Ao,ag hk.fu,dG,ar,rJ]
 exact Az c (fun h g=>aHS hk q ha g) (fun e h=>aFN h) I
theorem aFM {t a y:Tm} (z:Q2 t) (ha:pw a) (h:Nn t a= .ok y):Fm y:=by
 have q:=aA0 (c:=xx [t,a]) (t:=t) (a:=a) (n:=20000) (d:=200) z (by omega) ha
 unfold Nn FD oy at h
 by_cases x:(SI (xx [t,a]) t a).2=0
 ·rw [if_pos x,aD] at h
  split at h
  ·rename_i hf
   injection h with h;subst h
   exact ⟨q.1.ok,hf⟩
  ·cases h
 ·rw [if_neg x,lk] at h;cases h
def Ma (a:Tm) (c:Int) (x:Br Tm):Br Tm×Int:=
 let E:=mM c (xk 0 [⟨0,0⟩] (AK x))
 let A:=mM E.2 (wA 0 1 a)
 let Q:=mM A.2 (Nn (AK x) A.1)
 (⟨x.f,[E.1,dS 14 [Q.1,idT]]⟩,Q.2)
section
variable {x1 x2:Int} {x3:BA} {x4:LC} {x5:LT} {x6 sys:LB}
theorem aIo (hk:F3 k) (fa:Fm (Tm.mk x1 x2 x3 x4 x5 x6)) (sy: ∀b∈sys,b.c=[AK b]/\Fm (AK b)/\RX true b.f) (B:sys.length<=20000) (I:Int×Int×BA×LT×LB×Int->OS S):
  w2 k 0 x1 x2 x3 x4 x5 x6 sys I=(fun l:LB×Int=>I (16,0,po,[Tm.mk x1 x2 x3 x4 x5 x6],l.1,l.2)) (wD (Ma (Tm.mk x1 x2 x3 x4 x5 x6)) 0 sys):=by
 have E:4294968296<=k:=hk
 obtain ⟨q,J⟩: ∃q,k=q+100:=⟨k-100,by omega⟩
 have z: ∀g:Int×Int×BA×LT->OS S,ys k g=g (8,0,po,w5):=fun g=>by rw [J];exact aF9 q g
 generalize ha:Tm.mk x1 x2 x3 x4 x5 x6=a at fa
 simp only [w2,ag hk.fu,ts,ao,ha,JM]
 have:=fun RET=>Bi (S:=S) (l:=sys) (L:=fun m c i acc=>mw k RET x1 x2 x3 x4 x5 x6 sys m c i acc) (F:=Ma a) (I:=RET)
  (fun m c acc _=>by
   have:=xy (l:=sys) (p:=sys) (by simp)
   simp only [mw,Z1,this,n3])
  (fun m c x p r acc h A=>by
   obtain ⟨M,O,T,_⟩:=qI h (by omega)
   have hlen:p.length<sys.length:=by rw [h];simp
   obtain ⟨W,q2,_⟩:=sy x (by rw [h];simp)
   have Y:af x.c 0=some (AK x):=ED (n:=0) rfl (by rw [W];rfl)
   have fA:=Fy (c:=(mM c (xk 0 [⟨0,0⟩] (AK x))).2) (a:=0) (b:=1) (by omega) (by omega) fa.ok
   simp only [mw,Z1,M,ae,O,qm,Y,ag hk.fu,ar,azb,ha,wv,zc,T,z]
   rw [vZ hk (fun _=>q2.isIn hk),E8 hk (fun _=>fa.isIn hk) (by omega) (by omega),aIv hk q2.q2 fA.sm,J5 (by simp;omega)]
   rfl)
  sys [] [] k 0 rfl (by omega) rfl
 refine (this _).trans ?_
 rw [zi]
end
theorem aDr {a:Tm} (fa:Fm a) {x:Br Tm} (h:Fm (AK x)/\RX true x.f) (c:Int):hx (Ma a c x).1:=by
 have A:Q2 (mM c (xk 0 [⟨0,0⟩] (AK x))).1:=LZ fun t z=>Sq h.1.ok z
 have B:=Fy (c:=(mM c (xk 0 [⟨0,0⟩] (AK x))).2) (a:=0) (b:=1) (by omega) (by omega) fa.ok
 have E:FN (mM (mM (mM c (xk 0 [⟨0,0⟩] (AK x))).2 (wA 0 1 a)).2 (Nn (AK x) (mM (mM c (xk 0 [⟨0,0⟩] (AK x))).2 (wA 0 1 a)).1)).1:=Bw fun t z=>aFM h.1.q2 B.sm.1.ok z
 have q:=IK (kd:=14) (by omega) (d:=200) E.sm ⟨Rs.sm,Rs.dep⟩ (by omega)
 have r:=G9 h.2
 exact ⟨_,_,rfl,A.1,q.1.mono (by omega),A.2,q.2,r.1,r.2⟩
def sf (t:Tm):Tm×Bool×Int:=
 if bw t≠0 then (ov,false,bw t) else
 if t.k=15/\(t.c.getD 0 ov).k=3 then Mf (.mk 16 0 po [] [t.c.getD 1 ov] (wD (Ma (t.c.getD 1 ov)) 0 t.s).1,(wD (Ma (t.c.getD 1 ov)) 0 t.s).2)
 else SC t
theorem aIn (O:F4 k) {t:Tm} (J:In k t) (ao:(t.c.getD 0 ov).k≠3) (I:Tm×Bool×Int->OS S):cG k t I=I (SC t):=by
 have hk:=O.f3
 simp only [cG,ag hk.fu,ar,An J.1 J.2.1 J.dep]
 unfold SC
 by_cases W:bw t=0
 case neg=>rw [dj W,sV,ae,if_pos W];rfl
 rw [W,show (!((0:Int)==0))=false from rfl,n3,if_neg (by simp)]
 have ft:Fm t:=⟨J.1,W⟩
 by_cases z:t.k=15
 case neg=>rw [beq_false_of_ne z,sV,ae,if_neg (fun h=>z h.1)];rfl
 rw [z,show (!((15:Int)==15))=false from rfl,n3,vU t J.1 _ J.2.1]
 obtain ⟨k0,a,T⟩:=I8 (E5 ft z (n:=2) rfl)
 obtain ⟨g0,g1⟩:=KQ T
 obtain ⟨d0,d1⟩:=EC T
 have B:Fm k0:=ft.bV (by grind)
 have fa:Fm a:=ft.bV (by grind)
 obtain ⟨sy,E⟩:=ft.sy z
 have Y:Tm.mk a.k a.n a.name a.r a.c a.s=a:=by cases a;rfl
 have F:Fm (Tm.mk a.k a.n a.name a.r a.c a.s):=by grind
 simp only [g0,g1,qm]
 unfold azm
 rw [d0,d1]
 dsimp only
 by_cases L:k0.k=4
 ·obtain ⟨p,b,hb⟩:=I8 (E5 B L (n:=2) rfl)
  obtain ⟨w1,i1,i2,i3,i4,i5⟩:=aC_ hk hb (B.bV (by grind)) F sy E (fun q=>ly k (Tm.mk q.1 q.2.1 q.2.2.1 [] q.2.2.2.1 []) q.2.2.2.2 fun A=>I (A.1,A.2.1,A.2.2.1))
  rw [if_pos ⟨trivial,.inl L⟩,if_pos L,L,show ((4:Int)==4)=true from rfl,ae]
  refine i2.trans ?_
  refine (Ry hk i3 _).trans ?_
  rw [(EC hb).2]
  rw [Y] at i4 i5
  exact aAu i4 i5 I
 rw [if_neg L,beq_false_of_ne L,n3]
 by_cases M:k0.k=7
 ·obtain ⟨p,b,hb⟩:=I8 (E5 B M (n:=2) rfl)
  obtain ⟨w1,i1,i2,i3,i4,i5⟩:=aDa O hb (B.bV (by grind)) (B.bV (by grind)) F sy E (fun q=>ly k (Tm.mk q.1 q.2.1 q.2.2.1 [] q.2.2.2.1 []) q.2.2.2.2 fun A=>I (A.1,A.2.1,A.2.2.1))
  rw [if_pos ⟨trivial,.inr (.inl M)⟩,if_pos M,M,show ((7:Int)==7)=true from rfl,ae]
  refine i2.trans ?_
  refine (Ry hk i3 _).trans ?_
  rw [(EC hb).1,(EC hb).2]
  rw [Y] at i4 i5
  exact aAu i4 i5 I
 rw [if_neg M,beq_false_of_ne M,n3]
 by_cases x:k0.k=11
 ·obtain ⟨p,l,r,hb⟩: ∃p l r,k0.c=[p,l,r]:=by
   have:=E5 B x (n:=3) rfl
   match h:k0.c,this with
   |[p,l,r],_=>simp
  obtain ⟨w1,i1,i2,i3,i4,i5⟩:=aC9 hk hb (B.bV (by grind)) (B.bV (by grind)) (B.bV (by grind)) F sy E (fun q=>ly k (Tm.mk q.1 q.2.1 q.2.2.1 [] q.2.2.2.1 []) q.2.2.2.2 fun A=>I (A.1,A.2.1,A.2.2.1))
  rw [if_pos ⟨trivial,.inr (.inr (.inl x))⟩,if_pos x,x,show ((11:Int)==11)=true from rfl,ae]
  refine i2.trans ?_
  refine (Ry hk i3 _).trans ?_
  rw [hb]
  rw [Y] at i4 i5
  exact aAu i4 i5 I
 rw [if_neg x,beq_false_of_ne x,n3]
 by_cases h3:k0.k=3
 ·grind
 rw [if_neg h3,beq_false_of_ne h3,n3]
 by_cases ad:k0.k=16
 ·grind [ae,aIf,azI]
 ·rw [beq_false_of_ne ad,n3,if_neg (fun h=>by omega)];rfl
theorem aIm (J:F4 k) {t:Tm} (z:In k t) (I:Tm×Bool×Int->OS S):cG k t I=I (sf t):=by
 have hk:=J.f3
 by_cases hc:bw t=0/\t.k=15/\(t.c.getD 0 ov).k=3
 case neg=>
  have e:sf t=SC t:=by
   grind [sf,SC]
  rw [e]
  by_cases E:(t.c.getD 0 ov).k=3
  case neg=>grind [aIn]
  simp only [cG,ag hk.fu,ar,An z.1 z.2.1 z.dep]
  unfold SC
  by_cases A:bw t=0
  case neg=>rw [dj A,sV,ae,if_pos A];rfl
  rw [A,show (!((0:Int)==0))=false from rfl,n3,if_neg (by simp)]
  have q:t.k≠15:=fun h=>hc ⟨A,h,E⟩
  rw [beq_false_of_ne q,sV,ae,if_neg (fun h=>q h.1)];rfl
 obtain ⟨A,q,E⟩:=hc
 have ft:Fm t:=⟨z.1,A⟩
 have e:sf t=Mf (.mk 16 0 po [] [t.c.getD 1 ov] (wD (Ma (t.c.getD 1 ov)) 0 t.s).1,(wD (Ma (t.c.getD 1 ov)) 0 t.s).2):=by
  grind [sf]
 rw [e]
 obtain ⟨k0,a,B⟩:=I8 (E5 ft q (n:=2) rfl)
 obtain ⟨g0,g1⟩:=KQ B
 obtain ⟨d0,d1⟩:=EC B
 rw [d0] at E
 rw [d1]
 have fa:Fm a:=ft.bV (by grind)
 obtain ⟨sy,L⟩:=ft.sy q
 simp only [cG,ag hk.fu,ar,An z.1 z.2.1 z.dep,A,q,vU t z.1 _ z.2.1,g0,g1,qm,E]
 rw [show (!((0:Int)==0))=false from rfl,n3,show (!((15:Int)==15))=false from rfl,n3,show ((3:Int)==4)=false from rfl,n3,show ((3:Int)==7)=false from rfl,n3,show ((3:Int)==11)=false from rfl,n3,show ((3:Int)==3)=true from rfl,ae]
 obtain ⟨x1,x2,x3,x4,x5,x6⟩:=a
 simp only [pj x1 x2 x3 x4 x5 x6]
 rw [aIo hk fa sy L]
 dsimp only
 have O:=SJ (F:=Ma (Tm.mk x1 x2 x3 x4 x5 x6)) (Q:=hx) (l:=t.s) (c:=0) fun x M c=>aDr fa ⟨(sy x M).2.1,(sy x M).2.2⟩ c
 have hl:(wD (Ma (Tm.mk x1 x2 x3 x4 x5 x6)) 0 t.s).1.length=t.s.length:=No
 obtain ⟨T,W,Y⟩:=aAN O
 refine azT hk ?_ ?_ _
 ·rw [pw,aZ,aZ]
  exact ⟨⟨by unfold aG;omega,by unfold aG;omega,by decide,(fun c hc=>by cases hc),by simp,by simp,by omega⟩,⟨fa.ok,trivial⟩,T⟩
 ·rw [am,aH,aH];have:=fa.dep;omega
def K3 (defs:List Df) (t:Tm):Tm×Bool:=
 if t.k=2 then (match defs.find? fun d=>decide (d.name=t.name) with
  |none=>(ov,false)
  |some d=>(d.body,M4 d.body 0 0==0)) else (ov,false)
def FK (k:Nat) (defs:List Df):Prop:=defs.length<1073741824/\ ∀d∈defs,In k d.body
theorem aGZ (hk:F3 k) (I:Tm×Bool->OS S) {t:Tm} {defs:List Df} (hd:FK k defs):
  ∀ (r p:List Df) (m:Nat),defs=p++r->r.length<m->bM k I t defs m (p.length:Int)=I (match r.find? fun d=>decide (d.name=t.name) with
   |none=>(ov,false)
   |some d=>(d.body,M4 d.body 0 0==0)):=by
 intro r
 induction r with
 |nil=>
  intro p m h q
  obtain ⟨m,rfl,z⟩:=pz q
  simp only [bM,cr,xy h,n3,List.find?_nil]
  rfl
 |cons x r L=>
  intro p m h q
  obtain ⟨m,rfl,z⟩:=pz q
  have hl:=hd.1
  obtain ⟨B,E,F,M⟩:=qI h (by omega)
  have A:=hd.2 x (by grind)
  simp only [bM,cr,B,ae,E,qm,ag hk.fu,ar,Jq,F]
  by_cases J:x.name=t.name
  ·rw [decide_eq_true J,ae,vU x.body A.1 _ A.2.1,nK A hk (by omega) (by omega),List.find?_cons_of_pos (by grind)]
  grind [n3]
theorem aII (hk:F3 k) {t:Tm} {defs:List Df} (hd:FK k defs) (I:Tm×Bool->OS S):cR k defs t I=I (K3 defs t):=by
 have q:4294968296<=k:=hk
 simp only [cR,aAq]
 unfold K3
 by_cases h:t.k=2
 ·rw [h,show (!((2:Int)==2))=false from rfl,n3,if_pos rfl]
  exact aGZ hk I hd defs [] k rfl (by have:=hd.1;omega)
 ·rw [beq_false_of_ne h,sV,ae,if_neg h];rfl
def aux (r:Tm×Bool×Int) (s:Tm×Bool×Int):Tm×Bool×Int:=if r.2.1=true\/r.2.2≠0 then r else s
def nf (defs:List Df) (t:Tm):Tm×Bool×Int:=
 if bw t≠0 then (ov,false,bw t) else
 aux (jc t) (aux (pP t) (aux (u9 t) (aux (sf t) (if (K3 defs t).2=true then ((K3 defs t).1,true,0) else (ov,false,0)))))
theorem pick (I:Tm×Bool×Int->OS S) (r s:Tm×Bool×Int) {J N:OS S} (h:r.2.1=false->r.2.2=0->N=I s):
  ab r.2.1 (ab r.2.1 (I (r.1,r.2.1,r.2.2)) (ab (!(r.2.2==0)) (I (r.1,r.2.1,r.2.2)) J)) (ab (!(r.2.2==0)) (ab r.2.1 (I (r.1,r.2.1,r.2.2)) (ab (!(r.2.2==0)) (I (r.1,r.2.1,r.2.2)) J)) N)=I (aux r s):=by
 obtain ⟨x,b,e⟩:=r
 unfold aux
 dsimp only
 cases b<;>grind [ae,n3]
theorem aIA (F:F4 k) {t:Tm} {defs:List Df} (hd:FK k defs) (L:In k t) (I:Tm×Bool×Int->OS S):a_ k defs t I=I (nf defs t):=by
 have hk:=F.f3
 have O:4294968296<=k:=hk
 simp only [a_,aAp,ag hk.fu,ar,An L.1 L.2.1 L.dep]
 unfold nf
 by_cases M:bw t=0
 case neg=>rw [dj M,sV,ae,if_pos M];rfl
 rw [M,show (!((0:Int)==0))=false from rfl,n3,if_neg (by simp)]
 obtain ⟨m,T⟩: ∃m,k=m+5:=⟨k-5,by omega⟩
 have last: ∀q x z A B E,bH k I t defs (m+1) q x z A B E 0 4 false=I (if (K3 defs t).2=true then ((K3 defs t).1,true,0) else (ov,false,0)):=fun q x z A B E=>by
  simp only [bH,Sa]
  rw [show decide ((4:Int)<4)=false from rfl,n3,n3,show (!((0:Int)==0))=false from rfl,n3]
  obtain ⟨j,hj⟩: ∃j,k=j+1:=⟨k-1,by omega⟩
  have:bK k I t defs k=co k I t defs:=by
   conv=>lhs;rw [hj]
   rw [hj];rfl
  rw [this]
  simp only [co,ag hk.fu,ar,aII hk hd]
  cases (K3 defs t).2 with
  |true=>rfl
  |false=>rfl
 have rd: ∀ {n:Nat} {v:Int} (o s:Tm×Bool×Int),(∀q x z A B E,bH k I t defs n q x z A B E 0 (v+1) false=I s)->ou .i64 (v+1)=v+1-> ∀J,ab o.2.1 (ab o.2.1 (I (o.1,o.2.1,o.2.2)) (ab (!(o.2.2==0)) (I (o.1,o.2.1,o.2.2)) J)) (ab (!(o.2.2==0)) (ab o.2.1 (I (o.1,o.2.1,o.2.2)) (ab (!(o.2.2==0)) (I (o.1,o.2.1,o.2.2)) J)) (bH k I t defs n o.1.k o.1.n o.1.name o.1.r o.1.c o.1.s o.2.2 (ou .i64 (v+1)) o.2.1))=I (aux o s):=fun {n v} o s h hw J=>
  pick I o s fun h1 h2=>by grind
 have W: ∀q x z A B E,bH k I t defs (m+2) q x z A B E 0 3 false=I _:=fun q x z A B E=>by
  rw [bH]
  simp only [Sa,ag hk.fu,ar,aIm F L]
  rw [show decide ((3:Int)<4)=true from rfl,ae,show ((3:Int)==0)=false from rfl,n3,show ((3:Int)==1)=false from rfl,n3,show ((3:Int)==2)=false from rfl,n3,show ((3:Int)==3)=true from rfl,ae]
  exact rd (v:=3) (sf t) _ last rfl _
 have Y: ∀q x z A B E,bH k I t defs (m+3) q x z A B E 0 2 false=I _:=fun q x z A B E=>by
  rw [bH]
  simp only [Sa,ag hk.fu,ar,aIE F L]
  rw [show decide ((2:Int)<4)=true from rfl,ae,show ((2:Int)==0)=false from rfl,n3,show ((2:Int)==1)=false from rfl,n3,show ((2:Int)==2)=true from rfl,ae]
  exact rd (v:=2) (u9 t) _ W rfl _
 have r1: ∀q x z A B E,bH k I t defs (m+4) q x z A B E 0 1 false=I _:=fun q x z A B E=>by
  rw [bH]
  simp only [Sa,ag hk.fu,ar,ajh F L]
  rw [show decide ((1:Int)<4)=true from rfl,ae,show ((1:Int)==0)=false from rfl,n3,show ((1:Int)==1)=true from rfl,ae]
  exact rd (v:=1) (pP t) _ Y rfl _
 have e: ∀q x z A B E,bH k I t defs k q x z A B E 0 0 false=bH k I t defs (m+5) q x z A B E 0 0 false:=fun q x z A B E=>congrArg (fun n=>bH k I t defs n q x z A B E 0 0 false) T
 rw [e,bH]
 simp only [Sa,ag hk.fu,ar,aH3 F L]
 rw [show decide ((0:Int)<4)=true from rfl,ae,show ((0:Int)==0)=true from rfl,ae]
 exact rd (v:=0) (jc t) _ r1 rfl _
def MW (defs:List Df) (t:Tm) (f:Int):py (Int×Int) (Tm×Bool×Int):=
 if (nf defs t).2.2≠0/\0<f then .bD ((nf defs t).2.2,f)
 else if (nf defs t).2.1=false/\(nf defs t).2.2=0 then .ok (t,false,f)
 else if f=0 then .bD (220,f) else .ok ((nf defs t).1,true,f-1)
theorem aIB (q:F4 k) {t:Tm} {defs:List Df} (hd:FK k defs) (z:In k t) {f:Int} (hf:0<=f/\f<=100000) (I:py (Int×Int) (Tm×Bool×Int)->OS S):
  hR k t defs f I=I (MW defs t f):=by
 have hk:=q.f3
 have A:4294968296<=k:=hk
 obtain ⟨j,hj⟩: ∃j,k=j+1:=⟨k-1,by omega⟩
 have h1: ∀r1,hD k I defs f r1 k=iw k I defs f r1:=fun r1=>by
  conv=>lhs;rw [hj]
  rfl
 have B: ∀r1,azv k I defs f t r1 k=Ir k I defs f t r1 (iw k I defs f r1):=fun r1=>by
  rw [<-h1]
  conv=>lhs;rw [hj]
  rw [hj];rfl
 have E:ou .i64 (f-1)=f-1:=vf (by omega) (by omega)
 simp only [hR,aAi,ag hk.fu,ar,aIA q hd z,B,Ir,iw,E]
 unfold MW
 generalize nf defs t=r
 obtain ⟨x,b,e⟩:=r
 dsimp only
 by_cases he:e=0
 ·grind [n3,ae]
 ·rw [beq_false_of_ne he,sV,ae]
  by_cases F:f=0
  ·subst F
   rw [show decide ((0:Int)>0)=false from rfl,n3,if_neg (fun h=>by omega),if_neg (fun h=>he h.2),if_pos rfl]
   cases b<;>grind [ae,n3]
  grind [ae]
def bt (kd:Int):Int:=if kd=6\/kd=9\/kd=10\/kd=13\/kd=18\/kd=15\/kd=14 then 0 else if kd=22 then 3 else if kd=27 then 4 else-1
def Jl (t:Tm):Int:=if (t.c.length:Int)<ct t.k then-1 else bt t.k
theorem aIs (hk:F3 k) (t:Tm) (I:Int->OS S):aU k t I=I (Jl t):=by
 have J:4294968296<=k:=hk
 obtain ⟨j,hj⟩: ∃j,k=j+1:=⟨k-1,by omega⟩
 have L: ∀v,aV k I t k v=I (if (t.c.length:Int)<ct t.k then-1 else v):=fun v=>by
  grind [aV,bo,aiR,ag,ae,n3]
 simp only [aU,aAo,L]
 unfold Jl bt
 by_cases M:t.k=6
 ·rw [M];rfl
 by_cases O:t.k=9
 ·rw [O];rfl
 by_cases q:t.k=10
 ·rw [q];rfl
 by_cases x:t.k=13
 ·rw [x];rfl
 by_cases z:t.k=18
 ·rw [z];rfl
 by_cases A:t.k=15
 ·rw [A];rfl
 by_cases B:t.k=14
 ·rw [B];rfl
 by_cases E:t.k=22
 ·rw [E];rfl
 by_cases F:t.k=27
 ·rw [F];rfl
 grind [n3]

theorem ZT {n:Nat} {l:LB} (h:KU n l) {f:LC} (hf:aq f/\f.length<1073741824) {t:Tm} (q:Sm n t):KU n (⟨f,[t]⟩::l):=by
 refine ⟨?_, ?_, ?_⟩
 ·rw [ba,Fa,aZ,aZ];exact ⟨⟨⟨hf.1,hf.2,by simp⟩,q.ok,trivial⟩,h.ok⟩
 ·rw [aI,Ft,ay,ay,uA,Nat.succ_mul]
  have:=h.dP;have:=q.dP;omega
 ·rw [aO,Ej,aH,aH]
  have:=h.dep;have:=q.dep;omega
theorem acF {kd:Int} (x:kd=22\/kd=27) {b:Tm} {q:LT} (fb:Fm b) (fm: ∀y∈q,Fm y) (I:q.length<=3): ∀ {r l:LB},(∀b∈r,b.c=[AK b]/\Fm (AK b)/\RX true b.f)->M7 kd b q r= .ok l->KU 110000 l/\aO l<=299/\l.length=r.length/\l.map (·.f)=r.map (·.f):=by
 intro r
 induction r with
 |nil=>intro l _ h;rw [M7] at h;injection h with h;subst h;exact ⟨Dp _,by rw [aO];omega,rfl,rfl⟩
 |cons y r E=>
  intro l B h
  rw [M7] at h
  obtain ⟨ms,h1,h⟩:=i8 h
  obtain ⟨J,h2,h⟩:=i8 h
  injection h with h;subst h
  obtain ⟨i1,i2,i3,i4⟩:=E (fun b hb=>B b (by simp [hb])) h2
  obtain ⟨_,z,A⟩:=B y (by simp)
  obtain ⟨f1,f2⟩:=I_ fm h1
  obtain ⟨F,q2⟩:=pO x fb z f1 (by omega)
  refine ⟨ZT i1 (G9 A) (F.mono (by omega)), ?_,by simp [i3],by simp [i4]⟩
  rw [aO,Ej,aH,aH];omega
structure ElimP (k:Nat) (t:Tm) (f b line:Tm) (l:LB) (y:Tm):Prop where
 so:xx [(xU t).c.getD 0 ov,(xU t).c.getD 1 ov,J4 (xU t).s]=0
 fill:FC ((xU t).c.getD 0 ov) ((xU t).c.getD 1 ov) (xU t).s= .ok f
 up:J6 0 1 (t.c.getD 0 ov)= .ok b
 plug:LQ 0 b f= .ok line
 brs:M7 t.k b (zf t) (xU t).s= .ok l
 so2:xx [line,ig t.k (t.c.getD 0 ov) (zf t) ((xU t).c.getD 1 ov),J4 l]=0
 comp:dF line (ig t.k (t.c.getD 0 ov) (zf t) ((xU t).c.getD 1 ov)) l= .ok y
 fy:bw y=0
 ff:Fm f
 fb:Fm b
 fl:Fm line
 fa:Fm (ig t.k (t.c.getD 0 ov) (zf t) ((xU t).c.getD 1 ov))
 fw:Fm (J4 l)
 bs:l.map (·.f)=(xU t).s.map (·.f)
 yin:In k y
theorem KC (hk:F3 k) {t y:Tm} (ft:Fm t) (q:t.k=22\/t.k=27) (A:(xU t).k=15) (h:RQ t.k (t.c.getD 0 ov) (zf t) (xU t)= .ok y): ∃f b line l,ElimP k t f b line l y:=by
 unfold RQ at h
 obtain ⟨f,h1,h⟩:=i8 h
 obtain ⟨b,h2,h⟩:=i8 h
 obtain ⟨line,L,h⟩:=i8 h
 obtain ⟨l,M,h⟩:=i8 h
 obtain ⟨so2,fy,hc⟩:=BI h
 obtain ⟨so,ff,B⟩:=BI h1
 have hlen:2<=t.c.length/\t.c.length<=5:=by
  have:=ft.nk
  rcases q with h|h<;>rw [h] at this
  ·have e:ct 22=4:=rfl
   omega
  ·have e:ct 27=5:=rfl
   omega
 obtain ⟨gl,T⟩:=nw hlen.1
 have fx:=ft.bV T
 obtain ⟨u,a,x⟩:=I8 (E5 fx A (n:=2) rfl)
 obtain ⟨E,z⟩:=EC x
 have fu:Fm u:=fx.bV (by rw [x];simp)
 have fa:Fm a:=fx.bV (by rw [x];simp)
 obtain ⟨sy,W⟩:=fx.sy A
 have fp:Fm (t.c.getD 0 ov):=ft.bV (by
  match h:t.c,hlen.1 with
  |a::l,_=>simp)
 have J:=Jc hk fx
 have fm: ∀y∈zf t,Fm y:=fun y Y=>ft.bV (o3 Y)
 have F:(zf t).length<=3:=by unfold zf;rw [List.length_drop,List.length_take];omega
 have O:Fm f:=⟨(ux hk (E▸fu) (z▸fa) (iQ (wg (E▸fu).ok (z▸fa).ok J.1 so).2.2) B).1.1,ff⟩
 have fb:=mD (by omega) fp h2
 have fl:=e3 (by omega) fb O L
 obtain ⟨b1,b2,b3,b4⟩:=acF q fb fm F sy M
 have I:=Jb hk (by omega) b1 (by omega) b2
 obtain ⟨q1,q2⟩:=pO q fp (a:=(xU t).c.getD 1 ov) (z▸fa) fm F
 obtain ⟨f1,f2,f3⟩:=wg fl.ok q1.ok I.1 so2
 exact ⟨f,b,line,l,so,B,h2,L,M,so2,hc,fy,O,fb,fl,f2,f3,b4,(yu hk f1 f2 (iQ f3) hc).1⟩
theorem acE (hk:F3 k) {t:Tm} (x:In k t):In k (pP t).1:=by
 unfold pP
 by_cases q:bw t=0
 case neg=>rw [if_pos q];exact gQ hk
 rw [if_neg (by simp [q])]
 have ft:Fm t:=⟨x.1,q⟩
 split
 case isTrue hc=>
  cases z:RQ t.k (t.c.getD 0 ov) (zf t) (xU t) with
  |error e=>exact gQ hk
  |ok y=>
   obtain ⟨f,b,line,l,hp⟩:=KC hk ft hc.1 hc.2 z
   show In k (if bw y=0 then (y,true,(0:Int)) else (ov,false,bw y)).1
   split
   ·exact hp.yin
   ·exact gQ hk
 case isFalse hc=>exact gQ hk
end
section
open Go PI
section
variable {n kd:Int} {u:Tm}
end
section
variable {f g:Int->LC->Except Int (LC)} {kd:Int}
end

variable {S:Type} {k:Nat}


section
variable {hd:Tm->(Int->OS S)->OS S} {t:Tm}
end
theorem ao6 {kd D E:Int} (h:D<=E): ∀ {l:LB},ba l->l.all (bX kd D)=true->l.all (bX kd E)=true:=by
 intro l
 induction l with
 |nil=>intro _ _;rfl
 |cons b l q=>
  intro ho hb
  obtain ⟨f,x⟩:=b
  rw [ba,Fa] at ho
  rw [List.all_cons,ql] at hb ⊢
  refine ⟨?_,q ho.2 hb.2⟩
  have h1:=hb.1
  unfold bX at h1 ⊢
  simp only [ql,decide_eq_true_eq] at h1 ⊢
  exact ⟨h1.1,h1.2.1,p4 ((oB ho.1.1.1).1 h1.2.1).1 h1.2.2 h⟩
theorem aRb (t:Tm):pw t-> ∀ {V W D E:Int},rE false V D t=true->(W= -1\/0<=V/\V<=W)->D<=E->rE false W E t=true:=by
 induction t using gq with
 |h kd n nm r ks sys J L=>
  intro B V W D E h O A
  rw [pw] at B
  obtain ⟨o1,o2,o3,T,o5,o6,o7⟩:=B.1
  have hk: ∀ {l:LT} {i:Nat},(∀x∈l,pw x-> ∀ {V W D E:Int},rE false V D x=true->(W= -1\/0<=V/\V<=W)->D<=E->rE false W E x=true)->aZ l->bO false V D kd i l=true->bO false W E kd i l=true:=by
   intro l
   induction l with
   |nil=>intro i _ _ _;rw [bO]
   |cons t l F=>
    intro i h hl ha
    rw [aZ] at hl
    rw [bO,ql] at ha ⊢
    have hb:=g7 kd i
    exact ⟨h t (by simp) hl.1 ha.1 (O.imp (fun q=>by rw [q];rfl) fun q=>by unfold cQ;rw [if_neg (by omega),if_neg (by omega)];omega) (by omega),F (fun x M=>h x (by simp [M])) hl.2 ha.2⟩
  have Y: ∀ {l:LT},(∀x∈l,pw x-> ∀ {V W D E:Int},rE false V D x=true->(W= -1\/0<=V/\V<=W)->D<=E->rE false W E x=true)->aZ l->ca false V D kd l=true->ca false W E kd l=true:=by
   intro l
   induction l with
   |nil=>intro _ _ _;rw [ca]
   |cons t l F=>
    intro h hl ha
    rw [aZ] at hl
    rw [ca,ql] at ha ⊢
    exact ⟨h t (by simp) hl.1 ha.1 O (by omega),F (fun x M=>h x (by simp [M])) hl.2 ha.2⟩
  have hs: ∀ {l:LB},(∀b∈l,∀x∈b.c,pw x-> ∀ {V W D E:Int},rE false V D x=true->(W= -1\/0<=V/\V<=W)->D<=E->rE false W E x=true)->ba l->ck false V D kd l=true->ck false W E kd l=true:=by
   intro l
   induction l with
   |nil=>intro _ _ _;rw [ck]
   |cons b l F=>
    intro h hl ha
    obtain ⟨f,I⟩:=b
    rw [ba,Fa] at hl
    rw [ck,jT,ql] at ha ⊢
    exact ⟨Y (l:=I) (h ⟨f,I⟩ (by simp)) hl.1.2 ha.1,F (fun b hb=>h b (by simp [hb])) hl.2 ha.2⟩
  rw [rE,ql,ql,ql] at h ⊢
  refine ⟨rfl, ?_,hk J B.2.1 h.2.2.1,hs L B.2.2 h.2.2.2⟩
  have h2:=h.2.1
  unfold cL at h2 ⊢
  simp only [ql] at h2 ⊢
  refine ⟨h2.1, ?_⟩
  have z:=h2.2
  split
  ·rename_i c
   rw [if_pos c] at z
   simp only [ql,decide_eq_true_eq] at z ⊢
   exact ⟨z.1,z.2.1,by omega⟩
  ·rename_i c
   rw [if_neg c] at z
   split
   ·rename_i c
    rw [if_pos c] at z;exact z
   ·rename_i c
    rw [if_neg c] at z
    split
    ·rename_i c
     rw [if_pos c,ql] at z
     rw [ql]
     exact ⟨z.1,p4 ((Mb T).1 z.1) z.2 A⟩
    ·rename_i c
     rw [if_neg c] at z
     split
     ·rename_i c
      rw [if_pos c,ql] at z
      rw [ql]
      exact ⟨z.1,p4 ((oB T).1 z.1).1 z.2 A⟩
     ·rename_i c
      rw [if_neg c,ql] at z
      rw [ql]
      exact ⟨ao6 A B.2.2 z.1,z.2⟩
theorem aqc (t:Tm) (x:pw t) {V D E:Int} (h:rE false V D t=true) (q:D<=E):rE false (-1) E t=true:=aRb t x h (.inl rfl) q
theorem apu {t:Tm} (h:In k t) {V D:Int} (q:M4 t V D=0):Fm t:=by
 have x:=q
 unfold M4 at q
 split at q
 ·cases q
 split at q
 ·cases q
 split at q
 ·cases q
 obtain ⟨_,_,hs⟩:=aoN x
 exact ⟨h.1,pS (by omega) (by omega) (aqc t h.1 (aoD t hs) (aoS hs))⟩
structure MayR (k:Nat) (x t:Tm) (V D:Int) (r:Tm×Bool×Int):Prop where
 ins:In k r.1
 no:r.2.1=false->r.1=ov
 ok:r.2.1=true->r.2.2=0/\M4 r.1 V D=0/\r.1.k=x.k/\(x.k=15->r.1.s.map (·.f)=x.s.map (·.f))
def Im (r:Tm×Bool×Int):Prop:=r.2.1=true->bw r.1=0/\r.2.2=0
theorem HM (e:Int):Im (ov,false,e):=fun h=>by cases h
theorem aAR (q:Tm×Int):(∃e,Mf q=(ov,false,e))\/q.2=0/\bw q.1=0/\Mf q=(q.1,true,0):=by
 grind [Mf,dM]
theorem Sp (q:Tm×Int):Im (Mf q):=by
 rcases aAR q with ⟨e,he⟩|⟨_,h,he⟩
 ·rw [he];exact HM e
 ·rw [he];exact fun _=>⟨h,rfl⟩
theorem aAt (x:Except Int Tm):Im (FB x):=by
 cases x with
 |error e=>exact HM e
 |ok t=>
  by_cases h:bw t=0
  ·rw [show FB (.ok t)=(t,true,0) from if_pos h];exact fun _=>⟨h,rfl⟩
  grind [FB,HM]
theorem EH {c:Prop} [Decidable c] {a b:Tm×Bool×Int} (ha:Im a) (hb:Im b):Im (if c then a else b):=by
 grind
theorem s5 {r s:Tm×Bool×Int} (q:Im r) (hs:Im s):Im (aux r s):=EH q hs
theorem aI5 (t:Tm):Im (ib t):=EH (HM _) (EH (Sp _) (HM _))
theorem aI3 (t:Tm):Im (h_ t):=EH (HM _) (EH (aAt _) (HM _))
theorem aI4 (t:Tm):Im (pP t):=EH (HM _) (EH (aAt _) (HM _))
theorem aI7 (t:Tm):Im (u9 t):=EH (HM _) (EH (HM _) (EH (Sp _) (EH (Sp _) (EH (Sp _) (EH (Sp _) (EH (aI3 t) (EH (aI5 t) (HM _))))))))
theorem aI2 (t:Tm):Im (jc t):=EH (HM _) (EH (Sp _) (HM _))
theorem aI6 (t:Tm):Im (sf t):=EH (HM _) (EH (Sp _) (EH (HM _) (EH (aAt _) (HM _))))
theorem aI8 {defs:List Df} (hd:FK k defs) (t:Tm):Im (if (K3 defs t).2=true then ((K3 defs t).1,true,0) else (ov,false,0)):=by
 by_cases h:(K3 defs t).2=true
 ·rw [if_pos h]
  refine fun _=>⟨?_,rfl⟩
  unfold K3 at h ⊢
  by_cases h2:t.k=2
  ·rw [if_pos h2] at h ⊢
   cases hf:defs.find? fun d=>decide (d.name=t.name) with
   |none=>grind
   |some d=>
    rw [hf] at h
    have h:(M4 d.body 0 0==0)=true:=h
    exact (apu (hd.2 d (List.mem_of_find?_eq_some hf)) (by simpa using h)).2
  grind
 grind [HM]
theorem aDp {defs:List Df} (hd:FK k defs) (t:Tm):Im (nf defs t):=EH (HM _) (s5 (aI2 t) (s5 (aI4 t) (s5 (aI7 t) (s5 (aI6 t) (aI8 hd t)))))
theorem aE5 {kd D:Int} {f:LC} {ks:LT} (h:(ks.length:Int)=xX kd) (h1:cV f=true) (h2:dg f D=true):bX kd D ⟨f,ks⟩=true:=by
 show (decide ((ks.length:Int)=xX kd)&&(cV f&&dg f D))=true
 grind
section
variable {V D:Int} {a y k0:Tm} {sys:LB}
end
section
variable {V D:Int} {a y:Tm} {sys:LB}
end
theorem aDu {V D kd:Int}: ∀ {l:LB},(∀y∈l,bX kd D y=true/\ca false V D kd y.c=true)->l.all (bX kd D)=true/\ck false V D kd l=true:=by
 intro l
 induction l with
 |nil=>grind [ck]
 |cons x l q=>
  intro h
  obtain ⟨A,q2⟩:=h x (by simp)
  obtain ⟨i1,i2⟩:=q fun y z=>h y (by simp [z])
  obtain ⟨f,B⟩:=x
  grind [ck,jT]
theorem wM1 {V D kd:Int} {t:Tm}:ca false V D kd [t]=true↔Wk0 V (D+av kd) t:=by grind [ca]
theorem aJi {V D kd:Int} {a b:LB} (ha:a.all (bX kd D)=true/\ck false V D kd a=true) (hb:b.all (bX kd D)=true/\ck false V D kd b=true):(a++b).all (bX kd D)=true/\ck false V D kd (a++b)=true:=by
 grind [wH]
def Wb (n V D:Int) (t:Tm):Prop:=Wk0 V D t/\True
theorem Wb.mono {n m V D:Int} {t:Tm} (h:Wb n V D t) (hn:n<=m):Wb m V D t:=h
def WB (n kd V D:Int) (l:LB):Prop:=(l.all (bX kd D)=true/\ck false V D kd l=true)/\True
theorem WB.app {n kd V D:Int} {a b:LB} (ha:WB n kd V D a) (hb:WB n kd V D b):WB n kd V D (a++b):=⟨aJi ha.1 hb.1,trivial⟩
theorem WB.nil {n kd V D:Int}:WB n kd V D []:=⟨aDu (fun y q=>by cases q),trivial⟩
theorem WB.of {n kd V D:Int} (hp:xX kd=1) {l:LB} (h: ∀b∈l,∃z,b.c=[z]/\cV b.f=true/\dg b.f D=true/\Wb n V (D+av kd) z):WB n kd V D l:=by
 refine ⟨aDu fun b hb=> ?_,trivial⟩
 obtain ⟨z,q,q2,x,A⟩:=h b hb
 obtain ⟨f,B⟩:=b
 have q:B=[z]:=q
 subst q
 exact ⟨aE5 (by grind) q2 x,wM1.2 A.1⟩
variable {n V D:Int}
section
variable {ot:LC} {V D n:Int}
end
section
variable {ot:LC} {V D n:Int}
end


section
variable {t g b a:Tm}
theorem aF_ (z:Fm g) (A:g.k=16): ∀ {l l':LB},(∀b∈l,b.c=[AK b]/\Fm (AK b)/\RX true b.f)->fi (eh g) l= .ok l'->sk 50000 l'/\l'.length=l.length:=by
 intro l
 induction l with
 |nil=>grind [fi,Mg]
 |cons x l B=>
  intro l' q h
  rw [fi] at h
  obtain ⟨u,g1,h⟩:=i8 h
  obtain ⟨m,g2,h⟩:=i8 h
  injection h with h;subst h
  obtain ⟨i1,i2⟩:=B (fun b hb=>q b (by simp [hb])) g2
  obtain ⟨E,q2,F⟩:=q x (by simp)
  have:=azZ (u:=u) (.inl (mD (by omega) (azf z A) g1)) q2
  grind [MB,G9]
theorem aGb (hk:F3 k) (ft:Fm t) (fb:Fm b): ∀ {l l':LB},(∀b∈l,b.c=[AK b,k1 b]/\Fm (AK b)/\Fm (k1 b)/\RX true b.f)->fW b t.s l= .ok l'->sk 500000 l'/\l'.length=l.length:=by
 intro l
 induction l with
 |nil=>grind [fW,Mg]
 |cons x l E=>
  intro l' q h
  rw [fW] at h
  obtain ⟨f,g1,h⟩:=i8 h
  obtain ⟨w,g2,h⟩:=i8 h
  obtain ⟨m,g3,h⟩:=i8 h
  injection h with h;subst h
  obtain ⟨i1,i2⟩:=E (fun b hb=>q b (by simp [hb])) g3
  obtain ⟨M,q2,F,I⟩:=q x (by simp)
  have ff:=mD (by omega) F g1
  obtain ⟨so,z,A⟩:=BI g2
  have B:=Jc hk ft
  have fw:Fm w:=⟨(ux hk q2 fb (iQ (wg q2.ok fb.ok B.1 so).2.2) A).1.1,z⟩
  have J:=MD (kd:=9) (by omega) (n:=20000) (ks:=[f]) (fun x q=>by simp at q;subst q;exact ⟨ff.sm,by have:=ff.dep;omega⟩) (by simp)
  have L:=MD (kd:=6) (by omega) (n:=80001) (ks:=[dS 9 [f],w]) (fun x q=>by
   simp at q
   rcases q with rfl|rfl
   ·refine ⟨J.1, ?_⟩
    unfold dS;rw [am,aH,aH,aO];have:=ff.dep;omega
   ·exact ⟨fw.sm.mono (by omega),by have:=fw.dep;omega⟩) (by simp)
  exact ⟨MB (G9 I) (L.1.mono (by omega)) (by omega) i1,by grind⟩
end
theorem aG5 (hk:F3 k) {t y:Tm} (ft:Fm t) (x:t.k=15) (q:(t.c.getD 0 ov).k=16) (h:im t= .ok y):In k y/\y.k=17:=by
 obtain ⟨g,b,z⟩:=I8 (E5 ft x (n:=2) rfl)
 obtain ⟨d0,d1⟩:=EC z
 have A:Fm g:=ft.bV (by grind)
 have fb:Fm b:=ft.bV (by grind)
 obtain ⟨sy,B⟩:=ft.sy x
 rw [d0] at q
 obtain ⟨E,hl,a,F,fa⟩:=A.gl q
 unfold im at h
 rw [d0,d1] at h
 obtain ⟨O,I,h⟩:=i8 h
 obtain ⟨T,J,h⟩:=i8 h
 injection h with h;subst h
 obtain ⟨L,W⟩:=aF_ A q sy I
 obtain ⟨M,Y⟩:=aGb hk ft fb E J
 exact ⟨aCw hk ft A q (by grind) fa fb L (by omega) M (by omega),rfl⟩

section
variable {hd:Tm->(Int->OS S)->OS S} {t:Tm}
end
theorem aFZ (hk:F3 k) {ot:LC} {g a:Tm} (L:Fm g) (M:g.k=16) (fa:Fm a) (hp:RX true ot):pw (m' ot g a).1:=by
 obtain ⟨E,sB,lB⟩:=aAK hk L M fa hp
 unfold m'
 dsimp only
 generalize SF g ot a=B at E sB lB ⊢
 obtain ⟨st,a1,c0⟩:=B
 dsimp only at E sB lB ⊢
 have O:GN (mM c0 (xk 0 [⟨0,0⟩] g)).1:=p1 L M Qz (aBA (by decide))
 generalize mM c0 (xk 0 [⟨0,0⟩] g)=G at O ⊢
 obtain ⟨f1,I,lG,_⟩:=aBc O
 have A:=aDv (ot:=ot) (st:=st) (a1:=a1) (t1:=Il G.1.c) (c:=G.2) hk fa E f1 hp sB lB I
 have J:(wD (ky ot a a1 (Il G.1.c) st) G.2 G.1.s).1.length=G.1.s.length:=No
 generalize wD (ky ot a a1 (Il G.1.c) st) G.2 G.1.s=ws at A J ⊢
 have T: ∀c,FN (mM c (wA 0 1 a1)).1:=fun c=>Fy (by omega) (by omega) E.sm.1.ok
 obtain ⟨Y,w2⟩:=e6 (F:=fun c=>mM c (wA 0 1 a1)) hp (n:=20000) (fun c=>⟨(T c).sm.1,by have:=(T c).sm.2;omega⟩) ws.2
 generalize EG ot (fun c=>mM c (wA 0 1 a1)) ws.2=W at Y w2 ⊢
 have x: ∀q∈G.1.s.zip ws.1,q.1∈G.1.s/\q.2∈ws.1:=fun q z=>⟨(List.of_mem_zip z).1,(List.of_mem_zip z).2⟩
 generalize hZ:wD (M1 a1) W.2 (G.1.s.zip ws.1)=Z
 have zq: ∀y∈Z.1,∃t,y.c=[t]/\pw t/\am t<=299/\aq y.f/\y.f.length<1073741824:=by
  rw [<-hZ]
  exact SJ fun q z c=>aA7 E.sm.1.ok (A q.2 (x q z).2).1.ok (I q.1 (x q z).1).2.2.1.ok (G9 (I q.1 (x q z).1).2.2.2) c
 have zl:Z.1.length=(G.1.s.zip ws.1).length:=by grind [No]
 have pq: ∀y∈(G.1.s.zip ws.1).map u3,∃t,y.c=[t]/\pw t/\am t<=301/\aq y.f/\y.f.length<1073741824:=fun y hy=>by
  obtain ⟨q,z,rfl⟩:=vh.1 hy
  obtain ⟨h1,h2⟩:=A q.2 (x q z).2
  have r:=G9 (I q.1 (x q z).1).2.2.2
  refine ⟨_,rfl, ?_, ?_,r.1,r.2⟩
  ·unfold dS;rw [pw,aZ,aZ,ba];exact ⟨⟨by unfold aG;omega,by unfold aG;omega,by decide,(fun c hc=>by cases hc),by simp,by simp,by simp⟩,⟨h1.ok,trivial⟩,trivial⟩
  grind [dS,am,aH,aO]
 obtain ⟨o1,o2⟩:=dt (l:=W.1++Z.1) (n:=299) fun y hy=>by
  rcases xA.1 hy with hy|hy
  ·obtain ⟨t,q1,q2,q3,q4,q5⟩:=Y y hy;exact ⟨t,q1,q2.ok,q3,q4,q5⟩
  grind
 obtain ⟨o3,o4⟩:=dt pq
 have ad:(G.1.s.zip ws.1).length<=10000:=by grind
 rw [pw,aZ,aZ,pw,aZ,aZ,aZ]
 exact ⟨⟨by unfold aG;omega,by unfold aG;omega,by decide,(fun c hc=>by cases hc),by simp,by simp,by grind⟩,⟨⟨⟨by unfold aG;omega,by unfold aG;omega,by decide,(fun c hc=>by cases hc),by simp,by simp,by grind⟩,⟨f1.sm.1.ok,E.sm.1.ok,trivial⟩,o1⟩,trivial⟩,o3⟩
theorem Jn:pw ov:=KW.1.ok
theorem Sv {q:Tm×Int} (h:pw q.1):pw (Mf q).1:=by
 grind [aAR,Jn]
theorem aG7 {x:Except Int Tm} (h: ∀y,x= .ok y->pw y):pw (FB x).1:=by
 cases x<;>grind [Jn,FB]
theorem HN {c:Prop} [Decidable c] {a b:Tm×Bool×Int} (ha:c->pw a.1) (hb: ¬c->pw b.1):pw (if c then a else b).1:=by
 grind
theorem zh:F4 4294970296:=by simp
theorem aI9 {t:Tm} (ft:Fm t):pw (u9 t).1:=by
 have z:=zh
 have hk:=z.f3
 unfold u9
 refine HN (fun _=>Jn) fun _=>HN (fun _=>Jn) fun x=> ?_
 have x:t.k=14:=Decidable.not_not.1 x
 obtain ⟨l,a,F⟩:=I8 (E5 ft x (n:=2) rfl)
 obtain ⟨A,B⟩:=EC F
 have fl:Fm l:=ft.bV (by grind)
 have fa:Fm a:=ft.bV (by grind)
 have hp:=ft.r14 x
 dsimp only
 rw [A,B]
 refine HN (fun _=>Sv fa.ok) fun _=>HN (fun W=>Sv ?_) fun _=>HN (fun Y=>Sv ?_) fun _=>HN (fun I=>Sv ?_) fun _=>HN (fun _=>(apb hk (ft.isIn hk)).1) fun _=>HN (fun J=> ?_) fun _=>Jn
 ·obtain ⟨k0,L,hb⟩:=I8 (E5 fl W (n:=2) rfl)
  obtain ⟨M,O⟩:=EC hb
  rw [M,O]
  obtain ⟨x1,x2,x3,x4,x5,x6⟩:=a
  obtain ⟨T,c,_,q2,E⟩:=aDg (S:=Unit) (ot:=t.r) z hb (fl.bV (by grind)) (fl.bV (by grind)) fa hp (fun _=>none)
  rw [<-q2];exact E.1
 ·obtain ⟨k0,L,hb⟩:=I8 (E5 fl Y (n:=2) rfl)
  obtain ⟨M,O⟩:=EC hb
  rw [M,O]
  obtain ⟨x1,x2,x3,x4,x5,x6⟩:=a
  obtain ⟨T,c,_,q2,E⟩:=aDi (S:=Unit) (ot:=t.r) z hb (fl.bV (by grind)) (fl.bV (by grind)) fa hp (fun _=>none)
  rw [<-q2];exact E.1
 ·obtain ⟨k0,kl,kr,hb⟩:=azt (E5 fl I (n:=3) rfl)
  rw [show l.c.getD 0 ov=k0 by grind,show l.c.getD 1 ov=kl by grind,show l.c.getD 2 ov=kr by grind]
  obtain ⟨x1,x2,x3,x4,x5,x6⟩:=a
  obtain ⟨T,c,_,q2,E⟩:=aDf (S:=Unit) (ot:=t.r) hk hb (fl.bV (by grind)) (fl.bV (by grind)) (fl.bV (by grind)) fa hp (fun _=>none)
  rw [<-q2];exact E.1
 ·unfold ib
  refine HN (fun _=>Jn) fun _=>HN (fun _=> ?_) fun _=>Jn
  rw [A,B]
  exact Sv (q:=m' t.r l a) (aFZ hk fl J fa hp)
theorem aE1 {t:Tm} (ft:Fm t):pw (jc t).1:=HN (fun _=>Jn) fun _=>HN (fun _=>Sv (aAJ ft).1) fun _=>Jn
theorem aF3 {t:Tm} (ft:Fm t):pw (sf t).1:=by
 have J:=zh
 have hk:=J.f3
 unfold sf
 refine HN (fun _=>Jn) fun h0=>HN (fun h=> ?_) fun hn=> ?_
 ·obtain ⟨k0,a,B⟩:=I8 (E5 ft h.1 (n:=2) rfl)
  obtain ⟨d0,d1⟩:=EC B
  have fa:Fm a:=ft.bV (by grind)
  obtain ⟨sy,z⟩:=ft.sy h.1
  rw [d1]
  have Y:=SJ (F:=Ma a) (Q:=hx) (l:=t.s) (c:=0) fun x T c=>aDr fa ⟨(sy x T).2.1,(sy x T).2.2⟩ c
  have hl:(wD (Ma a) 0 t.s).1.length=t.s.length:=No
  obtain ⟨b1,b2,b3⟩:=aAN Y
  refine Sv ?_
  show pw (.mk 16 0 po [] [a] (wD (Ma a) 0 t.s).1)
  rw [pw,aZ,aZ]
  exact ⟨⟨by unfold aG;omega,by unfold aG;omega,by decide,(fun c hc=>by cases hc),by simp,by simp,by omega⟩,⟨fa.ok,trivial⟩,b1⟩
 ·unfold SC
  refine HN (fun _=>Jn) fun _=>HN (fun hc=>aG7 fun y q=> ?_) fun _=>Jn
  obtain ⟨E,L⟩:=hc
  obtain ⟨k0,a,B⟩:=I8 (E5 ft E (n:=2) rfl)
  obtain ⟨d0,d1⟩:=EC B
  have A:Fm k0:=ft.bV (by grind)
  have fa:Fm a:=ft.bV (by grind)
  obtain ⟨sy,z⟩:=ft.sy E
  rw [d0] at L
  unfold azm at q
  rw [d0,d1] at q
  dsimp only at q
  by_cases M:k0.k=4
  ·rw [if_pos M] at q
   obtain ⟨p,b,hb⟩:=I8 (E5 A M (n:=2) rfl)
   rw [(EC hb).2] at q
   obtain ⟨x1,x2,x3,x4,x5,x6⟩:=a
   obtain ⟨W,i1,_,i3,i4,_⟩:=aC_ (S:=Unit) hk hb (A.bV (by grind)) fa sy z (fun _=>none)
   rw [<-(i4 y q).1];exact i3.1
  rw [if_neg M] at q
  by_cases O:k0.k=7
  ·rw [if_pos O] at q
   obtain ⟨p,b,hb⟩:=I8 (E5 A O (n:=2) rfl)
   rw [(EC hb).1,(EC hb).2] at q
   obtain ⟨x1,x2,x3,x4,x5,x6⟩:=a
   obtain ⟨W,i1,_,i3,i4,_⟩:=aDa (S:=Unit) J hb (A.bV (by grind)) (A.bV (by grind)) fa sy z (fun _=>none)
   rw [<-(i4 y q).1];exact i3.1
  rw [if_neg O] at q
  by_cases I:k0.k=11
  ·rw [if_pos I] at q
   obtain ⟨p,l,r,hb⟩:=azt (E5 A I (n:=3) rfl)
   rw [hb] at q
   obtain ⟨x1,x2,x3,x4,x5,x6⟩:=a
   obtain ⟨W,i1,_,i3,i4,_⟩:=aC9 (S:=Unit) hk hb (A.bV (by grind)) (A.bV (by grind)) (A.bV (by grind)) fa sy z (fun _=>none)
   rw [<-(i4 y q).1];exact i3.1
  rw [if_neg I] at q
  by_cases h3:k0.k=3
  ·grind
  rw [if_neg h3] at q
  exact (aG5 hk ft E (by grind) q).1.1
theorem aJb {defs:List Df} (hd:FK k defs) (t:Tm):pw (if (K3 defs t).2=true then ((K3 defs t).1,true,(0:Int)) else (ov,false,0)).1:=by
 refine HN (fun h=> ?_) fun _=>Jn
 unfold K3 at h ⊢
 by_cases h2:t.k=2
 ·rw [if_pos h2] at h ⊢
  cases hf:defs.find? fun d=>decide (d.name=t.name) with
  |none=>grind
  |some d=>exact (hd.2 d (List.mem_of_find?_eq_some hf)).1
 grind
theorem r' {r s:Tm×Bool×Int} (q:pw r.1) (hs:pw s.1):pw (aux r s).1:=HN (fun _=>q) fun _=>hs
theorem aIS {defs:List Df} (hd:FK k defs) {t:Tm} (q:pw t):pw (nf defs t).1:=by
 unfold nf
 refine HN (fun _=>Jn) fun x=> ?_
 have ft:Fm t:=⟨q,Decidable.not_not.1 x⟩
 exact r' (aE1 ft) (r' (acE zh.f3 (ft.isIn zh.f3)).1 (r' (aI9 ft) (r' (aF3 ft) (aJb hd t))))
theorem Iq {defs:List Df} (hd:FK k defs) {t:Tm} (q:pw t) (h:(nf defs t).2.1=true):Fm (nf defs t).1/\(nf defs t).2.2=0:=
 ⟨⟨aIS hd q,(aDp hd t h).1⟩,(aDp hd t h).2⟩
noncomputable def oS {α:Type} (a b:α):Bool:= @decide (a=b) (Classical.propDecidable _)
theorem Qt {α:Type} {a b:α} (h:a=b):oS a b=true:=by grind [oS]
theorem LD {α:Type} {a b:α} (h:a≠b):oS a b=false:=by grind [oS]
section
variable {hd:B9 S}
theorem aGO (I:Bool->OS S) {l z:LT} (E: ∀y∈l,∀u g,hd y u g=g (oS y u)) (hl:l.length<4294967296):
  ∀ (r s p q:LT) (m:Nat),l=p++r->z=q++s->p.length=q.length->r.length=s.length->r.length<m->xr hd k I z l m (p.length:Int)=I (oS r s):=by
 intro r
 induction r with
 |nil=>
  grind [pz,xr,qG,n3,Qt]
 |cons x r F=>
  intro s p q m h h2 hp hs J
  obtain ⟨m,rfl,A⟩:=pz J
  obtain ⟨L,M,O,T⟩:=qI h (by omega)
  cases s with
  |nil=>simp at hs
  |cons y s=>
  have g2:af z (p.length:Int)=some y:=by rw [h2,hp];exact ED (n:=q.length) rfl (by simp)
  simp only [xr,qG,L,ae,M,g2,qm,ar,E x (by grind),O]
  by_cases B:x=y
  ·subst B
   rw [Qt rfl,va,n3,F s (p++[x]) (q++[x]) m T (by grind) (by simp [hp]) (by grind) A]
   by_cases W:r=s<;>grind [Qt,LD,List.cons.inj]
  grind [LD,ae,List.cons.inj]
theorem aC8 (hk:4294967296<=k) (I:Bool->OS S) {l:LT} (x:LT) (z: ∀y∈l,∀u g,hd y u g=g (oS y u)) (hl:l.length<4294967296):fB hd k l x I=I (oS l x):=by
 simp only [fB,aAm]
 by_cases h:l.length=x.length
 ·rw [h,beq_self_eq_true,va,n3]
  exact aGO I z hl l x [] [] k rfl rfl rfl h (by omega)
 ·rw [beq_false_of_ne (by omega),sV,ae,LD (fun q=>h (congrArg EO q))]
theorem aGP (hk:4294967296+1<=k) (I:Bool->OS S) {l B:LB} (L: ∀b∈l,∀y∈b.c,∀u g,hd y u g=g (oS y u)) (hb: ∀b∈l,b.c.length<4294967296/\b.f.length<4294967296) (hl:l.length<4294967296):
  ∀ (r s p q:LB) (m:Nat),l=p++r->B=q++s->p.length=q.length->r.length=s.length->r.length<m->x0 hd k I B l m (p.length:Int)=I (oS r s):=by
 have z:Fu k:=by omega
 intro r
 induction r with
 |nil=>
  grind [pz,x0,xu,n3,Qt]
 |cons x r M=>
  intro s p q m h h2 hp hs O
  obtain ⟨m,rfl,E⟩:=pz O
  obtain ⟨T,W,Y,e4⟩:=qI h (by omega)
  cases s with
  |nil=>simp at hs
  |cons y s=>
  have g2:af B (p.length:Int)=some y:=by rw [h2,hp];exact ED (n:=q.length) rfl (by simp)
  obtain ⟨b1,b2⟩:=hb x (by grind)
  have hx: ∀g:Bool->OS S,dd hd k x y g=g (oS x y):=fun g=>by
   obtain ⟨f,J⟩:=x
   obtain ⟨f',A⟩:=y
   simp only [dd,ag z,ix z b2,aC8 (by omega) _ A (L ⟨f,J⟩ (by grind)) b1]
   by_cases hf:f=f'
   ·subst hf
    rw [decide_eq_true rfl,ae]
    by_cases ad:J=A<;>simp_all [Qt,LD]
   simp_all [n3,LD]
  simp only [x0,xu,T,ae,W,g2,qm,ag z,hx,Y]
  by_cases F:x=y
  ·subst F
   rw [Qt rfl,va,n3,M s (p++[x]) (q++[x]) m e4 (by grind) (by simp [hp]) (by grind) E]
   by_cases ao:r=s<;>grind [Qt,LD,List.cons.inj]
  grind [LD,ae,List.cons.inj]
end
theorem aID (t:Tm):pw t-> ∀ {k:Nat} (u:Tm) (I:Bool->OS S),Fd k (am t+1)->Lx k t u I=I (oS t u):=by
 induction t using c7 with
 |h t E F=>
  intro B k u I hk
  obtain ⟨q,rfl⟩: ∃q,k=q+1:=⟨k-1,by omega⟩
  have hq:4294967296+1<=q:=by grind [H3]
  have x:Fu q:=by omega
  obtain ⟨o1,o2,o3,o4,o5,o6,o7⟩:=B.no
  have ad:4294967296+(am t+1)<=q+1:=hk
  have hQ: ∀y∈t.c,∀ (v:Tm) (g:Bool->OS S),Lx q y v g=g (oS y v):=fun y z v g=>E y z (B.ki z) v g (by have:=bY z;omega)
  have J: ∀b∈t.s,∀y∈b.c,∀ (v:Tm) (g:Bool->OS S),Lx q y v g=g (oS y v):=fun b hb y z v g=>F b hb y z ((B.bi hb).2 y z) v g (by have:=b8 hb z;omega)
  have hS: ∀ (A:LB) (g:Bool->OS S),u' (Lx q) q t.s A g=g (oS t.s A):=fun A g=>by
   simp only [u',qn]
   by_cases h:t.s.length=A.length
   ·rw [h,beq_self_eq_true,va,n3]
    exact aGP hq g J (fun b hb=>by have:=(B.bi hb).1;omega) (by omega) t.s A [] [] q rfl rfl rfl h (by omega)
   ·rw [beq_false_of_ne (by omega),sV,ae,LD (fun q=>h (congrArg EO q))]
  have e:Lx (q+1) t u I=aAr (Lx q) q I t u:=rfl
  rw [e]
  simp only [aAr,ag x,Jq,ix x (show t.r.length<4294967296 by omega),aC8 x _ u.c hQ (show t.c.length<4294967296 by omega),hS]
  obtain ⟨a1,a2,a3,a4,a5,L⟩:=t
  obtain ⟨M,O,T,W,Y,b6⟩:=u
  show ab (a1==M) (ab (a2==O) (ab (decide (a3=T)) (ab (decide (a4=W)) (ab (oS a5 Y) (I (oS L b6)) (I false)) (I false)) (I false)) (I false)) (I false)=_
  by_cases h1:a1=M
  case neg=>simp_all [beq_false_of_ne,n3,LD]
  by_cases h2:a2=O
  case neg=>simp_all [ae,beq_false_of_ne,n3,LD]
  by_cases h3:a3=T
  case neg=>simp_all [ae,n3,LD]
  by_cases h4:a4=W
  case neg=>simp_all [ae,n3,LD]
  by_cases h5:a5=Y
  case neg=>simp_all [ae,LD,n3]
  subst h1;subst h2;subst h3;subst h4;subst h5
  rw [beq_self_eq_true,ae,beq_self_eq_true,ae,decide_eq_true rfl,ae,decide_eq_true rfl,ae,Qt rfl,ae]
  by_cases h6:L=b6<;>simp_all [Qt,LD]
def JT (t:Tm):Prop:=pw t/\am t<=300/\au t<=1000000
theorem JT.isIn {t:Tm} (h:JT t) (hk:F3 k):In k t:=⟨h.1,hk.fd (by have:=h.2.1;omega),by have:=h.2.2;omega⟩
theorem Fm.jt {t:Tm} (h:Fm t):JT t:=⟨h.ok,by have:=h.dep;omega,by have:=h.dP;omega⟩
def ID (defs:List Df):Prop:=defs.length<1073741824/\ ∀d∈defs,JT d.body
theorem ID.isIn {defs:List Df} (h:ID defs) (hk:F3 k):FK k defs:=⟨h.1,fun d hd=>(h.2 d hd).isIn hk⟩
theorem aIP: ∀ {l:LT} {i:Nat} {a:Tm},aZ l->pw a->aZ (l.set i a)/\aH (l.set i a)<=max (aH l) (am a)/\ay (l.set i a)<=ay l+au a:=by
 intro l
 induction l with
 |nil=>grind
 |cons x l q=>
  intro i a h ha
  rw [aZ] at h
  cases i<;>grind [aZ,aH,ay]
theorem azV {t a:Tm} {i:Nat} (ft:Fm t) (fa:Fm a):JT (atR t i a):=by
 have h1:=ft.ok;have h2:=ft.dep;have q:=ft.dP;have z:=fa.dep;have A:=fa.dP
 obtain ⟨kd,n,nm,r,x,sys⟩:=t
 rw [pw] at h1
 rw [am] at h2
 rw [au] at q
 obtain ⟨B,q2,E⟩:=aIP (i:=i) h1.2.1 fa.ok
 obtain ⟨F,I,J,L,M,O,T⟩:=h1.1
 show JT (.mk kd n nm r (x.set i a) sys)
 refine ⟨?_, ?_, ?_⟩
 all_goals grind [pw,am,au]
def re (t:Tm):List Nat:=(if 0<=Jl t then [(Jl t).toNat] else [])++(if t.k=14/\(kd0 t).k=23 then [1] else [])
def ME (x:Except Int (Tm×Nat)) (R:py (Int×Int) (Tm×Int)):Prop:=match x with
 | .ok p=>R= .ok (p.1,(p.2:Int))
 | .error e=> ∃c,R= .bD (e,c)
theorem aIM (hk:F3 k) {hd:Mk S} {t bV:Tm} {i:Nat} {defs:List Df} {f:Int} (ft:Fm t) (q:af t.c (i:Int)=some bV) {R:py (Int×Int) (Tm×Int)} (x: ∀g,hd bV defs f g=g R) (z: ∀a c,R= .ok (a,c)->Fm a) (I:py (Int×Int) (Tm×Bool×Int)->OS S):
  Nr hd k t (i:Int) defs f I=I (match R with
   | .bD e=> .bD e
   | .ok p=>if oS p.1 bV=true then .ok (t,false,p.2) else .ok (atR t i p.1,true,p.2)):=by
 simp only [Nr,ar,q,qm,x]
 cases R with
 |bD e=>rfl
 |ok p=>
  obtain ⟨a,c⟩:=p
  have fa:=z a c rfl
  show (Lx k a bV fun A=>_)=_
  rw [aID a fa.ok bV _ (hk.fd (by have:=fa.dep;omega))]
  dsimp only
  cases oS a bV with
  |true=>rfl
  |false=>
   have:=ft.ok.no.2.2.2.2.2.1
   rw [n3,if_neg (by decide),J5 (by omega)]
   rfl
noncomputable abbrev hA (defs:List Df):=cz (nf defs) re 220
noncomputable abbrev hP (defs:List Df):=eT (nf defs) re 220
def wa (f:Nat) (x:Except Int (Tm×Nat)):Prop:= ∀a r,x= .ok (a,r)->Fm a/\r<=f
theorem r8 {defs:List Df} {t:Tm} (h:(nf defs t).2.2=0):bw t=0:=by
 grind [nf]
noncomputable def ayO (t:Tm) (i:Nat) (bV:Tm):py (Int×Int) (Tm×Int)->py (Int×Int) (Tm×Bool×Int)
 | .bD e=> .bD e
 | .ok p=>if oS p.1 bV=true then .ok (t,false,p.2) else .ok (atR t i p.1,true,p.2)
theorem zw {defs:List Df} {n f:Nat} {t:Tm} {i:Nat} {l:List Nat}:(∀e,hA defs n f (xS t i)= .error e->hP defs n f t (i::l)= .error e)/\
  (∀a r,hA defs n f (xS t i)= .ok (a,r)->oS a (xS t i)=true->hP defs n f t (i::l)=hP defs n r t l)/\
  ∀a r,hA defs n f (xS t i)= .ok (a,r)->oS a (xS t i)=false->hP defs n f t (i::l)=hA defs n r (atR t i a):=by
 grind [eT,oS]
theorem ve {defs:List Df} {n f:Nat} {t:Tm} {i:Nat} {l:List Nat} {W:(py (Int×Int) (Tm×Bool×Int)->OS S)->OS S} {R:py (Int×Int) (Tm×Int)}
  (q:ME (hA defs n f (xS t i)) R)
  (z: ∀g,W g=g (ayO t i (xS t i) R))
  {L:(py (Int×Int) (Tm×Int)->OS S)->Int->Tm->OS S} {N:(py (Int×Int) (Tm×Int)->OS S)->Int->OS S}
  (B: ∀a r,hA defs n f (xS t i)= .ok (a,r)->hA defs n r (atR t i a)≠ .error 0-> ∃R',ME (hA defs n r (atR t i a)) R'/\ ∀I,L I (r:Int) (atR t i a)=I R')
  (E: ∀a r,hA defs n f (xS t i)= .ok (a,r)->hP defs n r t l≠ .error 0-> ∃R',ME (hP defs n r t l) R'/\ ∀I,N I (r:Int)=I R')
  (F:hP defs n f t (i::l)≠ .error 0):
  ∃R',ME (hP defs n f t (i::l)) R'/\ ∀I:py (Int×Int) (Tm×Int)->OS S,(W fun r6=>py.elim r6 (fun r6=>ab r6.2.1 (L I r6.2.2 r6.1) (N I r6.2.2)) fun e=>I (.bD (e.1,e.2)))=I R':=by
 simp only [z]
 obtain ⟨A,J,M⟩:=zw (defs:=defs) (n:=n) (f:=f) (t:=t) (i:=i) (l:=l)
 cases x:hA defs n f (xS t i) with
 |error e=>
  rw [x] at q
  obtain ⟨c,rfl⟩:=q
  rw [A e x]
  exact ⟨.bD (e,c),⟨c,rfl⟩,fun _=>rfl⟩
 |ok p=>
  obtain ⟨a,r⟩:=p
  rw [x] at q
  have q:R= .ok (a,(r:Int)):=q
  grind [oS,ayO,py.elim,n3,ae]
theorem aGi:JT ov:=⟨Jn,by decide,by decide⟩
theorem Ms {t:Tm} (ft:Fm t) (i:Nat):JT (xS t i):=by
 unfold xS
 by_cases h:i<t.c.length
 ·have q:t.c.getD i ov∈t.c:=(xG rfl h).2
  have h1:=bY q
  have h2:=k_ q
  have z:ay t.c<=au t:=by
   obtain ⟨kd,n,nm,r,x,sys⟩:=t
   show ay x<=_
   rw [au];omega
  have:=ft.dep;have:=ft.dP
  exact ⟨ft.ok.ki q,by omega,by omega⟩
 grind [aGi]
theorem fc {defs:List Df} (hd:ID defs): ∀n,(∀f t,JT t->wa f (hA defs n f t))/\ ∀l f t,Fm t->wa f (hP defs n f t l):=by
 have hk:F3 4294970296:=zh.f3
 have E: ∀n,(∀f t,JT t->wa f (hA defs n f t))-> ∀l f t,Fm t->wa f (hP defs n f t l):=by
  intro n x l
  induction l with
  |nil=>
   intro f t ft a r h
   grind [eT]
  |cons i l z=>
   intro f t ft a r h
   obtain ⟨L,F,I⟩:=zw (defs:=defs) (n:=n) (f:=f) (t:=t) (i:=i) (l:=l)
   cases A:hA defs n f (xS t i) with
   |error e=>grind
   |ok p=>
    obtain ⟨b,s⟩:=p
    obtain ⟨fb,hs⟩:=x f _ (Ms ft i) b s A
    cases hb:oS b (xS t i) with
    |true=>rw [F b s A hb] at h;obtain ⟨B,q2⟩:=z s t ft a r h;grind
    |false=>rw [I b s A hb] at h;obtain ⟨B,q2⟩:=x s _ (azV ft fb) a r h;grind
 intro n
 induction n with
 |zero=>
  grind [wa,cz]
 |succ n z=>
  have h1: ∀f t,JT t->wa f (hA defs (n+1) f t):=by
   intro f t jt a r h
   have h:cz (nf defs) re 220 (n+1) f t= .ok (a,r):=h
   rw [cz] at h
   split at h
   ·cases h
   rename_i c1
   split at h
   ·rename_i c2;exact z.2 _ f t ⟨jt.1,r8 c2.2⟩ a r h
   rename_i c2
   split at h
   ·cases h
   rename_i c3
   have M:(nf defs t).2.2=0:=Decidable.byContradiction fun q=>c1 ⟨q,c3⟩
   have J:(nf defs t).2.1=true:=by
    grind
   obtain ⟨B,q2⟩:=z.1 (f-1) _ (Iq (hd.isIn hk) jt.1 J).1.jt a r h
   grind
  grind
theorem aGI {defs:List Df} (hd:ID defs): ∀n k m,n<=m->4294970296+n<=k-> ∀f t,f<=100000->JT t->hA defs n f t≠ .error 0->
  ∃R,ME (hA defs n f t) R/\ ∀I:py (Int×Int) (Tm×Int)->OS S,M0 (Ez k) k I defs m (f:Int) t=I R:=by
 intro n
 induction n with
 |zero=>grind [cz]
 |succ n ih=>
  intro k m hm ax f t hf jt h
  have O:F4 k:=by omega
  have hk:=O.f3
  obtain ⟨m,rfl⟩: ∃j,m=j+1:=⟨m-1,by omega⟩
  have hL:=ih k m (by omega) (by omega)
  change cz (nf defs) re 220 (n+1) f t≠_ at h
  change ∃R,ME (cz (nf defs) re 220 (n+1) f t) R/\_
  rw [cz] at h ⊢
  simp only [M0,ayZ,ag hk.fu,ar,aIB O (hd.isIn hk) (jt.isIn hk) (show (0:Int)<=(f:Int)/\(f:Int)<=100000 by omega)]
  by_cases c1:(nf defs t).2.2≠0/\f≠0
  ·have J:MW defs t (f:Int)= .bD ((nf defs t).2.2,(f:Int)):=by
    grind [MW]
   rw [if_pos c1,J]
   exact ⟨.bD ((nf defs t).2.2,(f:Int)),⟨_,rfl⟩,fun _=>rfl⟩
  have az: ¬((nf defs t).2.2≠0/\(0:Int)<(f:Int)):=fun q=>c1 ⟨q.1,by omega⟩
  rw [if_neg c1] at h ⊢
  by_cases c2:(nf defs t).2.1=false/\(nf defs t).2.2=0
  ·have J:MW defs t (f:Int)= .ok (t,false,(f:Int)):=by
    grind [MW]
   rw [if_pos c2] at h ⊢
   rw [J]
   have ft:Fm t:=⟨jt.1,r8 c2.2⟩
   have hK: ∀i z,z<=100000->hA defs n z (xS t i)≠ .error 0->i<t.c.length-> ∃R,ME (hA defs n z (xS t i)) R/\ ∀g:py (Int×Int) (Tm×Bool×Int)->OS S,Nr (Ez k) k t (i:Int) defs (z:Int) g=g (ayO t i (xS t i) R):=by
    intro i z E F hi
    obtain ⟨j,rfl⟩: ∃j,k=j+1:=⟨k-1,by omega⟩
    obtain ⟨R,B,q2⟩:=ih j j (by omega) (by omega) z (xS t i) E (Ms ft i) F
    have fR: ∀a c,R= .ok (a,c)->Fm a:=by
     intro a c e
     cases M:hA defs n z (xS t i) with
     |error e'=>rw [M] at B;obtain ⟨c',B⟩:=B;grind
     |ok p=>
      rw [M] at B
      have B:R= .ok (p.1,(p.2:Int)):=B
      rw [B] at e
      injection e with e;injection e with e1 e2
      exact e1▸(((fc hd n).1 z _ (Ms ft i)) p.1 p.2 M).1
    refine ⟨R,B,fun g=> ?_⟩
    have hh: ∀g,Ez (j+1) (xS t i) defs (z:Int) g=g R:=fun g=>by
     rw [<-q2 g]
     simp only [Ez,n',ar]
    rw [aIM (hd:=Ez (j+1)) hk ft (bV:=xS t i) (xG rfl hi).1 (R:=R) hh fR g]
    cases R<;>rfl
   have hE: ∀z,∃R',ME (hP defs n z t []) R'/\ ∀I:py (Int×Int) (Tm×Int)->OS S,I (.ok (t,(z:Int)))=I R':=fun z=>by
    simp_all [ME,eT]
   have ao: ∀i z a r,hA defs n z (xS t i)= .ok (a,r)->Fm a/\r<=z:=fun i z a r h=>((fc hd n).1 z _ (Ms ft i)) a r h
   have F: ∀i l z,hP defs n z t (i::l)≠ .error 0->hA defs n z (xS t i)≠ .error 0:=fun i l z h q=>h (zw.1 0 q)
   have T: ∀i z,z<=100000-> ∀a r,hA defs n z (xS t i)= .ok (a,r)->hA defs n r (atR t i a)≠ .error 0->
     ∃R',ME (hA defs n r (atR t i a)) R'/\ ∀I:py (Int×Int) (Tm×Int)->OS S,M0 (Ez k) k I defs m (r:Int) (atR t i a)=I R':=
    fun i z E a r M hn=>hL r _ (by grind) (azV ft (ao i z a r M).1) hn
   have W: ∀z,z<=100000->hP defs n z t (if t.k=14/\(kd0 t).k=23 then [1] else [])≠ .error 0->
     ∃R',ME (hP defs n z t (if t.k=14/\(kd0 t).k=23 then [1] else [])) R'/\ ∀I:py (Int×Int) (Tm×Int)->OS S,
      (ab (t.k==14) ((af t.c 0).bind fun x8=>ab (x8.k==23) (Nr (Ez k) k t 1 defs (z:Int) fun A=>py.elim A (fun A=>ab A.2.1 (M0 (Ez k) k I defs m A.2.2 A.1) (I (.ok (t,A.2.2)))) fun e=>I (.bD (e.1,e.2))) (I (.ok (t,(z:Int))))) (I (.ok (t,(z:Int)))))=I R':=by
    intro z E h
    by_cases Y:t.k=14
    ·have hl:t.c.length=2:=E5 ft Y rfl
     have hg:af t.c 0=some (kd0 t):=(xG (i:=0) hl (by omega)).1
     simp only [Y,hg,qm,show ((14:Int)==14)=true from rfl,ae,true_and] at h ⊢
     by_cases ad:(kd0 t).k=23
     ·rw [if_pos ad] at h ⊢
      simp only [ad,show ((23:Int)==23)=true from rfl,ae]
      obtain ⟨R,B,q2⟩:=hK 1 z E (F 1 [] z h) (by omega)
      exact ve (L:=fun I r x=>M0 (Ez k) k I defs m r x) (N:=fun I r=>I (.ok (t,r))) B q2 (T 1 z E) (fun a r _ _=>hE r) h
     simp_all [n3,beq_false_of_ne]
    simp_all [n3,beq_false_of_ne]
   have hM:0<=Jl t->(Jl t).toNat<t.c.length:=by
    intro h0
    have a6:=ft.nk
    unfold Jl bt at h0 ⊢
    rw [if_neg (by omega)] at h0 ⊢
    split at h0
    ·rename_i q
     have:0<ct t.k:=by rcases q with q|q|q|q|q|q|q<;>rw [q]<;>decide
     omega
    ·rename_i q
     rw [if_neg q]
     split at h0
     ·rename_i q2
      have:3<ct t.k:=by rw [q2];decide
      omega
     ·rename_i q2
      rw [if_neg q2]
      split at h0
      ·rename_i q3
       have:4<ct t.k:=by rw [q3];decide
       omega
      ·omega
   change eT (nf defs) re 220 n f t (re t)≠_ at h
   simp only [py.elim,n3,aIs hk]
   unfold re at h ⊢
   by_cases c:0<=Jl t
   ·rw [if_pos c] at h ⊢
    have hi:=hM c
    obtain ⟨R,B,q2⟩:=hK (Jl t).toNat f hf (F _ _ f h) hi
    have hc:(((Jl t).toNat:Nat):Int)=Jl t:=by omega
    rw [hc] at q2
    simp only [decide_eq_true (show Jl t>=0 from c),ae]
    exact ve (L:=fun I r x=>M0 (Ez k) k I defs m r x) (N:=fun I r=>ab (t.k==14) ((af t.c 0).bind fun x8=>ab (x8.k==23) (Nr (Ez k) k t 1 defs r fun A=>py.elim A (fun A=>ab A.2.1 (M0 (Ez k) k I defs m A.2.2 A.1) (I (.ok (t,A.2.2)))) fun e=>I (.bD (e.1,e.2))) (I (.ok (t,r)))) (I (.ok (t,r)))) B q2 (T _ f hf) (fun a r M hn=>W r (by grind) hn) h
   ·rw [if_neg c] at h ⊢
    simp only [decide_eq_false (show ¬(Jl t>=0) from c),n3]
    exact W f hf h
  rw [if_neg c2] at h ⊢
  by_cases c3:f=0
  ·have J:MW defs t (f:Int)= .bD (220,(f:Int)):=by
    grind [MW]
   rw [if_pos c3,J]
   exact ⟨.bD (220,(f:Int)),⟨_,rfl⟩,fun _=>rfl⟩
  rw [if_neg c3] at h ⊢
  have J:MW defs t (f:Int)= .ok ((nf defs t).1,true,(f:Int)-1):=by
   grind [MW]
  have e0:(nf defs t).2.2=0:=Decidable.byContradiction fun q=>c1 ⟨q,c3⟩
  have e1:(nf defs t).2.1=true:=by
   grind
  obtain ⟨R,B,q2⟩:=hL (f-1) _ (by omega) (Iq (hd.isIn hk) jt.1 e1).1.jt h
  refine ⟨R,B,fun I=> ?_⟩
  rw [<-q2 I,show ((f-1:Nat):Int)=(f:Int)-1 by omega,J]
  rfl
end
section
open Go PI
variable {st:Tm->Tm×Bool×Int} {pl:Tm->List Nat} {eF:Int}
theorem a7: ∀ (n:Nat),(∀f t a r,cz st pl eF n f t= .ok (a,r)->r<=f/\(r=f->a=t))/\
  ∀ (l:List Nat) f t a r,eT st pl eF n f t l= .ok (a,r)->r<=f/\(r=f->a=t):=by
 have hP: ∀n,(∀f t a r,cz st pl eF n f t= .ok (a,r)->r<=f/\(r=f->a=t))-> ∀ (l:List Nat) f t a r,eT st pl eF n f t l= .ok (a,r)->r<=f/\(r=f->a=t):=by
  intro n hA l
  induction l<;>grind [eT]
 intro n
 induction n<;>grind [cz]
theorem aK_: ∀ (n:Nat),(∀f t,cz st pl eF n f t≠ .error 0->cz st pl eF (n+1) f t=cz st pl eF n f t)/\
  ∀ (l:List Nat) f t,eT st pl eF n f t l≠ .error 0->eT st pl eF (n+1) f t l=eT st pl eF n f t l:=by
 have hP: ∀n,(∀f t,cz st pl eF n f t≠ .error 0->cz st pl eF (n+1) f t=cz st pl eF n f t)-> ∀ (l:List Nat) f t,eT st pl eF n f t l≠ .error 0->eT st pl eF (n+1) f t l=eT st pl eF n f t l:=by
  intro n hA l
  induction l<;>grind [eT]
 intro n
 induction n<;>grind [cz]
theorem aKW {n m:Nat} (h:n<=m) {f:Nat} {t:Tm} (x:cz st pl eF n f t≠ .error 0):cz st pl eF m f t=cz st pl eF n f t:=by
 induction m with
 |zero=>grind
 |succ m q=>
  by_cases e:n=m+1
  ·rw [e]
  ·have:=q (by omega)
   simp_all [aK_]
end
section
open Go PI
variable {S:Type} {k:Nat}
theorem aHf {t:Tm} (ft:Fm t) {i:Nat} (h:i∈re t):i<t.c.length:=by
 have z:=ft.nk
 unfold re at h
 rcases xA.1 h with h|h
 ·split at h
  ·rename_i x
   obtain rfl:i=(Jl t).toNat:=by grind
   unfold Jl bt at x ⊢
   rw [if_neg (by omega)] at x ⊢
   split at x
   ·rename_i q
    have:0<ct t.k:=by rcases q with q|q|q|q|q|q|q<;>rw [q]<;>decide
    omega
   ·rename_i q
    rw [if_neg q]
    split at x
    ·rename_i q2
     have:3<ct t.k:=by rw [q2];decide
     omega
    ·rename_i q2
     rw [if_neg q2]
     split at x
     ·rename_i A
      have:4<ct t.k:=by rw [A];decide
      omega
     ·omega
  simp_all
 ·split at h
  ·rename_i x
   obtain rfl:i=1:=by grind
   have:t.c.length=2:=E5 ft x.1 rfl
   omega
  simp_all
theorem aGH {t:Tm} {i:Nat} (h:i<t.c.length):am (xS t i)+1<=am t:=by
 have q:t.c.getD i ov∈t.c:=(xG rfl h).2
 exact bY q
theorem aFK {defs:List Df} (hd:ID defs): ∀n f t,JT t->f*301+am t+1<=n->hA defs n f t≠ .error 0:=by
 intro n
 induction n with
 |zero=>simp
 |succ n B=>
  intro f t jt hn h
  have h:cz (nf defs) re 220 (n+1) f t= .error 0:=h
  rw [cz] at h
  split at h
  ·grind
  rename_i c1
  split at h
  ·rename_i c2
   have ft:Fm t:=⟨jt.1,r8 c2.2⟩
   have E:=jt.2.1
   have key: ∀l:List Nat,(∀i∈l,i<t.c.length)-> ∀x,x<=f->hP defs n x t l≠ .error 0:=by
    intro l
    induction l with
    |nil=>
     grind [eT]
    |cons i l F=>
     intro hl x z q
     have W:=aGH (hl i (by simp))
     have Y:x*301<=f*301:=HZ _ z
     have I:=B x (xS t i) (Ms ft i) (by omega)
     obtain ⟨p1,p2,J⟩:=zw (defs:=defs) (n:=n) (f:=x) (t:=t) (i:=i) (l:=l)
     cases A:hA defs n x (xS t i) with
     |error e=>grind
     |ok p=>
      obtain ⟨b,s⟩:=p
      obtain ⟨fb,hs⟩:=(fc hd n).1 x _ (Ms ft i) b s A
      cases hb:oS b (xS t i) with
      |true=>grind
      |false=>
       rw [J b s A hb] at q
       have L:s≠x:=fun e=>by
        have:=((a7 n).1 _ _ _ _ A).2 e
        grind [oS]
       have M:=azV (i:=i) ft fb
       have:=M.2.1
       grind
   grind [aHf]
  rename_i c2
  split at h
  ·grind
  rename_i c3
  have e0:(nf defs t).2.2=0:=Decidable.byContradiction fun q=>c1 ⟨q,c3⟩
  have O:(nf defs t).2.1=true:=by
   grind
  have T:=(Iq (hd.isIn zh.f3) jt.1 O).1.jt
  have:=T.2.1
  grind
def nH:Nat:=40000000
theorem aAZ {defs:List Df} (hd:ID defs) {f:Nat} (hf:f<=100000) {t:Tm} (jt:JT t):hA defs nH f t≠ .error 0:=
 aFK hd nH f t jt (by have:=jt.2.1;unfold nH;omega)
noncomputable def hdQ (defs:List Df) (f:Nat) (t:Tm):Tm×Int×Int:=match hA defs nH f t with
 | .ok p=>(p.1,(p.2:Int),0)
 | .error e=>(ov,0,e)
noncomputable def o' (defs:List Df) (t:Tm) (f:Int):Tm×Int×Int:=
 if bw t≠0 then (ov,0,bw t) else if f<0\/100000<f then (ov,0,2) else hdQ defs f.toNat t
end
section
open Go PI
def Hu (t:Tm):Except Int Tm:=if t.k=5 then .ok (kd0 t) else bE (wA 1 0 t) fun x=> .ok (dS 6 [x,vN 0])
def FG (t:Tm) (kd:Int):Tm:=if t.k=8 then t.c.getD (kd-9).toNat ov else dS kd [t]
def Ho (t p:Tm):Except Int Tm:=if t.k=12 then .ok (kd0 t) else
 bE (xk 0 [] (kd0 p)) fun l=>bE (xk 0 [⟨0,0⟩] (kd0 p)) fun r=>bE (wA 0 1 t) fun x=>bE (wA 0 1 l) fun q=>bE (wA 0 1 r) fun z=> .ok (fG [⟨1,0⟩] x q z)
def II (r:LC):List Int->Tm->Except Int Tm
 |[],t=> .ok t
 |i::l,t=>bE (ub (td i r false) (td i r true) 0 t) fun x=>II r l x
def KK (t:Tm) (c:Cl):Except Int Tm:=if bw t≠0 then .error (bw t) else if fE c=false\/bS c=true then .error 2 else
 bE (II [⟨0,0⟩] (Iy c.pos) t) fun x=>II [] (Iy c.neg) x
def FI:LC->LB->Except Int (LC)
 |h,[]=> .ok h
 |h,b::l=>if (EQ h b.f).2=0 then FI (EQ h b.f).1 l else .error (EQ h b.f).2
def Nd (c:Cl) (p:Tm×Tm):It:=match KK p.1 c with
 | .error e=> .err e
 | .ok x=>match KK p.2 c with
  | .error e=> .err e
  | .ok y=> .ask x y
def Mq (kd:Int) (c:Cl):Cl×Int:=if kd=15 then dw c 0 1 else (c,0)
def Ht (kd:Int) (f:LC) (a b:LT):List It:=f.flatMap fun c=>if (Mq kd c).2=0 then (a.zip b).map (Nd (Mq kd c).1) else [.err (Mq kd c).2]
def KN (f g:LC):LC×Int:=if cV f&&cV g then MN f g else ([],2)
def Sn (kd:Int) (x y:Br Tm):List It:=if (KN x.f y.f).2=0 then Ht kd (KN x.f y.f).1 x.c y.c else [.err (KN x.f y.f).2]
noncomputable def Mr (kd:Int) (a b:LB):List It:=match FI [] a with
 | .error e=>[.err e]
 | .ok f=>match FI [] b with
  | .error e=>[.err e]
  | .ok g=>if f≠g then [.no] else if a.map (·.f)=b.map (·.f) then (a.zip b).flatMap fun p=>Ht kd p.1.f p.1.c p.2.c
   else a.flatMap fun x=>b.flatMap fun y=>Sn kd x y
noncomputable def ee (x y:Tm):List It:=
 if x.k=5\/y.k=5 then (match Hu x with
  | .error e=>[.err e]
  | .ok f=>match Hu y with
   | .error e=>[.err e]
   | .ok g=>[.ask f g])
 else if x.k=8\/y.k=8 then [.ask (FG x 9) (FG y 9),.ask (FG x 10) (FG y 10)]
 else if x.k=12 then (match Ho y x with
  | .error e=>[.err e]
  | .ok g=>[.ask (kd0 x) g])
 else if y.k=12 then (match Ho x y with
  | .error e=>[.err e]
  | .ok g=>[.ask g (kd0 y)])
 else if x.k≠y.k\/x.n≠y.n\/x.name≠y.name\/x.r≠y.r then [.no]
 else if x.k=13 then [.ask (kd0 x) (kd0 y)]
 else (x.c.zip y.c).map (fun p=> .ask p.1 p.2)++Mr x.k x.s y.s
def aNg (i:It):Prop:=(∃c,i= .ask c c)\/ ∃e,i= .err e
theorem aOb {α:Type}: ∀ {l:List α} {p:α×α},p∈l.zip l->p.1=p.2:=by
 intro l
 induction l with
 |nil=>simp
 |cons x l q=>
  grind [List.zip_cons_cons]
theorem aOz {α:Type}: ∀ {l m:List α} {p:α×α},p∈l.zip m->(p.2,p.1)∈m.zip l:=by
 intro l
 induction l with
 |nil=>simp
 |cons x l q=>
  intro m p h
  cases m with
  |nil=>cases h
  |cons y m=>
   grind [List.zip_cons_cons]
theorem aPo (c:Cl) (t:Tm):aNg (Nd c (t,t)):=by
 unfold Nd
 dsimp only
 cases KK t c with
 |error e=>exact .inr ⟨e,rfl⟩
 |ok x=>exact .inl ⟨x,rfl⟩
theorem aPp {kd:Int} {f:LC} {a:LT}: ∀i∈Ht kd f a a,aNg i:=by
 intro i q
 obtain ⟨c,_,q⟩:=Ib.1 q
 split at q
 ·obtain ⟨p,hp,rfl⟩:=vh.1 q
  grind [aOb,aPo]
 ·obtain rfl:i=_:=by simpa using q
  exact .inr ⟨_,rfl⟩
theorem aNE: ∀x,∀i∈ee x x,aNg i:=by
 intro x i hi
 unfold ee at hi
 split at hi
 ·cases hf:Hu x with
  |error e=>rw [hf] at hi;obtain rfl:i=_:=by simpa using hi
            exact .inr ⟨_,rfl⟩
  |ok f=>rw [hf] at hi;obtain rfl:i=_:=by simpa using hi
         exact .inl ⟨_,rfl⟩
 split at hi
 ·rcases xt.1 hi with rfl|hi
  ·exact .inl ⟨_,rfl⟩
  ·obtain rfl:i=_:=by simpa using hi
   exact .inl ⟨_,rfl⟩
 split at hi
 ·rename_i q
  unfold Ho at hi
  rw [if_pos q] at hi
  obtain rfl:i=_:=by simpa using hi
  exact .inl ⟨_,rfl⟩
 rename_i q
 rw [if_neg (by simp)] at hi
 split at hi
 ·obtain rfl:i=_:=by simpa using hi
  exact .inl ⟨_,rfl⟩
 rcases xA.1 hi with hi|hi
 ·obtain ⟨p,hp,rfl⟩:=vh.1 hi
  rw [aOb hp]
  exact .inl ⟨_,rfl⟩
 ·unfold Mr at hi
  cases hf:FI [] x.s with
  |error e=>rw [hf] at hi;obtain rfl:i=_:=by simpa using hi
            exact .inr ⟨_,rfl⟩
  |ok f=>
   rw [hf] at hi
   dsimp only at hi
   rw [if_neg (by simp),if_pos rfl] at hi
   obtain ⟨p,hp,hi⟩:=Ib.1 hi
   grind [aOb,aPp]
def swI:It->It
 | .ask a b=> .ask b a
 |i=>i
theorem aPM (a b:Int):ep a b=ep b a:=by grind [ep]
theorem aPK (a b:Cl):d9 a b=d9 b a:=by grind [d9,aPM]
theorem aPL (f g:LC):KN f g=KN g f:=by
 unfold KN MN gN
 rw [Bool.and_comm]
 split
 ·refine age fun c=> ?_
  unfold dv
  rw [List.mem_filter,List.mem_filter]
  have: ∀ {f g:LC} {c:Cl},c∈meets f g->c∈meets g f:=by
   grind [meets,aPK]
  grind
 ·rfl
def Sub (l m:List It):Prop:= ∀i∈l,(∀e,i≠ .err e)->swI i∈m
theorem aPh {kd:Int} {f:LC} {a b:LT}:Sub (Ht kd f a b) (Ht kd f b a):=by
 intro i q he
 obtain ⟨c,hc,q⟩:=Ib.1 q
 refine Ib.2 ⟨c,hc, ?_⟩
 split at q
 ·rename_i z
  rw [if_pos z]
  obtain ⟨p,hp,rfl⟩:=vh.1 q
  refine vh.2 ⟨(p.2,p.1),aOz hp, ?_⟩
  unfold Nd at he ⊢
  dsimp only
  cases h1:KK p.1 (Mq kd c).1 with
  |error e=>grind
  |ok x=>
   cases h2:KK p.2 (Mq kd c).1 with
   |error e=>rfl
   |ok y=>rfl
 grind
theorem aPD {kd:Int} {a b:LB} (hb: ∀e,.err e∉Mr kd b a):Sub (Mr kd a b) (Mr kd b a):=by
 intro i z he
 unfold Mr at z hb ⊢
 cases h1:FI [] a with
 |error e=>grind
 |ok f=>
  cases h2:FI [] b with
  |error e=>grind
  |ok g=>
   simp only [h1,h2] at z hb ⊢
   by_cases B:f=g
   ·subst B
    rw [if_neg (by simp)] at z hb ⊢
    by_cases A:a.map (·.f)=b.map (·.f)
    ·rw [if_pos A] at z
     rw [if_pos A.symm] at hb ⊢
     obtain ⟨p,hp,z⟩:=Ib.1 z
     refine Ib.2 ⟨(p.2,p.1),aOz hp, ?_⟩
     have hf: ∀ {a b:LB},a.map (·.f)=b.map (·.f)-> ∀ {p:Br Tm×Br Tm},p∈a.zip b->p.1.f=p.2.f:=by
      intro a
      induction a with
      |nil=>simp
      |cons x a L=>
       intro b E p h
       cases b<;>grind [List.zip_cons_cons]
     dsimp only
     rw [<-hf A hp]
     exact aPh i z he
    ·rw [if_neg A] at z
     rw [if_neg (fun q=>A q.symm)] at hb ⊢
     obtain ⟨x,F,z⟩:=Ib.1 z
     obtain ⟨y,I,z⟩:=Ib.1 z
     refine Ib.2 ⟨y,I,Ib.2 ⟨x,F, ?_⟩⟩
     unfold Sn at z ⊢
     rw [aPL y.f x.f]
     split at z
     ·rename_i J
      rw [if_pos J]
      exact aPh i z he
     grind
   ·rw [if_pos B] at z
    rw [if_pos (fun q=>B q.symm)]
    obtain rfl:i=_:=by simpa using z
    exact List.mem_singleton.2 rfl
theorem aPj {x y:Tm} (hb: ∀e,.err e∉ee y x):Sub (ee x y) (ee y x):=by
 intro i hi he
 unfold ee at hi hb ⊢
 by_cases B:x.k=5\/y.k=5
 ·rw [if_pos B] at hi
  rw [if_pos B.symm]
  cases h1:Hu x with
  |error e=>grind
  |ok f=>
   cases h2:Hu y with
   |error e=>grind
   |ok g=>
    rw [h1,h2] at hi
    obtain rfl:i=_:=by simpa using hi
    exact List.mem_singleton.2 rfl
 rw [if_neg B] at hi
 rw [if_neg (fun q=>B q.symm)] at hb ⊢
 by_cases E:x.k=8\/y.k=8
 ·rw [if_pos E] at hi
  rw [if_pos E.symm]
  rcases xt.1 hi with rfl|hi
  ·exact xt.2 (.inl rfl)
  ·obtain rfl:i=_:=by simpa using hi
   exact xt.2 (.inr (List.mem_singleton.2 rfl))
 rw [if_neg E] at hi
 rw [if_neg (fun q=>E q.symm)] at hb ⊢
 by_cases F:x.k=12
 ·rw [if_pos F] at hi
  have I:Ho x y= .ok (kd0 x):=by grind [Ho]
  by_cases z:y.k=12
  ·have J:Ho y x= .ok (kd0 y):=by grind [Ho]
   rw [J] at hi
   rw [if_pos z,I]
   obtain rfl:i=_:=by simpa using hi
   exact List.mem_singleton.2 rfl
  ·rw [if_neg z,if_pos F]
   cases h1:Ho y x with
   |error e=>grind
   |ok g=>rw [h1] at hi;obtain rfl:i=_:=by simpa using hi
          exact List.mem_singleton.2 rfl
 rw [if_neg F] at hi
 by_cases z:y.k=12
 ·rw [if_pos z] at hi
  rw [if_pos z]
  cases h1:Ho x y with
  |error e=>grind
  |ok g=>rw [h1] at hi;obtain rfl:i=_:=by simpa using hi
         exact List.mem_singleton.2 rfl
 rw [if_neg z] at hi
 rw [if_neg z,if_neg F] at hb ⊢
 by_cases hd:x.k≠y.k\/x.n≠y.n\/x.name≠y.name\/x.r≠y.r
 ·rw [if_pos hd] at hi
  rw [if_pos (by grind)]
  obtain rfl:i=_:=by simpa using hi
  exact List.mem_singleton.2 rfl
 have L: ¬(y.k≠x.k\/y.n≠x.n\/y.name≠x.name\/y.r≠x.r):=fun q=>hd (by grind)
 rw [if_neg hd] at hi
 rw [if_neg L] at hb ⊢
 have hk:x.k=y.k:=Decidable.byContradiction fun q=>hd (.inl q)
 rw [hk] at hi
 by_cases A:y.k=13
 ·rw [if_pos A] at hi ⊢
  obtain rfl:i=_:=by simpa using hi
  exact List.mem_singleton.2 rfl
 rw [if_neg A] at hi hb ⊢
 rcases xA.1 hi with hi|hi
 ·obtain ⟨p,hp,rfl⟩:=vh.1 hi
  exact xA.2 (.inl (vh.2 ⟨(p.2,p.1),aOz hp,rfl⟩))
 ·exact xA.2 (.inr (aPD (fun e q=>hb e (xA.2 (.inr q))) i hi he))
theorem aPk: ∀x y,(∀i∈ee x y,∃a b,i= .ask a b)->(.no∉ee y x)/\ ∀a b,.ask a b∈ee y x-> .ask b a∈ee x y:=by
 intro x y h
 have hb: ∀e,.err e∉ee x y:=fun e q=>by grind
 refine ⟨fun q=> ?_,fun a b q=> ?_⟩
 ·have:=aPj hb _ q (by simp)
  obtain ⟨a,b,q⟩:=h _ this;cases q
 ·exact aPj hb _ q (by simp)
variable {S:Type} {k:Nat}
theorem aOa {i:Int} {r:LC} {t x:Tm} (h:ub (td i r false) (td i r true) 0 t= .ok x):Wk t x:=
 Uj (fun d f g hf h=>rB hf h) (fun d f g hf h=>rB hf h) (fun d=>QI) t 0 x h
theorem aNJ (hk:F3 k) (I:Tm×Int->OS S) (q:Tm->Int->OS S) {x8:Vd} (L:RF x8.row) {c:Cl} {r5 r6:LC} {v:Int} {A:List Int} (B: ∀i∈A,0<=i/\i<24) (hl:A.length<=24):
  ∀ (r p:List Int) (m:Nat) (t:Tm),A=p++r->r.length<m->pw t->q7 t->am t<=200->
   SU k I q x8 c r5 r6 v A m t (p.length:Int)=eE (II x8.row r t) (fun x=>q x (ou .i64 (v+1))) fun e=>I (ov,e):=by
 intro r
 induction r with
 |nil=>
  intro p m t h E _ _ _
  obtain ⟨m,rfl,z⟩:=pz E
  simp only [SU,k4,xy h,n3,ar,II,aP]
 |cons i r M=>
  intro p m t h E F ro dt
  obtain ⟨m,rfl,z⟩:=pz E
  obtain ⟨O,T,W,Y⟩:=qI h (by omega)
  have hi:=B i (by rw [h];simp)
  simp only [SU,k4,O,ae,T,qm,ag hk.fu,ar,DF,DG,DH,W]
  rw [ahW hi L t F ro _ (hk.fd (by omega)) (by omega) (by omega),II,AS]
  cases J:ub (td i x8.row false) (td i x8.row true) 0 t with
  |error e=>
   have:=jK jD jD t J
   show ab (!(e==0)) _ _=_
   rw [dj (show e≠0 by omega),sV,ae];rfl
  |ok x=>
   obtain ⟨w1,w2,w3,w4⟩:=aOa J
   obtain ⟨q1,q2⟩:=w4 F ro
   exact M (p++[i]) m x Y z q1 q2 (by omega)
theorem aNk {row:LC}: ∀ {l:List Int} {t x:Tm},pw t->q7 t->II row l t= .ok x->pw x/\q7 x/\am x<=am t/\au x<=au t:=by
 intro l
 induction l with
 |nil=>intro t x q ro h;rw [II] at h;injection h with h;subst h;exact ⟨q,ro,bu _,bu _⟩
 |cons i l z=>
  intro t x q ro h
  rw [II] at h
  obtain ⟨y,h1,h⟩:=i8 h
  obtain ⟨E,F,I,A⟩:=aOa h1
  obtain ⟨B,q2⟩:=A q ro
  obtain ⟨z1,z2,z3,z4⟩:=z B q2 h
  exact ⟨z1,z2,by omega,by omega⟩
theorem aNU {s:Int}:(∀i∈ra s,0<=i/\i<24)/\(ra s).length<=24:=by
 unfold ra
 refine ⟨fun i q=> ?_, ?_⟩
 ·obtain ⟨j,hj,rfl⟩:=vh.1 q
  have:=(List.mem_filter.1 hj).1
  have:=List.mem_range.1 this
  exact ⟨Int.natCast_nonneg _,by show (j:Int)<24;omega⟩
 ·rw [List.length_map]
  exact xJ (List.length_filter_le _ _) (by rw [List.length_range];omega)
theorem aN_ {t x:Tm} {c:Cl} (q:pw t) (h:KK t c= .ok x):JT x:=by
 unfold KK at h
 split at h
 ·cases h
 rename_i z
 split at h
 ·cases h
 have ft:Fm t:=⟨q,Decidable.not_not.1 z⟩
 obtain ⟨y,h1,h⟩:=i8 h
 obtain ⟨a1,a2,a3,a4⟩:=aNk q ft.rows h1
 obtain ⟨A,B,E,F⟩:=aNk a1 a2 h
 have:=ft.dep;have:=ft.dP
 exact ⟨A,by omega,by omega⟩
theorem aNX {row:LC}: ∀ {l:List Int} {t:Tm} {e:Int},II row l t= .error e->0<e/\e<=1000:=by
 intro l
 induction l with
 |nil=>intro t e h;rw [II] at h;cases h
 |cons i l q=>
  intro t e h
  rw [II] at h
  rcases be h with h|⟨_,_,h⟩
  ·exact jK jD jD t h
  ·exact q h
theorem j' {t:Tm} {c:Cl} {e:Int} (h:KK t c= .error e):e≠0:=by
 unfold KK at h
 split at h
 ·rename_i q;injection h with h;subst h;exact q
 split at h
 ·injection h with h;subst h;decide
 rcases be h with h|⟨_,_,h⟩
 ·have:=aNX h;omega
 ·have:=aNX h;omega
theorem aN2 (hk:F3 k) {t:Tm} (q:In k t) {c:Cl} (hc:aX c) (I:Tm×Int->OS S):fD k t c I=I (tE (KK t c)):=by
 have B:4294968296<=k:=hk
 simp only [fD,aNq,ag hk.fu,ar,An q.1 q.2.1 q.dep]
 unfold KK
 by_cases z:bw t=0
 case neg=>rw [dj z,sV,ae,if_pos z];rfl
 rw [z,show (!((0:Int)==0))=false from rfl,n3,if_neg (by simp),Rg hk.fu hc]
 cases h1:fE c with
 |false=>rw [sV,ae,if_pos (.inl rfl)];rfl
 |true=>
 rw [va,n3,Rf hk.fu hc]
 cases h2:bS c with
 |true=>rw [ae,if_pos (.inr rfl)];rfl
 |false=>
 have ft:Fm t:=⟨q.1,z⟩
 have A:=ft.dep
 rw [n3,if_neg (by simp),vU t q.1 _ q.2.1]
 simp only [Qs,tK]
 obtain ⟨m,E⟩: ∃m,k=m+3:=⟨k-3,by omega⟩
 obtain ⟨m1,m2⟩:=aNU (s:=c.pos)
 obtain ⟨m3,m4⟩:=aNU (s:=c.neg)
 have F: ∀x,KZ k I c [⟨0,0⟩] [] (m+1) x 2=I (x,0):=fun x=>by
  simp only [KZ,k8]
  rw [show decide ((2:Int)<([(Vd.mk c.pos [⟨0,0⟩]),(Vd.mk c.neg [])].length:Int))=false from rfl,n3,ar]
 have J: ∀x,pw x->q7 x->am x<=200->KZ k I c [⟨0,0⟩] [] (m+2) x 1=eE (II [] (Iy c.neg) x) (fun y=>I (y,0)) fun e=>I (ov,e):=fun x L rx M=>by
  rw [KZ]
  simp only [k8]
  rw [show decide ((1:Int)<([(Vd.mk c.pos [⟨0,0⟩]),(Vd.mk c.neg [])].length:Int))=true from rfl,ae,show af [(Vd.mk c.pos [⟨0,0⟩]),(Vd.mk c.neg [])] 1=some (Vd.mk c.neg []) from rfl,qm,qm]
  simp only [vz,ar]
  have:=aNJ (v:=1) (x8:=Vd.mk c.neg []) hk I (KZ k I c [⟨0,0⟩] [] (m+1)) rA (c:=c) (r5:=[⟨0,0⟩]) (r6:=[]) m3 m4 (ra c.neg) [] k x rfl (by omega) L rx M
  refine pr this ?_
  rw [<-Ny hc.2]
  exact Dc (fun y _=>F y) fun e _=>rfl
 have O:KZ k I c [⟨0,0⟩] [] (m+3) t 0=I (tE (bE (II [⟨0,0⟩] (Iy c.pos) t) fun x=>II [] (Iy c.neg) x)):=by
  rw [KZ]
  simp only [k8]
  rw [show decide ((0:Int)<([(Vd.mk c.pos [⟨0,0⟩]),(Vd.mk c.neg [])].length:Int))=true from rfl,ae,show af [(Vd.mk c.pos [⟨0,0⟩]),(Vd.mk c.neg [])] 0=some (Vd.mk c.pos [⟨0,0⟩]) from rfl,qm,qm]
  simp only [vz,ar]
  have:=aNJ (v:=0) (x8:=Vd.mk c.pos [⟨0,0⟩]) hk I (KZ k I c [⟨0,0⟩] [] (m+2)) Qz (c:=c) (r5:=[⟨0,0⟩]) (r6:=[]) m1 m2 (ra c.pos) [] k t rfl (by omega) q.1 ft.rows A
  refine pr this ?_
  rw [Jx _ I,AS,<-Ny hc.1]
  refine Dc (fun y T=> ?_) fun e _=>rfl
  obtain ⟨a1,a2,a3,a4⟩:=aNk q.1 ft.rows T
  exact J y a1 a2 (by omega)
 have: ∀n,n=m+3->KZ k I c [⟨0,0⟩] [] n t 0=KZ k I c [⟨0,0⟩] [] (m+3) t 0:=fun n h=>by rw [h]
 exact (this k E).trans O
theorem aOY (hk:F3 k) (I:LC×Int->OS S) {l:LB} (hl:l.length<1073741824) (hb: ∀b∈l,aq b.f/\b.f.length<1073741824):
  ∀ (r p:LB) (m:Nat) (h:LC),l=p++r->r.length<m->aq h->h.length<1073741824->me k I l m (p.length:Int) h=eE (FI h r) (fun f=>I (f,0)) fun e=>I ([],e):=by
 intro r
 induction r with
 |nil=>
  intro p m f h A _ _
  obtain ⟨m,rfl,z⟩:=pz A
  simp only [me,Ih,xy h,n3,FI,aP]
 |cons x r F=>
  intro p m f h A of J
  obtain ⟨m,rfl,z⟩:=pz A
  obtain ⟨L,M,O,T⟩:=qI h (by omega)
  obtain ⟨B,W⟩:=hb x (by rw [h];simp)
  simp only [me,Ih,L,ae,M,qm,ag hk.fu,aH8 hk.fu of B J W,O]
  rw [FI]
  by_cases q:(EQ f x.f).2=0
  ·rw [q,show (!((0:Int)==0))=false from rfl,n3,if_pos rfl]
   have E:aq (EQ f x.f).1/\(EQ f x.f).1.length<1073741824:=by
    unfold EQ at q ⊢
    split
    ·rename_i c
     rw [if_pos c] at q
     have:=Lc of B q
     exact ⟨this.2,by have:=this.len;omega⟩
    ·exact ⟨fun c hc=>(by cases hc),by simp⟩
   exact F (p++[x]) m _ T z E.1 E.2
  ·rw [dj q,sV,ae,if_neg q];rfl
theorem aN7 (hk:F3 k) {l:LB} (hl:l.length<1073741824) (hb: ∀b∈l,aq b.f/\b.f.length<1073741824) (I:LC×Int->OS S):B0 k l I=eE (FI [] l) (fun f=>I (f,0)) fun e=>I ([],e):=by
 have q:4294968296<=k:=hk
 simp only [B0,aNs]
 exact aOY hk I hl hb l [] k [] rfl (by omega) (fun c hc=>by cases hc) (by simp)
theorem dn: ∀ {l:LB} {h:LC} {e:Int},FI h l= .error e->e≠0:=by
 intro l
 induction l with
 |nil=>intro h e q;rw [FI] at q;cases q
 |cons x l z=>
  intro h e q
  rw [FI] at q
  split at q
  ·exact z q
  ·rename_i c;injection q with q;subst q;exact c
theorem aOD: ∀ {l:LB} {h f:LC},h.length<=64->FI h l= .ok f->f.length<=64:=by
 intro l
 induction l with
 |nil=>intro h f z q;rw [FI] at q;injection q with q;subst q;exact z
 |cons x l A=>
  intro h f z q
  rw [FI] at q
  split at q
  ·refine A ?_ q
   unfold EQ
   split
   ·exact LF _
   ·simp
  ·cases q
theorem aO2 {f g:LC} (hf:aq f) (q:aq g) (h:(KN f g).2=0):zr (KN f g).1:=by
 unfold KN at h ⊢
 split
 ·rename_i c;rw [if_pos c] at h;exact vo hf q h
 ·rename_i c;rw [if_neg c] at h;cases h
theorem aO9 (hk:F3 k) {f g:LC} (hf:aq f) (q:aq g) (h1:f.length<1073741824) (h2:g.length<1073741824) (I:LC×Int->OS S):Hk k f g I=I (KN f g):=by
 simp only [Hk,ag hk.fu,aH9 hk.fu (l:=[f,g]) (by intro x z;simp at z;rcases z with rfl|rfl;exact ⟨hf,by omega⟩;exact ⟨q,by omega⟩) (by simp)]
 have e:[f,g].all cV=(cV f&&cV g):=by simp
 unfold KN
 rw [e]
 cases h:(cV f&&cV g) with
 |false=>rfl
 |true=>
  rw [if_pos rfl,if_pos rfl,show (!((0:Int)==0))=false from rfl,n3]
  rw [ql] at h
  have A:=((oB hf).1 h.1).1.len
  have B:=((oB q).1 h.2).1.len
  rw [ajg hk.fu hf q (by omega) (by omega)]
theorem aOX (hk:F3 k) (I:Bool->OS S) {a b:LB} (ha:a.length<1073741824) (hb: ∀x∈a,x.f.length<1073741824):
  ∀ (r p q s:LB) (m:Nat),a=p++r->b=q++s->p.length=q.length->r.length=s.length->r.length<m->A' k I b a m (p.length:Int)=I (decide (r.map (·.f)=s.map (·.f))):=by
 intro r
 induction r with
 |nil=>
  intro p q s m h h' hp hs A
  obtain ⟨m,rfl,z⟩:=pz A
  obtain rfl:s=[]:=Ix.1 hs.symm
  simp only [A',bz,xy h,n3];rfl
 |cons x r E=>
  intro p q s m h h' hp hs A
  obtain ⟨m,rfl,z⟩:=pz A
  cases s with
  |nil=>cases hs
  |cons y s=>
  obtain ⟨F,J,L,M⟩:=qI h (by omega)
  have B:b.length<4611686018427387904:=by
   have:a.length=b.length:=by rw [h,h'];simp [hp];simpa using hs
   omega
  obtain ⟨_,f2,_,f4⟩:=qI h' B
  rw [<-hp] at f2
  simp only [A',bz,F,ae,J,f2,qm,ag hk.fu,aNc,ix hk.fu (show x.f.length<4294967296 by have:=hb x (by rw [h];simp);omega),L]
  by_cases hf:x.f=y.f
  ·rw [decide_eq_true hf,va,n3,E (p++[x]) (q++[y]) s m M f4 (by simp [hp]) (by simpa using hs) z]
   congr 1
   simp [hf]
  ·rw [decide_eq_false hf,sV,ae,decide_eq_false (fun h=>by simp at h;exact hf h.1)]
theorem aO8 (hk:F3 k) {a b:LB} (ha:a.length<1073741824) (hb: ∀x∈a,x.f.length<1073741824) (I:Bool->OS S):hF k a b I=I (decide (a.map (·.f)=b.map (·.f))):=by
 have z:4294968296<=k:=hk
 simp only [hF,aNr]
 by_cases h:a.length=b.length
 ·rw [show ((a.length:Int)==(b.length:Int))=true from by simp [h],va,n3]
  exact aOX hk I ha hb a [] [] b k rfl rfl rfl h (by omega)
 ·rw [show ((a.length:Int)==(b.length:Int))=false from by simp;omega,sV,ae,decide_eq_false fun q=>h (by simpa using congrArg EO q)]
theorem aN3 (hk:F3 k) (t:Tm) (c:Int) (I:py Int Tm->OS S):ml k t c I=I (if c=0 then .ok t else .bD c):=by
 simp only [ml,Si,ag hk.fu,ar]
 by_cases h:c=0
 ·rw [h];rfl
 ·rw [dj h,if_neg h];rfl
theorem aN4 (hk:F3 k) {t:Tm} (ft:Fm t) (I:py Int Tm->OS S):SX k t I=I (pE (Hu t)):=by
 simp only [SX,ag hk.fu,ar,NX,zc]
 unfold Hu
 by_cases q:t.k=5
 ·rw [q,show ((5:Int)==5)=true from rfl,ae,if_pos rfl,show af t.c 0=some (kd0 t) from (xG (n:=1) (i:=0) (E5 ft q rfl) (by omega)).1];rfl
 ·rw [beq_false_of_ne q,n3,if_neg q,E8 hk (fun _=>ft.isIn hk) (by omega) (by omega)]
  simp only [aN3 hk]
  cases h:wA 1 0 t with
  |ok x=>rfl
  |error e=>
   have:=Q3 e h
   show py.elim (if e=0 then _ else _) _ _=_
   rw [if_neg (show e≠0 by omega)];rfl
theorem aNB {t:Tm} {e:Int} (h:Hu t= .error e):e≠0:=by
 unfold Hu at h
 split at h
 ·cases h
 rcases be h with h|⟨_,_,h⟩
 ·have:=Q3 e h;omega
 ·cases h
theorem aNi {n:Nat} {t:Tm} (h:Sm n t) (hn:n<=1000000) (hd:am t<=300):JT t:=⟨h.ok,hd,by have:=h.dP;omega⟩
theorem aPf:Fm (vN 0):=⟨okv 0 (by omega),by decide⟩
theorem aNC {t x:Tm} (ft:Fm t) (h:Hu t= .ok x):JT x:=by
 unfold Hu at h
 split at h
 ·rename_i z
  injection h with h;subst h
  exact (ft.bV (xG (n:=1) (i:=0) (E5 ft z rfl) (by omega)).2).jt
 ·obtain ⟨y,h1,h⟩:=i8 h
  injection h with h;subst h
  have fy:Fm y:=mD (by omega) (IH ft.ok h1).1 (IH ft.ok h1).2
  have v0:=aPf
  have q:=IK (kd:=6) (by omega) (d:=201) (n:=20000) ⟨fy.sm,by have:=fy.dep;omega⟩ ⟨v0.sm,by have:=v0.dep;omega⟩ (by omega)
  exact aNi q.1 (by omega) (by have:=q.2;omega)
theorem r9 (hk:F3 k) {t:Tm} (ft:Fm t) {kd:Int} (x:kd=9\/kd=10) (I:Tm->OS S):MP k t kd I=I (FG t kd):=by
 simp only [MP,ag hk.fu,ar,zc]
 unfold FG
 by_cases q:t.k=8
 ·have hl:=E5 ft q (n:=2) rfl
  rw [q,show ((8:Int)==8)=true from rfl,ae,if_pos rfl]
  rcases x with rfl|rfl
  ·rw [show ou .i64 ((9:Int)-9)=((0:Nat):Int) from rfl,(xG hl (i:=0) (by omega)).1];rfl
  ·rw [show ou .i64 ((10:Int)-9)=((1:Nat):Int) from rfl,(xG hl (i:=1) (by omega)).1];rfl
 ·rw [beq_false_of_ne q,n3,if_neg q];rfl
theorem sX {t:Tm} (ft:Fm t) {kd:Int} (q:kd=9\/kd=10):JT (FG t kd):=by
 unfold FG
 split
 ·exact Ms ft (kd-9).toNat
 ·have h1:=Ml (kd:=kd) (n:=20000) (by omega) ⟨ft.sm,ft.dep⟩ (by omega)
  exact aNi h1.1 (by omega) (by have:=h1.2;omega)
theorem aN6 (hk:F3 k) {t p:Tm} (ft:Fm t) (fp:Fm p) (A:p.k=12) (I:py Int Tm->OS S):gG k t p I=I (pE (Ho t p)):=by
 have hl:=E5 fp A (n:=1) rfl
 obtain ⟨g0,m0⟩:=xG hl (i:=0) (by omega)
 have g0:af p.c 0=some (kd0 p):=g0
 have f0:Fm (kd0 p):=fp.bV m0
 simp only [gG,ag hk.fu,ar,tO]
 unfold Ho
 by_cases h:t.k=12
 ·rw [h,show ((12:Int)==12)=true from rfl,ae,if_pos rfl,show af t.c 0=some (kd0 t) from (xG (n:=1) (i:=0) (E5 ft h rfl) (by omega)).1];rfl
 rw [beq_false_of_ne h,n3,if_neg h,g0,qm,SS hk (fun _=>f0.isIn hk) rA]
 simp only [qm,aN3 hk]
 rw [vZ hk (fun _=>f0.isIn hk),E8 hk (fun _=>ft.isIn hk) (by omega) (by omega)]
 have E: ∀ {c:Int},FN (mM c (xk 0 [] (kd0 p))).1:=fun {c}=>Bw fun y q=>aN8 (Sj f0.ok q).1 (Sj f0.ok q).2
 have F: ∀ {c:Int},FN (mM c (xk 0 [⟨0,0⟩] (kd0 p))).1:=fun {c}=>Bw fun y q=>aN9 (Sj f0.ok q).1 (Sj f0.ok q).2
 rw [E8 hk (fun _=>E.sm.1.isIn hk (by omega)) (by omega) (by omega),E8 hk (fun _=>F.sm.1.isIn hk (by omega)) (by omega) (by omega)]
 have t1: ∀y:Tm,tE (.ok y)=(y,0):=fun _=>rfl
 have t2: ∀e:Int,tE (.error e:Except Int Tm)=(ov,e):=fun _=>rfl
 cases h1:xk 0 [] (kd0 p) with
 |error e=>
  have:=iT e h1
  have he:e≠0:=by omega
  simp only [kR,t1,t2,n9 he,if_neg he];rfl
 |ok l=>
 simp only [kR,t1]
 cases h2:xk 0 [⟨0,0⟩] (kd0 p) with
 |error e=>
  have:=iT e h2
  have he:e≠0:=by omega
  simp only [kR,t1,t2,n9 he,if_neg he];rfl
 |ok r=>
 simp only [kR,t1]
 cases J:wA 0 1 t with
 |error e=>
  have:=Q3 e J
  have he:e≠0:=by omega
  simp only [kR,t1,t2,n9 he,if_neg he];rfl
 |ok x=>
 simp only [kR,t1]
 cases z:wA 0 1 l with
 |error e=>
  have:=Q3 e z
  have he:e≠0:=by omega
  simp only [kR,t1,t2,n9 he,if_neg he,aD,z];rfl
 |ok L=>
 simp only [kR,t1]
 cases B:wA 0 1 r with
 |error e=>
  have:=Q3 e B
  have he:e≠0:=by omega
  simp only [kR,t1,t2,n9 he,if_neg he,aD,z,B];rfl
 |ok M=>simp only [aD,z,B];rfl
theorem aNV {t p:Tm} {e:Int} (h:Ho t p= .error e):e≠0:=by
 unfold Ho at h
 split at h
 ·cases h
 rcases be h with h|⟨_,_,h⟩
 ·have:=iT e h;omega
 rcases be h with h|⟨_,_,h⟩
 ·have:=iT e h;omega
 rcases be h with h|⟨_,_,h⟩
 ·have:=Q3 e h;omega
 rcases be h with h|⟨_,_,h⟩
 ·have:=Q3 e h;omega
 rcases be h with h|⟨_,_,h⟩
 ·have:=Q3 e h;omega
 ·cases h
theorem aNW {t p x:Tm} (ft:Fm t) (fp:Fm p) (q:p.k=12) (h:Ho t p= .ok x):JT x:=by
 have f0:Fm (kd0 p):=fp.bV (xG (n:=1) (i:=0) (E5 fp q rfl) (by omega)).2
 unfold Ho at h
 split at h
 ·rename_i z
  injection h with h;subst h
  exact (ft.bV (xG (n:=1) (i:=0) (E5 ft z rfl) (by omega)).2).jt
 ·obtain ⟨l,h1,h⟩:=i8 h
  obtain ⟨r,h2,h⟩:=i8 h
  obtain ⟨y,F,h⟩:=i8 h
  obtain ⟨I,J,h⟩:=i8 h
  obtain ⟨L,z,h⟩:=i8 h
  injection h with h;subst h
  have fl:Fm l:=aN8 f0 (Sj f0.ok h1).2
  have E:Fm r:=aN9 f0 (Sj f0.ok h2).2
  have fy:Fm y:=mD (by omega) ft (IH ft.ok F).2
  have A:Fm I:=mD (by omega) fl (IH fl.ok J).2
  have B:Fm L:=mD (by omega) E (IH E.ok z).2
  have:=o2 (r:=[⟨1,0⟩]) ⟨by intro c hc;simp at hc;subst hc;exact ⟨⟨by decide,by decide⟩,by decide,by decide⟩,by simp⟩ (.inl fy) (.inl A) (.inl B)
  exact aNi this.1 (by omega) (by have:=this.2;omega)
def F5 (k:Nat):Prop:=4500000000<=k
theorem F5.f4 (h:F5 k):F4 k:=by grind [F5]
theorem F5.f3 (h:F5 k):F3 k:=h.f4.f3
theorem aIq (F:4294970296+nH<k) {defs:List Df} (hd:ID defs) {t:Tm} (q:In k t) {f:Int} (I:Tm×Int×Int->OS S):CP k defs t f I=I (o' defs t f):=by
 have A:F4 k:=by omega
 have hk:=A.f3
 simp only [CP,ag hk.fu,ar,An q.1 q.2.1 q.dep]
 unfold o'
 by_cases z:bw t=0
 case neg=>rw [dj z,sV,ae,if_pos z];rfl
 rw [z,show (!((0:Int)==0))=false from rfl,n3,if_neg (by simp)]
 by_cases h1:f<0
 ·rw [decide_eq_true h1,ae,if_pos (.inl h1)];rfl
 rw [decide_eq_false h1,n3]
 by_cases h2:100000<f
 ·rw [decide_eq_true (show f>100000 from h2),ae,if_pos (.inr h2)];rfl
 rw [decide_eq_false (show ¬f>100000 from h2),n3,if_neg (by omega),vU t q.1 _ q.2.1]
 have jt:JT t:=Fm.jt ⟨q.1,z⟩
 obtain ⟨j,rfl⟩: ∃j,k=j+1:=⟨k-1,by omega⟩
 obtain ⟨R,x,q2⟩:=aGI (S:=S) hd nH j j (by omega) (by omega) f.toNat t (by omega) jt (aAZ hd (by omega) jt)
 have E: ∀g,Ez (j+1) t defs f g=g R:=fun g=>by
  rw [<-q2 g,show ((f.toNat:Nat):Int)=f by omega]
  simp only [Ez,n',ar]
 rw [E]
 unfold hdQ
 cases B:hA defs nH f.toNat t with
 |ok p=>rw [B] at x;rw [show R= .ok (p.1,(p.2:Int)) from x];rfl
 |error e=>rw [B] at x;obtain ⟨c,x⟩:=x;rw [x];rfl
theorem aIi (hk:F3 k) {t:Tm} (q:In k t) (I:Bool->OS S): ∃c,o6 k t I=I c/\(c=false->au t<=100):=by
 simp only [o6,ar]
 obtain ⟨w,h1,h2,x,z⟩:=aDd t q.1 100 (by unfold Mo;omega) (fun r1=>I (decide (r1>100))) q.2.1
 grind
theorem aGW (hk:F3 k) (I:Bool->OS S) {l:List Df} (hl:FK k l):
  ∀ (r p:List Df) (m:Nat),l=p++r->r.length<m-> ∃c,Sy k I l m (p.length:Int)=I c/\(c=false-> ∀d∈r,au d.body<=100):=by
 intro r
 induction r with
 |nil=>
  intro p m h q
  obtain ⟨m,rfl,z⟩:=pz q
  simp_all [Sy,ht,n3]
 |cons x r M=>
  intro p m h q
  obtain ⟨m,rfl,z⟩:=pz q
  have A:=hl.1
  obtain ⟨B,E,F,O⟩:=qI h (by omega)
  have J:=hl.2 x (by grind)
  simp only [Sy,ht,B,ae,E,qm,ag hk.fu,ar,F]
  obtain ⟨c,c1,c2⟩:=aIi hk J (fun L=>ab L (I true) (ab (decide ((x.name.size:Int)>50)) (I true) (Sy k I l m ((p++[x]).length:Int))))
  rw [c1]
  cases c<;>grind [ae,n3,decide_eq_false]
theorem aIr (hk:F3 k) {l:List Df} (hl:FK k l) (I:Bool->OS S): ∃c,kl k l I=I c/\(c=false->l.length<=8/\ID l/\ ∀d∈l,au d.body<=100):=by
 simp only [kl,aAk]
 by_cases q:(l.length:Int)>8
 ·simp_all [ae]
 rw [decide_eq_false q,n3]
 have x:4294968296<=k:=hk
 obtain ⟨c,h1,h2⟩:=aGW hk I hl l [] k rfl (by omega)
 exact ⟨c,h1,fun h=>⟨by omega,⟨by omega,fun d hd=>⟨(hl.2 d hd).1,by grind [zG],by grind⟩⟩,h2 h⟩⟩
theorem aGN (I:List Df->OS S) {l:List Df} (hl:l.length<1073741824):
  ∀ (r p:List Df) (m:Nat),l=p++r->r.length<m->mj k I l m p (p.length:Int)=I l:=by
 intro r
 induction r with
 |nil=>
  grind [pz,mj,s8,n3]
 |cons x r A=>
  intro p m h q
  obtain ⟨m,rfl,z⟩:=pz q
  obtain ⟨B,E,F,J⟩:=qI h (by omega)
  grind [mj,s8,ae,aFO,J5]
theorem aH6 (hk:F3 k) {l:List Df} (hl:l.length<1073741824) (I:List Df->OS S):r0 k l I=I l:=by
 simp only [r0,aAj]
 have q:4294968296<=k:=hk
 exact aGN I hl l [] k rfl (by omega)
abbrev FE:=py (Int×Int) (Bool×Int)
noncomputable def xw (hd:ya S) (defs:List Df) (I:FE->OS S):List It->Int->(Int->OS S)->OS S
 |[],f,K=>K f
 |i::l,f,K=>match i with
  | .err e=>I (.bD (e,f))
  | .no=>I (.ok (false,f))
  | .ask a b=>hd a b defs f fun r=>py.elim r (fun r=>ab (!r.1) (I (.ok (false,r.2))) (xw hd defs I l r.2 K)) fun e=>I (.bD (e.1,e.2))
section
variable {hd:ya S} {defs:List Df}
theorem iL {I:FE->OS S} {K:Int->OS S}: ∀ {l m:List It} {f:Int},xw hd defs I (l++m) f K=xw hd defs I l f fun q=>xw hd defs I m q K:=by
 intro l
 induction l with
 |nil=>intro m f;rfl
 |cons i l x=>
  intro m f
  cases i with
  |err e=>rfl
  |no=>rfl
  |ask a b=>
   show hd a b defs f (fun r=>py.elim r (fun r=>ab (!r.1) (I (.ok (false,r.2))) (xw hd defs I (l++m) r.2 K)) fun e=>I (.bD (e.1,e.2)))=hd a b defs f (fun r=>py.elim r (fun r=>ab (!r.1) (I (.ok (false,r.2))) (xw hd defs I l r.2 fun q=>xw hd defs I m q K)) fun e=>I (.bD (e.1,e.2)))
   simp only [x]
theorem aOp {I q:FE->OS S} {K:Int->OS S} (h1: ∀e,q (.bD e)=I (.bD e)) (h2: ∀f,q (.ok (false,f))=I (.ok (false,f))): ∀ {l:List It} {f:Int},xw hd defs q l f K=xw hd defs I l f K:=by
 intro l
 induction l with
 |nil=>intro f;rfl
 |cons i l x=>
  intro f
  cases i with
  |err e=>exact h1 _
  |no=>exact h2 _
  |ask a b=>
   show hd a b defs f (fun r=>py.elim r (fun r=>ab (!r.1) (q (.ok (false,r.2))) (xw hd defs q l r.2 K)) fun e=>q (.bD (e.1,e.2)))=hd a b defs f (fun r=>py.elim r (fun r=>ab (!r.1) (I (.ok (false,r.2))) (xw hd defs I l r.2 K)) fun e=>I (.bD (e.1,e.2)))
   simp only [x,h1,h2]
theorem aOA (I:FE->OS S):(fun r:FE=>py.elim r (fun r=>I (.ok (r.1,r.2))) fun e=>I (.bD (e.1,e.2)))=I:=by
 funext r
 cases r<;>rfl
theorem xQ {I:FE->OS S} {a b:Tm} {f:Int}:xw hd defs I [.ask a b] f (fun q=>I (.ok (true,q)))=hd a b defs f fun r=>py.elim r (fun r=>I (.ok (r.1,r.2))) fun e=>I (.bD (e.1,e.2)):=by
 show (hd a b defs f fun r=>_)=(hd a b defs f fun r=>_)
 congr 1
 funext r
 cases r with
 |bD e=>rfl
 |ok p=>
  obtain ⟨v,g⟩:=p
  cases v<;>rfl
theorem aOW (hk:F3 k) (I:FE->OS S) (z:Int->Int->OS S) {kind:Int} {fc:LC} {v:Int} {a b:LT} (hl:a.length<1073741824) (A:a.length=b.length) (ha: ∀x∈a,In k x) (hb: ∀x∈b,In k x) {c:Cl} (hc:aX c):
  ∀ (r p s q:LT) (m:Nat) (f:Int),a=p++r->b=q++s->p.length=q.length->r.length<m->
   Sc hd k I z defs kind fc v a b m f c (p.length:Int)=xw hd defs I ((r.zip s).map (Nd c)) f fun M=>z M (ou .i64 (v+1)):=by
 intro r
 induction r with
 |nil=>
  intro p s q m f h h' hp E
  obtain ⟨m,rfl,B⟩:=pz E
  simp only [Sc,r5,xy h,n3,List.zip_nil_left,List.map_nil,xw]
 |cons x r F=>
  intro p s q m f h h' hp E
  obtain ⟨m,rfl,B⟩:=pz E
  cases s with
  |nil=>rw [h,h'] at A;simp at A;omega
  |cons y s=>
  obtain ⟨O,T,W,Y⟩:=qI h (by omega)
  obtain ⟨_,f2,_,f4⟩:=qI h' (by omega)
  rw [<-hp] at f2
  have hx:=ha x (by rw [h];simp)
  have hy:=hb y (by rw [h'];simp)
  simp only [Sc,r5,O,ae,T,f2,qm,ag hk.fu,ar,aN2 hk hx hc,aN2 hk hy hc,Si,W,List.zip_cons_cons,FA]
  unfold Nd
  dsimp only
  cases h1:KK x c with
  |error e=>
   have he:=j' h1
   show ab (!(e==0)) _ _=_
   rw [dj he];rfl
  |ok J=>
   cases h2:KK y c with
   |error e=>
    have he:=j' h2
    show ab (!(e==0)) _ _=_
    rw [dj he];rfl
   |ok L=>
    show (hd J L defs f fun ad=>_)=(hd J L defs f fun r=>_)
    have:=F (p++[x]) s (q++[y]) m
    simp only [F (p++[x]) s (q++[y]) m _ Y f4 (by simp [hp]) B]
    rfl
theorem aOV (hk:F3 k) (I:FE->OS S) {kind:Int} {fc:LC} (hf:aq fc) (M:fc.length<1073741824) {a b:LT} (hl:a.length<1073741824) (E:a.length=b.length) (ha: ∀x∈a,In k x) (hb: ∀x∈b,In k x):
  ∀ (r p:LC) (m:Nat) (f:Int),fc=p++r->r.length<m->
   Q7 hd k I defs kind fc a b m f (p.length:Int)=xw hd defs I (Ht kind r a b) f fun z=>I (.ok (true,z)):=by
 have O:4294968296<=k:=hk
 intro r
 induction r with
 |nil=>
  intro p m f h F
  obtain ⟨m,rfl,A⟩:=pz F
  simp only [Q7,p0,xy h,n3,Ht,List.flatMap_nil,xw]
 |cons c r T=>
  intro p m f h F
  obtain ⟨m,rfl,A⟩:=pz F
  obtain ⟨W,Y,e3,e4⟩:=qI h (by omega)
  have oc:aX c:=hf c (by rw [h];simp)
  have hi:Ht kind (c::r) a b=(if (Mq kind c).2=0 then (a.zip b).map (Nd (Mq kind c).1) else [.err (Mq kind c).2])++Ht kind r a b:=by
   unfold Ht;rw [List.flatMap_cons]
  rw [hi,iL]
  simp only [Q7,p0,W,ae,Y,qm,ag hk.fu,aNd]
  have go: ∀B,aX B->Sc hd k I (Q7 hd k I defs kind fc a b m) defs kind fc (p.length:Int) a b k f B 0=xw hd defs I ((a.zip b).map (Nd B)) f fun z=>xw hd defs I (Ht kind r a b) z fun z=>I (.ok (true,z)):=fun B J=>by
   have:=aOW (hd:=hd) (defs:=defs) hk I (Q7 hd k I defs kind fc a b m) (kind:=kind) (fc:=fc) (v:=(p.length:Int)) hl E ha hb J a [] b [] k f rfl rfl rfl (by omega)
   refine pr this ?_
   congr 1
   funext z
   rw [e3,T (p++[c]) m z e4 A]
  unfold Mq
  by_cases q:kind=15
  ·rw [q,show ((15:Int)==15)=true from rfl,ae,ai4 hk.fu oc (by unfold aG;omega) (by unfold aG;omega)]
   simp only [if_pos]
   by_cases L:(dw c 0 1).2=0
   ·rw [L,show (!((0:Int)==0))=false from rfl,n3,if_pos rfl]
    rw [q] at go
    have rc:=LJ c 0 1
    exact go _ ⟨⟨rc.1.1,by have:=rc.1.2;omega⟩,rc.2.1,by have:=rc.2.2;omega⟩
   ·rw [dj L,sV,ae,if_neg L];rfl
  ·rw [beq_false_of_ne q,n3,if_neg q,if_pos rfl]
   exact go c oc
theorem aO7 (hk:F3 k) (I:FE->OS S) {kind:Int} {fc:LC} (hf:aq fc) (q:fc.length<1073741824) {a b:LT} (hl:a.length<1073741824) (z:a.length=b.length) (ha: ∀x∈a,In k x) (hb: ∀x∈b,In k x) (f:Int):
  mv hd k kind fc a b defs f I=xw hd defs I (Ht kind fc a b) f fun A=>I (.ok (true,A)):=by
 have B:4294968296<=k:=hk
 simp only [mv,aNp]
 exact aOV hk I hf q hl z ha hb fc [] k f rfl (by omega)
def MV (k:Nat) (n:Int) (x:Br Tm):Prop:=aq x.f/\x.f.length<1073741824/\x.c.length<1073741824/\(x.c.length:Int)=n/\ ∀y∈x.c,In k y
theorem aN1 (hk:F3 k) (I:FE->OS S) {kind n:Int} {fc:LC} (hf:aq fc) (q:fc.length<1073741824) {x y:Br Tm} (A:MV k n x) (B:MV k n y) (f:Int) (K:Int->OS S):
  (mv hd k kind fc x.c y.c defs f fun r=>py.elim r (fun r=>ab (!r.1) (I (.ok (false,r.2))) (K r.2)) fun e=>I (.bD (e.1,e.2)))=xw hd defs I (Ht kind fc x.c y.c) f K:=by
 obtain ⟨x1,x2,x3,x4,x5⟩:=A
 obtain ⟨y1,y2,y3,y4,y5⟩:=B
 rw [aO7 hk _ hf q x3 (by omega) x5 y5]
 have key: ∀R':FE->OS S,(∀e,R' (.bD e)=I (.bD e))->(∀f,R' (.ok (false,f))=I (.ok (false,f)))->(fun z=>R' (.ok (true,z)))=K->xw hd defs R' (Ht kind fc x.c y.c) f (fun z=>R' (.ok (true,z)))=xw hd defs I (Ht kind fc x.c y.c) f K:=fun R' a b c=>by rw [c];exact aOp a b
 exact key _ (fun e=>rfl) (fun f=>rfl) rfl
theorem aOS (hk:F3 k) (I:FE->OS S) {kind n:Int} {a b:LB} (hl:a.length<1073741824) (z:a.length=b.length) (ha: ∀x∈a,MV k n x) (hb: ∀x∈b,MV k n x):
  ∀ (r p s q:LB) (m:Nat) (f:Int),a=p++r->b=q++s->p.length=q.length->r.length<m->
   N1 hd k I defs kind b a m f (p.length:Int)=xw hd defs I ((r.zip s).flatMap fun p=>Ht kind p.1.f p.1.c p.2.c) f fun A=>I (.ok (true,A)):=by
 intro r
 induction r with
 |nil=>
  intro p s q m f h h' hp E
  obtain ⟨m,rfl,B⟩:=pz E
  simp only [N1,ns,xy h,n3,List.zip_nil_left,List.flatMap_nil,xw]
 |cons x r J=>
  intro p s q m f h h' hp E
  obtain ⟨m,rfl,B⟩:=pz E
  cases s with
  |nil=>rw [h,h'] at z;simp at z;omega
  |cons y s=>
  obtain ⟨L,M,O,T⟩:=qI h (by omega)
  obtain ⟨_,f2,_,f4⟩:=qI h' (by omega)
  rw [<-hp] at f2
  have F:=ha x (by rw [h];simp)
  have W:=hb y (by rw [h'];simp)
  simp only [N1,ns,L,ae,M,f2,qm,ag hk.fu,O,List.zip_cons_cons,List.flatMap_cons]
  rw [iL]
  simp only [J (p++[x]) s (q++[y]) m _ T f4 (by simp [hp]) B]
  exact aN1 hk I F.1 F.2.1 F W f fun A=>xw hd defs I ((r.zip s).flatMap fun p=>Ht kind p.1.f p.1.c p.2.c) A fun A=>I (.ok (true,A))
theorem aOU (hk:F3 k) (I:FE->OS S) (q:Int->Int->OS S) {kind n v:Int} {a b:LB} (hl:b.length<1073741824) {x:Br Tm} (B:MV k n x) (hb: ∀x∈b,MV k n x):
  ∀ (r p:LB) (m:Nat) (f:Int),b=p++r->r.length<m->
   SV hd k I q defs x kind b a v m f (p.length:Int)=xw hd defs I (r.flatMap fun y=>Sn kind x y) f fun z=>q z (ou .i64 (v+1)):=by
 intro r
 induction r with
 |nil=>
  intro p m f h J
  obtain ⟨m,rfl,A⟩:=pz J
  simp only [SV,dh,xy h,n3,List.flatMap_nil,xw]
 |cons y r M=>
  intro p m f h J
  obtain ⟨m,rfl,A⟩:=pz J
  obtain ⟨O,T,W,Y⟩:=qI h (by omega)
  have E:=hb y (by rw [h];simp)
  simp only [SV,dh,O,ae,T,qm,ag hk.fu,aO9 hk B.1 E.1 B.2.1 E.2.1,lf,W,List.flatMap_cons]
  rw [iL]
  have hM:Sn kind x y=if (KN x.f y.f).2=0 then Ht kind (KN x.f y.f).1 x.c y.c else [.err (KN x.f y.f).2]:=rfl
  rw [hM]
  by_cases F:(KN x.f y.f).2=0
  ·rw [F,show (!((0:Int)==0))=false from rfl,n3,if_pos rfl]
   have L:=aO2 B.1 E.1 F
   simp only [M (p++[y]) m _ Y A]
   exact aN1 hk I L.1.2 (by have:=L.1.len;omega) B E f fun z=>xw hd defs I (r.flatMap fun y=>Sn kind x y) z fun z=>q z (ou .i64 (v+1))
  ·rw [dj F,sV,ae,if_neg F];rfl
theorem aOT (hk:F3 k) (I:FE->OS S) {kind n:Int} {a b:LB} (hl:a.length<1073741824) (z:b.length<1073741824) (ha: ∀x∈a,MV k n x) (hb: ∀x∈b,MV k n x):
  ∀ (r p:LB) (m:Nat) (f:Int),a=p++r->r.length<m->
   Sd hd k I defs kind b a m f (p.length:Int)=xw hd defs I (r.flatMap fun x=>b.flatMap fun y=>Sn kind x y) f fun A=>I (.ok (true,A)):=by
 have E:4294968296<=k:=hk
 intro r
 induction r with
 |nil=>
  intro p m f h B
  obtain ⟨m,rfl,q⟩:=pz B
  simp only [Sd,q6,xy h,n3,List.flatMap_nil,xw]
 |cons x r F=>
  intro p m f h B
  obtain ⟨m,rfl,q⟩:=pz B
  obtain ⟨J,L,M,O⟩:=qI h (by omega)
  have T:=ha x (by rw [h];simp)
  simp only [Sd,q6,J,ae,L,qm,List.flatMap_cons]
  rw [iL]
  have:=aOU (hd:=hd) (defs:=defs) (a:=a) (v:=(p.length:Int)) (kind:=kind) hk I (Sd hd k I defs kind b a m) z T hb b [] k f rfl (by omega)
  refine pr this ?_
  congr 1
  funext A
  rw [M,F (p++[x]) m A O q]
theorem aO6 (hk:F3 k) (I:FE->OS S) {kind n:Int} {a b:LB} (hl:a.length<1073741824) (z:b.length<1073741824) (ha: ∀x∈a,MV k n x) (hb: ∀x∈b,MV k n x) (f:Int):
  fe hd k kind a b defs f I=xw hd defs I (Mr kind a b) f fun B=>I (.ok (true,B)):=by
 have E:4294968296<=k:=hk
 simp only [fe,aNo,ag hk.fu,aN7 hk hl fun x q=>⟨(ha x q).1,(ha x q).2.1⟩,aN7 hk z fun x q=>⟨(hb x q).1,(hb x q).2.1⟩,lf,aO8 hk hl fun x q=>(ha x q).2.1]
 unfold Mr
 cases h1:FI [] a with
 |error e=>
  have he:=dn h1
  show ab (!(e==0)) _ _=_
  rw [dj he];rfl
 |ok fa=>
  cases h2:FI [] b with
  |error e=>
   have he:=dn h2
   show ab (!(e==0)) _ _=_
   rw [dj he];rfl
  |ok fb=>
   have F:=aOD (by simp) h1
   show (zz k fa fb fun J=>_)=_
   rw [ix hk.fu (by omega)]
   dsimp only
   by_cases hf:fa=fb
   ·rw [decide_eq_true hf,if_neg (by simp [hf]),va,n3]
    by_cases A:a.map (·.f)=b.map (·.f)
    ·rw [decide_eq_true A,if_pos A,ae]
     exact aOS hk I hl (by simpa using congrArg EO A) ha hb a [] b [] k f rfl rfl rfl (by omega)
    ·rw [decide_eq_false A,if_neg A,n3]
     exact aOT hk I hl z ha hb a [] k f rfl (by omega)
   ·rw [decide_eq_false hf,if_pos hf];rfl
end
end
section
open Go PI
def aKx (r:Tm×Bool×Int):Prop:=r.2.1=false/\r.2.2=0
structure Shp (t t':Tm):Prop where
 kd:t'.k=t.k
 nm:t'.name=t.name
 r:t'.r=t.r
 fa:t'.s.map (·.f)=t.s.map (·.f)
 le:t'.c.length=t.c.length
 pl: ∀i∈re t,(xS t' i).k=(xS t i).k
section
variable {t t':Tm} (ft:Fm t) (h:Shp t t')
include ft h
end
noncomputable def hE (defs:List Df) (f:Nat) (t:Tm):Except Int (Tm×Nat):=if bw t≠0 then .error (bw t) else hA defs nH f t
theorem mb {defs:List Df} (hd:ID defs) {f:Nat} {t a:Tm} {r:Nat} (q:pw t) (h:hE defs f t= .ok (a,r)):Fm t/\Fm a/\r<=f/\(r=f->a=t)/\xE (nf defs) re nH a:=by
 unfold hE at h
 split at h
 ·cases h
 rename_i x
 have ft:Fm t:=⟨q,Decidable.not_not.1 x⟩
 obtain ⟨z,q2⟩:=(a7 (st:=nf defs) (pl:=re) (eF:=220) nH).1 _ _ _ _ h
 exact ⟨ft,((fc hd nH).1 _ _ ft.jt _ _ h).1,z,q2,((aGF nH).1 _ _ _ _ h).1⟩
theorem Sh {defs:List Df} {f:Nat} {t a:Tm} {r:Nat} (h:hE defs f t= .ok (a,r)):r<=f:=by
 unfold hE at h
 split at h
 ·cases h
 ·exact ((a7 (st:=nf defs) (pl:=re) (eF:=220) nH).1 _ _ _ _ h).1
inductive NF (defs:List Df):Tm->Prop where
 |mk (t:Tm) (q:aKx (nf defs t)) (k: ∀x∈t.c,NF defs x) (s: ∀b∈t.s,∀x∈b.c,NF defs x):NF defs t
variable {S:Type} {k:Nat}

def avp (x:Except Int (Tm×Nat)):Tm×Int×Int:=match x with
 | .ok p=>(p.1,(p.2:Int),0)
 | .error e=>(ov,0,e)
theorem aKL {defs:List Df} {t:Tm} {f:Nat} (hf:f<=100000):o' defs t (f:Int)=avp (hE defs f t):=by
 grind [o',hE,hdQ,avp]
theorem aKK {defs:List Df} (j:Nat) (f:Nat) (t:Tm):H6 220 j (hE defs f t) (hE defs (f+j) t):=by
 unfold hE
 by_cases q:bw t≠0
 ·rw [if_pos q,if_pos q];exact ⟨fun a r h=>(by cases h),fun e h _ _=>h⟩
 ·rw [if_neg q,if_neg q];exact (aF6 (st:=nf defs) (pl:=re) (eF:=220) (by decide) j nH).1 f t
noncomputable abbrev cv (defs:List Df):=IG (hE defs) ee 220
noncomputable abbrev cl (defs:List Df):=Fs (hE defs) ee 220
def qg (x:Except Int (Bool×Nat)) (R:FE):Prop:=match x with
 | .ok p=>R= .ok (p.1,(p.2:Int))
 | .error e=> ∃c,R= .bD (e,c)
theorem W2 (z:4294970296+nH<k) {defs:List Df} (hd:ID defs) {t:Tm} (jt:JT t) {f:Nat} (hf:f<=100000) (I:py (Int×Int) (Tm×Int)->OS S):
  L2 k t defs (f:Int) I=I (match hE defs f t with
   | .ok p=> .ok (p.1,(p.2:Int))
   | .error e=> .bD (e,0)):=by
 have hk:F3 k:=by unfold F3;omega
 simp only [L2,ag hk.fu,ar,aIq z hd (jt.isIn hk),aKL hf,Si]
 cases x:hE defs f t with
 |ok p=>rfl
 |error e=>
  have he:e≠0:=by
   intro q
   unfold hE at x
   split at x
   ·rename_i c;injection x with x;exact c (by rw [x,q])
   ·rename_i c;exact aAZ hd hf (Fm.jt ⟨jt.1,Decidable.not_not.1 c⟩) (by rw [x,q])
  show ab (!(e==0)) _ _=_
  rw [dj he];rfl
def Sk (i:It):Prop:=(∀a b,i= .ask a b->JT a/\JT b)/\ ∀e,i= .err e->e≠0
theorem Se {a b:Tm} (ha:JT a) (hb:JT b):Sk (.ask a b):=⟨fun c d h=>by injection h with h1 h2;subst h1;subst h2;exact ⟨ha,hb⟩,fun e h=>by cases h⟩
theorem Nb {e:Int} (he:e≠0):Sk (.err e):=⟨fun c d h=>(by cases h),fun e' h=>by injection h with h;subst h;exact he⟩
theorem aNG:Sk .no:=⟨fun c d h=>(by cases h),fun e h=>by cases h⟩
theorem aNH {kd:Int} {f:LC} {a b:LT} (ha: ∀x∈a,pw x) (hb: ∀x∈b,pw x): ∀i∈Ht kd f a b,Sk i:=by
 intro i q
 obtain ⟨c,_,q⟩:=Ib.1 q
 split at q
 ·obtain ⟨p,hp,rfl⟩:=vh.1 q
  have h1:=ha _ (List.of_mem_zip hp).1
  have h2:=hb _ (List.of_mem_zip hp).2
  unfold Nd
  cases z:KK p.1 (Mq kd c).1 with
  |error e=>exact Nb (j' z)
  |ok x=>
   cases q2:KK p.2 (Mq kd c).1 with
   |error e=>exact Nb (j' q2)
   |ok y=>exact Se (aN_ h1 z) (aN_ h2 q2)
 ·rename_i c
  obtain rfl:i=_:=by simpa using q
  exact Nb c
theorem aOI {kd:Int} {a b:LB} (ha: ∀x∈a,∀y∈x.c,pw y) (hb: ∀x∈b,∀y∈x.c,pw y): ∀i∈Mr kd a b,Sk i:=by
 intro i q
 unfold Mr at q
 cases h1:FI [] a with
 |error e=>
  rw [h1] at q
  obtain rfl:i=_:=by simpa using q
  exact Nb (dn h1)
 |ok f=>
  cases h2:FI [] b with
  |error e=>
   rw [h1,h2] at q
   obtain rfl:i=_:=by simpa using q
   exact Nb (dn h2)
  |ok g=>
   rw [h1,h2] at q
   dsimp only at q
   split at q
   ·obtain rfl:i=_:=by simpa using q
    exact aNG
   split at q
   ·obtain ⟨p,hp,q⟩:=Ib.1 q
    exact aNH (ha _ (List.of_mem_zip hp).1) (hb _ (List.of_mem_zip hp).2) i q
   ·obtain ⟨x,z,q⟩:=Ib.1 q
    obtain ⟨y,A,q⟩:=Ib.1 q
    unfold Sn at q
    split at q
    ·exact aNH (ha x z) (hb y A) i q
    ·rename_i c
     obtain rfl:i=_:=by simpa using q
     exact Nb c
theorem aNY {x y:Tm} (fx:Fm x) (fy:Fm y): ∀i∈ee x y,Sk i:=by
 intro i hi
 unfold ee at hi
 split at hi
 ·cases h1:Hu x with
  |error e=>
   rw [h1] at hi
   obtain rfl:i=_:=by simpa using hi
   exact Nb (aNB h1)
  |ok f=>
   cases h2:Hu y with
   |error e=>
    rw [h1,h2] at hi
    obtain rfl:i=_:=by simpa using hi
    exact Nb (aNB h2)
   |ok g=>
    rw [h1,h2] at hi
    obtain rfl:i=_:=by simpa using hi
    exact Se (aNC fx h1) (aNC fy h2)
 split at hi
 ·rcases xt.1 hi with rfl|hi
  ·exact Se (sX fx (.inl rfl)) (sX fy (.inl rfl))
  ·obtain rfl:i=_:=by simpa using hi
   exact Se (sX fx (.inr rfl)) (sX fy (.inr rfl))
 split at hi
 ·rename_i q
  cases h1:Ho y x with
  |error e=>
   rw [h1] at hi
   obtain rfl:i=_:=by simpa using hi
   exact Nb (aNV h1)
  |ok g=>
   rw [h1] at hi
   obtain rfl:i=_:=by simpa using hi
   exact Se (Ms fx 0) (aNW fy fx q h1)
 split at hi
 ·rename_i q
  cases h1:Ho x y with
  |error e=>
   rw [h1] at hi
   obtain rfl:i=_:=by simpa using hi
   exact Nb (aNV h1)
  |ok g=>
   rw [h1] at hi
   obtain rfl:i=_:=by simpa using hi
   exact Se (aNW fx fy q h1) (Ms fy 0)
 split at hi
 ·obtain rfl:i=_:=by simpa using hi
  exact aNG
 split at hi
 ·obtain rfl:i=_:=by simpa using hi
  exact Se (Ms fx 0) (Ms fy 0)
 rcases xA.1 hi with hi|hi
 ·obtain ⟨p,hp,rfl⟩:=vh.1 hi
  exact Se (fx.bV (List.of_mem_zip hp).1).jt (fy.bV (List.of_mem_zip hp).2).jt
 ·exact aOI (fun b hb z A=>(fx.brk hb A).ok) (fun b hb z A=>(fy.brk hb A).ok) i hi
theorem aNb {defs:List Df}: ∀n,(∀f a b v r,cv defs n f a b= .ok (v,r)->r<=f)/\ ∀l f v r,cl defs n f l= .ok (v,r)->r<=f:=by
 have mk: ∀n,(∀f a b v r,cv defs n f a b= .ok (v,r)->r<=f)-> ∀l f v r,cl defs n f l= .ok (v,r)->r<=f:=by
  intro n hA l
  induction l with
  |nil=>intro f v r h;change Fs (hE defs) ee 220 n f []=_ at h;rw [bc] at h;injection h with h;injection h with _ h;omega
  |cons i l q=>
   intro f v r h
   change Fs (hE defs) ee 220 n f (i::l)=_ at h
   cases i with
   |err e=>rw [W1] at h;cases h
   |no=>rw [p2] at h;injection h with h;injection h with _ h;omega
   |ask a b=>
    rw [p7] at h
    obtain ⟨y,f1,h1,h⟩:=Mv h
    have:=hA _ _ _ _ _ h1
    cases y with
    |true=>have:=q _ _ _ h;omega
    |false=>injection h with h;injection h with _ h;omega
 intro n
 induction n with
 |zero=>
  have hA: ∀f a b v r,cv defs 0 f a b= .ok (v,r)->r<=f:=fun f a b v r h=>by change IG (hE defs) ee 220 0 f a b=_ at h;rw [hK] at h;cases h
  exact ⟨hA,mk 0 hA⟩
 |succ n q=>
  have hA: ∀f a b v r,cv defs (n+1) f a b= .ok (v,r)->r<=f:=fun f a b v r h=>by
   change IG (hE defs) ee 220 (n+1) f a b=_ at h
   rw [fA] at h
   split at h
   ·cases h
   obtain ⟨x,f1,h1,h⟩:=Mv h
   obtain ⟨y,f2,h2,h⟩:=Mv h
   have:=Sh h1;have:=Sh h2;have:=q.2 _ _ _ _ h
   omega
  exact ⟨hA,mk _ hA⟩
theorem aNx {defs:List Df} (hd:ID defs): ∀n f a b,f<=100000->pw a->pw b->f+1<=n->cv defs n f a b≠ .error 0:=by
 have E: ∀f t,f<=100000->pw t->hE defs f t≠ .error 0:=by
  intro f t hf M A
  unfold hE at A
  split at A
  ·rename_i c;injection A with A;exact c A
  ·rename_i c;exact aAZ hd hf (Fm.jt ⟨M,Decidable.not_not.1 c⟩) A
 intro n
 induction n with
 |zero=>intro f a b _ _ _ h;omega
 |succ n O=>
  intro f a b hf ha hb hn h
  change IG (hE defs) ee 220 (n+1) f a b=_ at h
  rw [fA] at h
  split at h
  ·injection h with h;cases h
  rename_i hz
  rcases azM h with h|⟨x,f1,h1,h⟩
  ·exact E _ _ (by omega) ha h
  rcases azM h with h|⟨y,f2,h2,h⟩
  ·have:=Sh h1;exact E _ _ (by omega) hb h
  have l1:=Sh h1;have l2:=Sh h2
  have fx:=(mb hd ha h1).2.1
  have fy:=(mb hd hb h2).2.1
  have key: ∀l:List It,(∀i∈l,Sk i)-> ∀B,B+1<=n->B<=100000->Fs (hE defs) ee 220 n B l≠ .error 0:=by
   intro l
   induction l with
   |nil=>intro _ B _ _ q;rw [bc] at q;cases q
   |cons i l I=>
    intro hl B J L q
    have F:=hl i (by simp)
    cases i with
    |err e=>rw [W1] at q;injection q with q;exact F.2 e rfl q
    |no=>rw [p2] at q;cases q
    |ask c d=>
     obtain ⟨T,W⟩:=F.1 c d rfl
     rw [p7] at q
     rcases azM q with q|⟨z,f3,Y,q⟩
     ·exact O B c d L T.1 W.1 J q
     ·have:=(aNb n).1 _ _ _ _ _ Y
      cases z with
      |true=>exact I (fun i F=>hl i (by simp [F])) f3 (by omega) (by omega) q
      |false=>cases q
  exact key _ (aNY fx fy) f2 (by omega) (by omega) h
theorem aOq {hd:ya S} {defs:List Df} {n f0:Nat} (J: ∀f a b,f<=f0->JT a->JT b->cv defs n f a b≠ .error 0-> ∃R,qg (cv defs n f a b) R/\ ∀g,hd a b defs (f:Int) g=g R):
  ∀ (l:List It) f,f<=f0->(∀i∈l,Sk i)->cl defs n f l≠ .error 0-> ∃R,qg (cl defs n f l) R/\ ∀I:FE->OS S,xw hd defs I l (f:Int) (fun x=>I (.ok (true,x)))=I R:=by
 intro l
 induction l with
 |nil=>
  intro f _ _ _
  refine ⟨.ok (true,(f:Int)), ?_,fun I=>rfl⟩
  show qg (Fs (hE defs) ee 220 n f []) _
  rw [bc];rfl
 |cons i l L=>
  intro f hf hl z
  have B:=hl i (by simp)
  cases i with
  |err e=>
   refine ⟨.bD (e,(f:Int)), ?_,fun I=>rfl⟩
   show qg (Fs (hE defs) ee 220 n f (.err e::l)) _
   rw [W1];exact ⟨_,rfl⟩
  |no=>
   refine ⟨.ok (false,(f:Int)), ?_,fun I=>rfl⟩
   show qg (Fs (hE defs) ee 220 n f (.no::l)) _
   rw [p2];rfl
  |ask a b=>
   have eq:cl defs n f (.ask a b::l)=KX (cv defs n f a b) fun yes x=>if yes then cl defs n x l else .ok (false,x):=p7
   rw [eq] at z ⊢
   obtain ⟨M,O⟩:=B.1 a b rfl
   have E:cv defs n f a b≠ .error 0:=fun q=>z (by rw [q];rfl)
   obtain ⟨R,A,q2⟩:=J f a b hf M O E
   have T: ∀I:FE->OS S,xw hd defs I (.ask a b::l) (f:Int) (fun x=>I (.ok (true,x)))=py.elim R (fun r=>ab (!r.1) (I (.ok (false,r.2))) (xw hd defs I l r.2 fun x=>I (.ok (true,x)))) fun e=>I (.bD (e.1,e.2)):=fun I=>q2 _
   simp only [T]
   cases F:cv defs n f a b with
   |error e=>
    rw [F] at A
    obtain ⟨c,rfl⟩:=A
    exact ⟨.bD (e,c),⟨c,rfl⟩,fun I=>rfl⟩
   |ok p=>
    obtain ⟨v,r⟩:=p
    rw [F] at A z
    have A:R= .ok (v,(r:Int)):=A
    subst A
    have hle:=(aNb n).1 _ _ _ _ _ F
    rw [fC] at z ⊢
    cases v with
    |false=>exact ⟨.ok (false,(r:Int)),rfl,fun I=>rfl⟩
    |true=>
     rw [if_pos rfl] at z ⊢
     exact L r (by omega) (fun i B=>hl i (by simp [B])) z
theorem aOR (hk:F3 k) {hd:ya S} {defs:List Df} (I:FE->OS S) {x y:Tm×Int} (hl:x.1.c.length<1073741824) (B:x.1.c.length=y.1.c.length) (f0:Int) {K:Int->OS S} (L: ∀f:Int,(fe hd k x.1.k x.1.s y.1.s defs f fun A=>py.elim A (fun A=>I (.ok (A.1,A.2))) fun E=>I (.bD (E.1,E.2)))=K f):
  ∀ (r p s q:LT) (m:Nat) (f:Int),x.1.c=p++r->y.1.c=q++s->p.length=q.length->r.length<m->
   lz hd k I defs x y m f (p.length:Int)=xw hd defs I ((r.zip s).map fun p=> .ask p.1 p.2) f K:=by
 intro r
 induction r with
 |nil=>
  intro p s q m f h h' hp J
  obtain ⟨m,rfl,F⟩:=pz J
  simp only [lz,N',xy h,n3,List.zip_nil_left,List.map_nil,xw,ag hk.fu,L]
 |cons z r M=>
  intro p s q m f h h' hp J
  obtain ⟨m,rfl,F⟩:=pz J
  cases s with
  |nil=>rw [h,h'] at B;simp at B;omega
  |cons w s=>
  obtain ⟨O,T,W,Y⟩:=qI h (by omega)
  obtain ⟨_,f2,_,f4⟩:=qI h' (by omega)
  rw [<-hp] at f2
  simp only [lz,N',O,ae,T,f2,qm,ar,W,List.zip_cons_cons,FA,M (p++[z]) s (q++[w]) m _ Y f4 (by simp [hp]) F]
  rfl
theorem aNw {n:Int} {t:Tm} (ft:Fm t) (hk:F3 k) (hn:xX t.k=n): ∀b∈t.s,MV k n b:=fun b hb=>
 ⟨(ft.ok.bi hb).1.1,(ft.ok.bi hb).1.2.1,(ft.ok.bi hb).1.2.2,by rw [<-hn];exact ft.parts b hb,fun y q=>(ft.brk hb q).isIn hk⟩
theorem aPb (hF:4334970400<=k) {defs:List Df} (hd:ID defs) {a b x y:Tm} {f f1 f2:Nat} (h0:f≠0) (hf:f<=100000) (ja:JT a) (jb:JT b) (h1:hE defs (f-1) a= .ok (x,f1)) (h2:hE defs f1 b= .ok (y,f2)) (I:FE->OS S):
  BB (k+1) a b defs (f:Int) I=xw (BB k) defs I (ee x y) (f2:Int) fun J=>I (.ok (true,J)):=by
 have hk:F3 k:=by unfold F3;omega
 have bc:4294968296<=k:=hk
 have l1:=Sh h1
 have fx:=(mb hd ja.1 h1).2.1
 have fy:=(mb hd jb.1 h2).2.1
 have hw:ou .i64 ((f:Int)-1)=((f-1:Nat):Int):=by rw [vf (by omega) (by omega)];omega
 simp only [BB,qo,ag hk.fu,ar,hw]
 rw [show ((f:Int)==0)=false from beq_false_of_ne (by omega),n3,W2 (by unfold nH;omega) hd ja (by omega),h1]
 dsimp only [py.elim]
 rw [W2 (by unfold nH;omega) hd jb (by omega),h2]
 dsimp only [py.elim]
 simp only [aN4 hk fx,aN4 hk fy,r9 hk fx (.inl rfl),r9 hk fx (.inr rfl),r9 hk fy (.inl rfl),r9 hk fy (.inr rfl)]
 have T:(py.elim (pE (Hu x)) (fun r8=>py.elim (pE (Hu y)) (fun az=>BB k r8 az defs (f2:Int) fun r14=>py.elim r14 (fun r14=>I (.ok (r14.1,r14.2))) fun W=>I (.bD (W.1,W.2))) fun a6=>I (.bD (a6,(f2:Int)))) fun e9=>I (.bD (e9,(f2:Int))))=
   xw (BB k) defs I (match Hu x with
    | .error e=>[.err e]
    | .ok f=>match Hu y with
     | .error e=>[.err e]
     | .ok g=>[.ask f g]) (f2:Int) fun J=>I (.ok (true,J)):=by
  cases q1:Hu x with
  |error e=>rfl
  |ok u=>
   cases q2:Hu y with
   |error e=>rfl
   |ok w=>exact xQ.symm
 unfold ee
 by_cases x5:x.k=5
 ·rw [x5,show ((5:Int)==5)=true from rfl,ae,if_pos (.inl rfl)]
  exact T
 rw [beq_false_of_ne x5,n3]
 by_cases y5:y.k=5
 ·rw [y5,show ((5:Int)==5)=true from rfl,ae,if_pos (.inr rfl)]
  exact T
 rw [beq_false_of_ne y5,n3,if_neg (fun q=>q.elim x5 y5)]
 have Y:(BB k (FG x 9) (FG y 9) defs (f2:Int) fun F=>py.elim F (fun F=>ab F.1 (BB k (FG x 10) (FG y 10) defs F.2 fun L=>py.elim L (fun L=>I (.ok (L.1,L.2))) fun ad=>I (.bD (ad.1,ad.2))) (I (.ok (false,F.2)))) fun ao=>I (.bD (ao.1,ao.2)))=
   xw (BB k) defs I [.ask (FG x 9) (FG y 9),.ask (FG x 10) (FG y 10)] (f2:Int) fun J=>I (.ok (true,J)):=by
  show _=BB k (FG x 9) (FG y 9) defs (f2:Int) fun r=>py.elim r (fun r=>ab (!r.1) (I (.ok (false,r.2))) (xw (BB k) defs I [.ask (FG x 10) (FG y 10)] r.2 fun J=>I (.ok (true,J)))) fun e=>I (.bD (e.1,e.2))
  congr 1
  funext r
  cases r with
  |bD e=>rfl
  |ok p=>
   obtain ⟨v,g⟩:=p
   cases v with
   |true=>exact xQ.symm
   |false=>rfl
 by_cases x8:x.k=8
 ·rw [x8,show ((8:Int)==8)=true from rfl,ae,if_pos (.inl rfl)]
  exact Y
 rw [beq_false_of_ne x8,n3]
 by_cases y8:y.k=8
 ·rw [y8,show ((8:Int)==8)=true from rfl,ae,if_pos (.inr rfl)]
  exact Y
 rw [beq_false_of_ne y8,n3,if_neg (fun q=>q.elim x8 y8)]
 by_cases B:x.k=12
 ·rw [if_pos B,B,show ((12:Int)==12)=true from rfl,ae,show af x.c 0=some (kd0 x) from (xG (n:=1) (i:=0) (E5 fx B rfl) (by omega)).1,qm,aN6 hk fy fx B]
  cases q1:Ho y x with
  |error e=>rfl
  |ok u=>exact xQ.symm
 rw [if_neg B,beq_false_of_ne B,n3]
 by_cases z:y.k=12
 ·rw [if_pos z,z,show ((12:Int)==12)=true from rfl,ae,aN6 hk fx fy z]
  cases q1:Ho x y with
  |error e=>
   show (oe (af y.c 0) fun _=>_)=_
   rw [show af y.c 0=some (kd0 y) from (xG (n:=1) (i:=0) (E5 fy z rfl) (by omega)).1,qm]
   rfl
  |ok u=>
   show (oe (af y.c 0) fun bf=>_)=_
   rw [show af y.c 0=some (kd0 y) from (xG (n:=1) (i:=0) (E5 fy z rfl) (by omega)).1,qm]
   exact xQ.symm
 rw [if_neg z,beq_false_of_ne z,n3]
 by_cases A:x.k=y.k
 case neg=>rw [beq_false_of_ne A,if_pos (.inl A)];rfl
 rw [show (x.k==y.k)=true from by simp [A],va,n3]
 by_cases hn:x.n=y.n
 case neg=>rw [beq_false_of_ne hn,if_pos (.inr (.inl hn))];rfl
 rw [show (x.n==y.n)=true from by simp [hn],va,n3,Jq]
 by_cases M:x.name=y.name
 case neg=>rw [decide_eq_false M,if_pos (.inr (.inr (.inl M)))];rfl
 rw [decide_eq_true M,va,n3,ix hk.fu (by have:=fx.ok.no.2.2.2.2.1;omega)]
 by_cases hr:x.r=y.r
 case neg=>rw [decide_eq_false hr,if_pos (.inr (.inr (.inr hr)))];rfl
 rw [decide_eq_true hr,va,n3,if_neg (fun q=>q.elim (fun q=>q A) fun q=>q.elim (fun q=>q hn) fun q=>q.elim (fun q=>q M) fun q=>q hr)]
 have a7:x.c.length=y.c.length:=by
  have h3:=fx.nk;have h4:=fy.nk
  rw [A] at h3;omega
 by_cases E:x.k=13
 ·have a8:y.k=13:=by rw [<-A];exact E
  rw [if_pos E,E,show ((13:Int)==13)=true from rfl,ae,show af x.c 0=some (kd0 x) from (xG (n:=3) (i:=0) (E5 fx E rfl) (by omega)).1,qm,show af y.c 0=some (kd0 y) from (xG (n:=3) (i:=0) (E5 fy a8 rfl) (by omega)).1,qm]
  exact xQ.symm
 rw [if_neg E,beq_false_of_ne E,n3,iL]
 obtain ⟨o1,o2,o3,o4,o5,o6,o7⟩:=fx.ok.no
 obtain ⟨p1,p2,p3,p4,p5,p6,p7⟩:=fy.ok.no
 have hs: ∀g:Int,(fe (BB k) k x.k x.s y.s defs g fun O=>py.elim O (fun O=>I (.ok (O.1,O.2))) fun ax=>I (.bD (ax.1,ax.2)))=xw (BB k) defs I (Mr x.k x.s y.s) g fun J=>I (.ok (true,J)):=fun g=>by
  rw [aOA]
  exact aO6 (n:=xX x.k) hk I o7 p7 (aNw fx hk rfl) (aNw fy hk (by rw [A])) g
 have:=aOR (x:=(x,(f1:Int))) (y:=(y,(f2:Int))) hk (hd:=BB k) (defs:=defs) I o6 a7 (f2:Int) (fun g=>hs g) x.c [] y.c [] k (f2:Int) rfl rfl rfl (by omega)
 exact this
theorem aOQ {defs:List Df} (hd:ID defs): ∀n k,4334970400+n<=k-> ∀f a b,f<=100000->JT a->JT b->cv defs n f a b≠ .error 0-> ∃R,qg (cv defs n f a b) R/\ ∀I:FE->OS S,BB k a b defs (f:Int) I=I R:=by
 intro n
 induction n with
 |zero=>intro k _ f a b _ _ _ h;exact absurd hK h
 |succ n A=>
  intro k L f a b hf q z h
  obtain ⟨k,rfl⟩: ∃j,k=j+1:=⟨k-1,by omega⟩
  have hk:F3 k:=by unfold F3;omega
  have A:=A k (by omega)
  have eq:cv defs (n+1) f a b=if f=0 then .error 220 else KX (hE defs (f-1) a) fun x f1=>KX (hE defs f1 b) fun y f2=>cl defs n f2 (ee x y):=fA
  rw [eq] at h ⊢
  by_cases B:f=0
  ·subst B
   refine ⟨.bD (220,0), ?_,fun I=> ?_⟩
   ·rw [if_pos rfl];exact ⟨0,rfl⟩
   ·simp only [BB,qo]
    rfl
  rw [if_neg B] at h ⊢
  have F:ou .i64 ((f:Int)-1)=((f-1:Nat):Int):=by rw [vf (by omega) (by omega)];omega
  have J:((f:Int)==0)=false:=beq_false_of_ne (by omega)
  cases h1:hE defs (f-1) a with
  |error e=>
   refine ⟨.bD (e,0),⟨0,rfl⟩,fun I=> ?_⟩
   simp only [BB,qo,ag hk.fu,ar,F]
   rw [J,n3,W2 (by unfold nH;omega) hd q (by omega),h1]
   rfl
  |ok p=>
   obtain ⟨x,f1⟩:=p
   rw [h1,fC] at h
   rw [fC]
   have O:=Sh h1
   cases h2:hE defs f1 b with
   |error e=>
    refine ⟨.bD (e,0),⟨0,rfl⟩,fun I=> ?_⟩
    simp only [BB,qo,ag hk.fu,ar,F]
    rw [J,n3,W2 (by unfold nH;omega) hd q (by omega),h1]
    dsimp only [py.elim]
    rw [W2 (by unfold nH;omega) hd z (by omega),h2]
   |ok p=>
    obtain ⟨y,f2⟩:=p
    rw [h2,fC] at h
    rw [fC]
    have T:=Sh h2
    have fx:=(mb hd q.1 h1).2.1
    have fy:=(mb hd z.1 h2).2.1
    obtain ⟨R,M,q2⟩:=aOq (hd:=BB (S:=S) k) (n:=n) (f0:=100000) (fun f a b hf q z E=>A f a b hf q z E) (ee x y) f2 (by omega) (aNY fx fy) h
    exact ⟨R,M,fun I=>(aPb (by omega) hd B hf q z h1 h2 I).trans (q2 I)⟩
noncomputable def jw (defs:List Df) (a b:Tm) (f:Int):Bool×Int×Int:=
 if bw a≠0 then (false,0,bw a) else if bw b≠0 then (false,0,bw b) else if f<0\/100000<f then (false,0,2) else
 match cv defs 200000 f.toNat a b with
 | .ok p=>(p.1,(p.2:Int),0)
 | .error e=>(false,0,e)
theorem W3 (B:F5 k) {defs:List Df} (hd:ID defs) {a b:Tm} (z:In k a) (A:In k b) {f:Int} (I:Bool×Int×Int->OS S):Na k defs a b f I=I (jw defs a b f):=by
 have F:4500000000<=k:=B
 have hk:=B.f3
 simp only [Na,aNn]
 obtain ⟨m,J⟩: ∃m,k=m+3:=⟨k-3,by omega⟩
 unfold jw
 have L: ∀g:bw a=0/\bw b=0,MO k I a b defs f (m+1) 2=I (if f<0\/100000<f then (false,0,2) else match cv defs 200000 f.toNat a b with
   | .ok p=>(p.1,(p.2:Int),0)
   | .error e=>(false,0,e)):=fun g=>by
  simp only [MO,l5]
  rw [show decide ((2:Int)<([(ac a),(ac b)].length:Int))=false from rfl,n3]
  by_cases h1:f<0
  ·rw [decide_eq_true h1,ae,if_pos (.inl h1)]
  rw [decide_eq_false h1,n3]
  by_cases h2:100000<f
  ·rw [decide_eq_true (show f>100000 from h2),ae,if_pos (.inr h2)]
  rw [decide_eq_false (show ¬f>100000 from h2),n3,if_neg (by omega)]
  simp only [ar]
  have M:JT a:=Fm.jt ⟨z.1,g.1⟩
  have O:JT b:=Fm.jt ⟨A.1,g.2⟩
  obtain ⟨R,x,q2⟩:=aOQ (S:=S) hd 200000 k (by omega) f.toNat a b (by omega) M O (aNx hd _ _ _ _ (by omega) z.1 A.1 (by omega))
  rw [show ((f.toNat:Nat):Int)=f by omega] at q2
  rw [q2]
  cases E:cv defs 200000 f.toNat a b with
  |ok p=>rw [E] at x;rw [show R= .ok (p.1,(p.2:Int)) from x];rfl
  |error e=>rw [E] at x;obtain ⟨c,x⟩:=x;rw [x];rfl
 have T:bw a=0->MO k I a b defs f (m+2) 1=I (if bw b≠0 then (false,0,bw b) else if f<0\/100000<f then (false,0,2) else match cv defs 200000 f.toNat a b with
   | .ok p=>(p.1,(p.2:Int),0)
   | .error e=>(false,0,e)):=fun g=>by
  rw [MO]
  simp only [l5,ag hk.fu]
  rw [show decide ((1:Int)<([(ac a),(ac b)].length:Int))=true from rfl,ae,show af [(ac a),(ac b)] 1=some (ac b) from rfl,qm,qm,ar,ar,An A.1 A.2.1 A.dep]
  by_cases q:bw b=0
  ·rw [q,show (!((0:Int)==0))=false from rfl,n3,if_neg (by simp)]
   exact L ⟨g,q⟩
  ·rw [dj q,sV,ae,if_pos q]
 have W:MO k I a b defs f (m+3) 0=I (if bw a≠0 then (false,0,bw a) else if bw b≠0 then (false,0,bw b) else if f<0\/100000<f then (false,0,2) else match cv defs 200000 f.toNat a b with
   | .ok p=>(p.1,(p.2:Int),0)
   | .error e=>(false,0,e)):=by
  rw [MO]
  simp only [l5,ag hk.fu]
  rw [show decide ((0:Int)<([(ac a),(ac b)].length:Int))=true from rfl,ae,show af [(ac a),(ac b)] 0=some (ac a) from rfl,qm,qm,ar,ar,An z.1 z.2.1 z.dep]
  by_cases q:bw a=0
  ·rw [q,show (!((0:Int)==0))=false from rfl,n3,if_neg (by simp)]
   exact T q
  ·rw [dj q,sV,ae,if_pos q]
 have: ∀n,n=m+3->MO k I a b defs f n 0=MO k I a b defs f (m+3) 0:=fun n h=>by rw [h]
 exact (this k J).trans W
theorem aPg {S:Type} (q:Nat) (I:Bool->OS S):s6 (q+400) I=I true:=by kernel_rfl
theorem aPa (hk:F3 k) (I:Bool->OS S):s6 k I=I true:=by
 have x:4294968296<=k:=hk
 obtain ⟨q,rfl⟩: ∃q,k=q+400:=⟨k-400,by omega⟩
 exact aPg q I
theorem aN5 (hk:F3 k) {t:Tm} (q:In k t) (I:Bool->OS S): ∃c,ln k t I=I c:=by
 simp only [ln,ar]
 obtain ⟨w,h1,h2,x,z⟩:=aDd t q.1 60 (by unfold Mo;omega) (fun r1=>I (decide (r1>60))) q.2.1
 exact ⟨_,h1⟩
def Rt (n:Int):Int:=if n<0\/100000<n then n else n.tmod 60
theorem aO_ (n:Int) (I:Int->OS S):Sb k n I=I (Rt n):=by
 simp only [Sb]
 unfold Rt
 by_cases h1:n<0
 ·rw [decide_eq_true h1,ae,if_pos (.inl h1)]
 rw [decide_eq_false h1,n3]
 by_cases h2:100000<n
 ·rw [decide_eq_true (show n>100000 from h2),ae,if_pos (.inr h2)]
 ·rw [decide_eq_false (show ¬n>100000 from h2),n3,if_neg (by omega)]
theorem p5 {defs:List Df} (hd:ID defs) {a b:Tm} (z:pw a) (ob:pw b) (f:Int):(∃e,e≠0/\jw defs a b f=(false,0,e))\/ ∃ (v:Bool) (r:Nat),jw defs a b f=(v,(r:Int),0)/\cv defs 200000 f.toNat a b= .ok (v,r)/\bw a=0/\bw b=0/\0<=f/\f<=100000:=by
 unfold jw
 by_cases h1:bw a=0
 case neg=>rw [if_pos h1];exact .inl ⟨_,h1,rfl⟩
 by_cases h2:bw b=0
 case neg=>rw [if_neg (by simp [h1]),if_pos h2];exact .inl ⟨_,h2,rfl⟩
 rw [if_neg (by simp [h1]),if_neg (by simp [h2])]
 by_cases x:f<0\/100000<f
 ·rw [if_pos x];exact .inl ⟨2,by decide,rfl⟩
 rw [if_neg x]
 cases A:cv defs 200000 f.toNat a b with
 |error e=>exact .inl ⟨e,fun q=>aNx hd 200000 f.toNat a b (by omega) z ob (by omega) (by rw [A,q]),rfl⟩
 |ok p=>exact .inr ⟨p.1,p.2,rfl,rfl,h1,h2,by omega,by omega⟩
theorem fz {defs:List Df}: ∀j f t,H6 220 j (hE defs f t) (hE defs (f+j) t):=fun j f t=>aKK j f t
theorem aPm {defs:List Df} (hd:ID defs) {t:Tm} (ft:Fm t) (h:(nf defs t).2.1=true): ∀f z x y r A,hE defs f t= .ok (x,r)->hE defs z (nf defs t).1= .ok (y,A)->x=y:=by
 obtain ⟨fx,B⟩:=Iq (hd.isIn zh.f3) ft.ok h
 intro f z x y r A h1 h2
 unfold hE at h1 h2
 rw [if_neg (by simp [ft.2])] at h1
 rw [if_neg (by simp [fx.2])] at h2
 have E:cz (nf defs) re 220 (nH+1) (z+1) t= .ok (y,A):=by
  rw [cz,if_neg (fun q=>q.1 B),if_neg (fun q=>by rw [h] at q;cases q.1),if_neg (by omega)]
  exact h2
 have F:cz (nf defs) re 220 (nH+1) f t= .ok (x,r):=by
  rw [aKW (n:=nH) (by omega) (by rw [show cz (nf defs) re 220 nH f t=_ from h1];intro q;cases q)];exact h1
 have a1:=((aF6 (st:=nf defs) (pl:=re) (eF:=220) (by decide) (z+1) (nH+1)).1 f t).1 x r F
 have a2:=((aF6 (st:=nf defs) (pl:=re) (eF:=220) (by decide) f (nH+1)).1 (z+1) t).1 y A E
 rw [Nat.add_comm (z+1) f,a1] at a2
 injection a2 with a2;injection a2
theorem aPv (A:F5 k) {defs:List Df} (hd:FK k defs) {t:Tm} (z:In k t) {fuel:Int} (h1:aG fuel) (I:Bool->OS S):r2 k defs t fuel I=I true:=by
 have hk:=A.f3
 have W:4500000000<=k:=A
 simp only [r2,oE,ag hk.fu,ar,aPa hk,va,n3]
 generalize E:(fun Y:Bool=>ab Y (I true) _)=R
 obtain ⟨c,c1⟩:=aN5 hk z R
 refine c1.trans ?_
 rw [<-E]
 cases c with
 |true=>rfl
 |false=>
 dsimp only
 rw [n3]
 generalize E:(fun r3:Bool=>ab r3 (I true) _)=R
 obtain ⟨c,c1,c2⟩:=aIr hk hd R
 refine c1.trans ?_
 rw [<-E]
 cases c with
 |true=>rfl
 |false=>
 dsimp only
 obtain ⟨_,hj,_⟩:=c2 rfl
 rw [n3]
 simp only [aH6 hk hd.1,aO_,W3 A hj z z]
 have J:hr k I t fuel defs k=I true:=by
  obtain ⟨j,B⟩: ∃j,k=j+1:=⟨k-1,by omega⟩
  have:hr k I t fuel defs k=s4 k I t fuel defs:=by
   conv=>lhs;rw [B]
   rw [B];rfl
  rw [this]
  simp only [s4,ag hk.fu,ar,aIA A.f4 hd z,aO_]
  by_cases F:(nf defs t).2.2=0
  case neg=>rw [dj F];rfl
  rw [F,show (!((0:Int)==0))=false from rfl,n3]
  cases L:(nf defs t).2.1 with
  |false=>rfl
  |true=>
   have ft:Fm t:=⟨z.1,r8 F⟩
   obtain ⟨fx,_⟩:=Iq hd z.1 L
   have M:=fx.isIn hk
   have hs:=aPm hj ft L
   simp only [va,n3,W3 A hj z M,W3 A hj M z]
   have last: ∀X,X=jw defs (nf defs t).1 t (Rt fuel)->ab (!(X.2.2==0)) (I true) (I X.1)=I true:=fun X hX=>by
    subst hX
    rcases p5 hj fx.ok z.1 (Rt fuel) with ⟨e,he,q⟩|⟨v,r,q,hc,_⟩
    ·rw [q];dsimp only;rw [dj he];rfl
    ·rw [q]
     cases v with
     |true=>rfl
     |false=>exact absurd hc (aNm fz aNE _ _ _ _ _ fun f O x y r T a b=>(hs O f y x T r b a).symm)
   rcases p5 hj z.1 fx.ok (Rt fuel) with ⟨e,he,q⟩|⟨v,r,q,hc,_⟩
   ·rw [q];dsimp only;rw [dj he,sV,ae]
    exact last _ rfl
   ·rw [q]
    cases v with
    |true=>exact last _ rfl
    |false=>exact absurd hc (aNm fz aNE _ _ _ _ _ hs)
 rcases p5 hj z.1 z.1 (Rt fuel) with ⟨e,he,q⟩|⟨v,r,q,hc,_⟩
 ·rw [q]
  dsimp only
  rw [dj he,n3,sV,ae,n3,show (!((0:Int)==0))=false from rfl,n3,J]
 ·rw [q]
  cases v with
  |true=>exact J
  |false=>exact absurd hc (aNm fz aNE _ _ _ _ _ fun f O x y r T a b=>v' fz a b)
theorem aPN (E:F5 k) {defs:List Df} (hd:FK k defs) {a b:Tm} (x:In k a) (z:In k b) {fuel:Int} (h1:aG fuel) (I:Bool->OS S):L1 k defs a b fuel I=I true:=by
 have hk:=E.f3
 simp only [L1,ag hk.fu,ar,aPa hk,va,n3]
 generalize A:(fun F:Bool=>ab F (I true) _)=R
 obtain ⟨c,c1⟩:=aN5 hk x R
 refine c1.trans ?_
 rw [<-A]
 cases c with
 |true=>rfl
 |false=>
 dsimp only
 rw [n3]
 generalize A:(fun F:Bool=>ab F (I true) _)=R
 obtain ⟨c,c1⟩:=aN5 hk z R
 refine c1.trans ?_
 rw [<-A]
 cases c with
 |true=>rfl
 |false=>
 dsimp only
 rw [n3]
 generalize A:(fun J:Bool=>ab J (I true) _)=R
 obtain ⟨c,c1,c2⟩:=aIr hk hd R
 refine c1.trans ?_
 rw [<-A]
 cases c with
 |true=>rfl
 |false=>
 dsimp only
 obtain ⟨_,hj,_⟩:=c2 rfl
 rw [n3]
 simp only [aH6 hk hd.1,aO_,W3 E hj x z,W3 E hj z x]
 rcases p5 hj x.1 z.1 (Rt fuel) with ⟨e,he,q⟩|⟨v,r,q,hc,_⟩
 ·rw [q];dsimp only;rw [dj he];rfl
 rw [q]
 dsimp only
 rw [show (!((0:Int)==0))=false from rfl,n3]
 rcases p5 hj z.1 x.1 (Rt fuel) with ⟨e,he,q⟩|⟨w,s,q,B,_⟩
 ·rw [q];dsimp only;rw [dj he];rfl
 rw [q]
 dsimp only
 rw [show (!((0:Int)==0))=false from rfl,n3]
 have:v=w:=by
  cases v with
  |true=>
   cases w with
   |true=>rfl
   |false=>exact absurd B (aOC fz aPk _ _ _ _ _ hc _ _ _)
  |false=>
   cases w with
   |true=>exact absurd hc (aOC fz aPk _ _ _ _ _ B _ _ _)
   |false=>rfl
 rw [this,beq_self_eq_true]
end
section
open Go PI Go.ChangeShapes Go.WideShapes Go.ChangeAt Go.RowKit
section
variable {H:Type} {enc:TypeId×Value->H} {w:World} {base:Nat} {spare:Nat->Bool} {held:Bool} {o:Obj} {N:aN} {g:Gh UU}
def QDf (x:Df) (d:DataW H):Prop:=QT x.body d
theorem aG9 (B: ∀b o,¬N b o) (n:Nat) (cs:List Value) (d:DataW H) (pl:List MemPlace) (h:jG enc w base spare held n 50 cs=some (d,pl)): ∃x:EL ET.G,oM o w N g ET.G x cs/\QDf (show Df from x) d:=by
 have E:Tryz.prog.cellsOf 9=1:=by kernel_rfl
 have cT:Tryz.prog.cellsOf 27=6:=by kernel_rfl
 cases n with
 |zero=>cases h
 |succ n=>
  obtain ⟨xs,m,M,q,hl,hlen,hf⟩:=DataW.trod_struct Tryz.underlying50 h
  obtain rfl:n=m:=by omega
  injection q with q _
  subst q
  have z:cs.length=7:=hl.trans (by kernel_rfl)
  match cs,z,xs,hlen with
  |[a0,a1,a2,a3,a4,a5,O],_,[T,y1],_=>
  have A:=hf 0 _ rfl
  have h1:=hf 1 _ rfl
  simp [E,cT] at A h1
  obtain ⟨s,F,k0,_⟩:=DataW.trod_string Tryz.underlying9 A
  obtain rfl:a0= .string s:=by simpa using F
  obtain ⟨t,I,J⟩:=(ahu (o:=o) (g:=g) B n).1 _ _ _ h1
  refine ⟨(⟨s,show Tm from t⟩:Df),fun k p hp=> ?_, ?_⟩
  ·cases k with
   |zero=>cases hp;exact ⟨_,rfl,.str _⟩
   |succ k=>
    obtain ⟨v,hv,L⟩:=I k p (by
     revert hp
     generalize (show Tm from t)=u
     intro hp
     cases u
     exact hp)
    exact ⟨v,hv,L⟩
  ·obtain ⟨W,q2⟩:=J
   unfold QDf QT
   simp only [FA,List.map_nil,Rows.uptoBulk,Rows.uptoBulkAll]
   exact ⟨by show au (show Tm from t)<=_;omega,fun hb=>q2 (by omega)⟩
theorem aEV (B: ∀b o,¬N b o) {W:World} {base:Nat} {v:Value} {d:DataW H} {ps:List MemPlace} (hv:Value.okWide Tryz.prog W .any base 22 v) (h:DataW.Trod enc Tryz.prog w 0 spare held 22 v d ps):
  ∃l:List Df,px (LL o) w N g v (su l .none)/\l.length+1<=Rows.uptoBulk d/\ ∀x∈l,au x.body<=Rows.uptoBulk d/\(Rows.uptoBulk d<1073741824->pw x.body):=by
 obtain ⟨a,len,cap,rfl⟩:=okWide_slice Tryz.underlying22 hv
 obtain ⟨n,hn⟩:=h
 cases n with
 |zero=>cases hn
 |succ n=>
  obtain ⟨c,l,q,hc,I,hl,J,hb⟩:=FW (e:=ET.G) (Q:=fun x d=>QDf (show Df from x) d) B Tryz.underlying22 (by kernel_rfl) (fun cs d pl h=>aG9 B n cs d pl h) hn
  obtain rfl:c= .slice a len cap:=by simpa [Value.cells] using hc.symm
  have E:=Dr (l:=q)
  have L: @EO Df l=q.length:=hl
  refine ⟨l,I,by omega,fun x M=> ?_⟩
  obtain ⟨i,F⟩:=List.getElem?_of_mem M
  have z:i<q.length:=by rw [<-hl];exact (De.1 F).1
  have A:QT (Df.body x) q[i]:=J i x _ F (zm z)
  obtain ⟨T,q2⟩:=A
  have hle: ∀ (l:List (DataW H)) (i:Nat) (h:i<l.length),Rows.uptoBulk l[i]<=Rows.uptoBulkAll l:=by
   intro l
   induction l with
   |nil=>intro i h;cases h
   |cons y l O=>
    intro i h
    rw [Rows.uptoBulkAll]
    cases i with
    |zero=>simp
    |succ i=>have:=O i (by simpa using h);simp;omega
  have:=hle q i z
  exact ⟨by omega,fun h=>q2 (by omega)⟩
end
end
section
open Go
set_option maxHeartbeats 4000000
theorem aP0 {a b:Bool} (ha:a=true) (hb:b=true):(a&&b)=true:=by rw [ha,hb];rfl
theorem aQ2:joinedFacts Tryz.pinned.checked.prog 4 Tryz.f4 (Rows.OpenSpec.upto Rows.convSelfSpec).bare Rows.convSelfUptoRow=true:=by
 unfold joinedFacts
 repeat' with_reducible refine aP0 ?_ ?_
 all_goals as_aux_lemma=>kernel_rfl
end
section
open Go PI Go.ChangeShapes Go.WideShapes Go.ChangeAt Go.RowKit
set_option linter.unusedVariables false
set_option linter.unusedSimpArgs false
set_option maxHeartbeats 4000000
theorem adj {k:Nat} (hk:4296016872<=k) {H:Type} {t:Tm} {d:DataW H} (h:QT t d) (hb:Rows.uptoBulk d<=1048576):In k t:=by
 have h1:=h.1
 have h2:=zG t
 exact ⟨h.2 (by omega),by unfold Fd;omega,by omega⟩
theorem aFb {k:Nat} (hk:4296016872<=k) {H:Type} {l:List Df} {d:DataW H} (h1:l.length+1<=Rows.uptoBulk d) (h: ∀x∈l,au x.body<=Rows.uptoBulk d/\(Rows.uptoBulk d<1073741824->pw x.body)) (hb:Rows.uptoBulk d<=1048576):FK k l:=
 ⟨by omega,fun x q=>by
  obtain ⟨z,q2⟩:=h x q
  have h2:=zG x.body
  exact ⟨q2 (by omega),by unfold Fd;omega,by omega⟩⟩
theorem nO {H:Type} {enc:TypeId×Value->H} {w:World} {spare:Nat->Bool} {held:Bool} {o:Obj} {N:aN} {g:Gh UU} (E: ∀b o,¬N b o) {W:World} {base:Nat} {v:Value} {d:DataW H} {ps:List MemPlace} (hv:Value.okWide Tryz.prog W .any base 3 v) (h:DataW.Trod enc Tryz.prog w 0 spare held 3 v d ps):
  ∃n:Int,px (LL o) w N g v (.int .i64 n)/\aG n:=by
 obtain ⟨n,rfl⟩:=okWide_int Tryz.underlying3 hv
 obtain ⟨q,x⟩:=h
 obtain ⟨z,A,B⟩:=NT x
 obtain rfl:n=z:=by simpa [Value.cells] using A
 exact ⟨n,.int _ _,B⟩
theorem qk (q:Nat) {t0:List Df} {a1 b1:Int} {c1:ByteArray} {d1:List Cl} {x:List Tm} {f1:List (Br Tm)} {a2 z:Int} {c2:ByteArray} {d2:List Cl} {A:List Tm} {f2:List (Br Tm)} {t3:Int}:a8 (S:=Out UU) q [su t0 .none,.agg (Ah ET.T (Tm.mk a1 b1 c1 d1 x f1)),.agg (Ah ET.T (Tm.mk a2 z c2 d2 A f2)),.int .i64 t3] [] some=aa q (L1 q t0 (Tm.mk a1 b1 c1 d1 x f1) (Tm.mk a2 z c2 d2 A f2) t3) fun r=>some (Out.ret (U:=UU) (.bool r) []):=by kernel_rfl
theorem apP {j:Nat} (q:F5 (j+1)) {t0:List Df} (x:FK (j+1) t0) {t1:Tm} (h1:In (j+1) t1) {t2:Tm} (h2:In (j+1) t2) {t3:Int} (z:aG t3):a8 (S:=Out UU) (j+1) [su t0 .none,.agg (Ah ET.T t1),.agg (Ah ET.T t2),.int .i64 t3] [] some=some (.ret (.bool true) []):=by
 obtain ⟨a1,A,c1,d1,B,f1⟩:=t1
 obtain ⟨a2,E,c2,d2,F,f2⟩:=t2
 exact (qk (j+1)).trans ((ZV (by omega) _ _).trans (aPN q x h1 h2 z fun r=>some (Out.ret (U:=UU) (.bool r) [])))
theorem agd {k:Nat} (hk:5000000000<=k) {o:Obj} (ho:ai o) {t0:List Df} (z:FK k t0) {t1:Tm} (h1:In k t1) {t2:Tm} (h2:In k t2) {t3:Int} (A:aG t3):
  ci (LL o) 5 [su t0 .none,.agg (Ah ET.T t1),.agg (Ah ET.T t2),.int .i64 t3] [] (.ret (.bool true) []):=by
 have B:F5 k:=by unfold F5;omega
 obtain ⟨j,rfl⟩: ∃j,k=j+1:=⟨k-1,by omega⟩
 obtain ⟨out,q,x⟩:=aPR (S:=Out UU) o ho (j+1) [su t0 .none,.agg (Ah ET.T t1),.agg (Ah ET.T t2),.int .i64 t3] [] some (.ret (.bool true) []) (apP B z h1 h2 A)
 injection x with x
 exact x▸q
theorem agc (H:Type) (enc:TypeId×Value->H) (W:World) (base:Nat) (args:Array Value) (ds gs:List (DataW H)) (before:List MemPlace)
  (x: ∀ (j:Nat) t v,Tryz.f5.params[j]? =some t->args[j]? =some v->Value.okWide Tryz.prog W .any base t v)
  (J:DataW.Whole enc Tryz.prog Tryz.f5.params.toList Rows.convTurnsSpec.vars false W args.toList ds gs before) (M:laidMetH Tryz.prog Rows.convTurnsRow.laid W) (hb:Rows.uptoBulkAll (ds++gs)<=1048576):
  Calls Tryz.prog 5 args W fun e W'=> ∃v,e= .returned v/\Rows.convTurnsSpec.post enc Tryz.prog Tryz.f5 false true false false W args v W':=by
 have A:=J
 obtain ⟨p,q,B,hV,rfl,O,T⟩:=J
 have hA:DataW.TrodAll enc Tryz.prog W 0 (fun _=>true) true Tryz.f5.params.toList args.toList ds p:=B
 rw [Tryz.params5] at hA x
 obtain ⟨v0,Y,d0,ad,p0,q0,E,rfl,rfl,h0,r0⟩:=trodAll_cons hA
 obtain ⟨v1,ao,d1,ax,p1,q1,rfl,rfl,rfl,h1,r1⟩:=trodAll_cons r0
 obtain ⟨v2,az,d2,a6,p2,q2,rfl,rfl,rfl,h2,r2⟩:=trodAll_cons r1
 obtain ⟨v3,a7,d3,a8,p3,q3,rfl,rfl,rfl,h3,r3⟩:=trodAll_cons r2
 obtain ⟨rfl,rfl,rfl⟩:=trodAll_nil r3
 obtain rfl:args= #[v0,v1,v2,v3]:=by cases args;simp_all
 obtain ⟨rfl,rfl⟩:=trodVars_none hV
 obtain ⟨o,ho,hh⟩:=akL M
 simp only [xK,Rows.uptoBulkAll,Nat.add_zero] at hb
 obtain ⟨t0,e0,m0⟩:=aEV (o:=o) (g:=gB UU 0 fun _=>0) Sl (x 0 22 v0 rfl rfl) h0
 obtain ⟨t1,e1,k1⟩:=ZG (o:=o) (g:=gB UU 0 fun _=>0) Sl h1
 obtain ⟨t2,e2,k2⟩:=ZG (o:=o) (g:=gB UU 0 fun _=>0) Sl h2
 obtain ⟨t3,e3,k3⟩:=nO (o:=o) (g:=gB UU 0 fun _=>0) Sl (x 3 3 v3 rfl rfl) h3
 have hk:(5000000000:Nat)<=5000000000:=bu _
 generalize bc:(5000000000:Nat)=k at hk
 have F:=agd (k:=k) (by omega) ho (aFb (by omega) m0.1 m0.2 (by omega)) (adj (by omega) k1 (by omega)) (adj (by omega) k2 (by omega)) k3
 refine (ZW F (adb hh rfl rfl fun j p hj=> ?_)).mono ?_
 ·match j,hj with
  |0,hj=>cases hj;exact e0
  |1,hj=>cases hj;exact e1
  |2,hj=>cases hj;exact e2
  |3,hj=>cases hj;exact e3
  |j+4,hj=>simp at hj
 ·rintro e W' ⟨rfl,z⟩
  refine ⟨_,rfl,ahF rfl rfl (fun t L=> ?_) rfl A z⟩
  rw [Tryz.params5] at L
  have I:t=22\/t=27\/t=27\/t=3:=by simpa using L
  rcases I with rfl|rfl|rfl|rfl<;>exact of_decide_eq_true (by kernel_rfl)
noncomputable def Fb (os:Os):World:=
 {World.holding Tryz.prog os ⟨#[],#[],[]⟩ with heap:=(World.holding Tryz.prog os ⟨#[],#[],[]⟩).heap.modify 0 fun
   | .cells _ t frozen=> .cells (Lib.deBruijn32tab.map fun n:Nat=>Value.int .u8 n).toArray t frozen
   |o=>o}
def alC:Value:= .agg #[.int .i64 0,.int .i64 0,.string po,.slice none 0 0,.slice none 0 0,.slice none 0 0]
def zt:Array Value:= #[.slice none 0 0,alC,alC,.int .i64 0]
def alA {H:Type}:DataW H:= .agg [.lit (.int .i64 0),.lit (.int .i64 0),.lit (.string []),.nil,.nil,.nil]
theorem af_ (os:Os):laidMet Tryz.prog Rows.convTurnsRow.laid ((Fb os).forCall (fun _ _=>0) ⟨#[],zt,[]⟩).memory:=
 laidMet_of_run' 8 (by kernel_rfl) (by kernel_rfl)
theorem aim (os:Os) {H:Type} (enc:TypeId×Value->H): ∃places,DataW.whole enc Tryz.prog ((Fb os).forCall (fun _ _=>0) ⟨#[],zt,[]⟩).memory Tryz.f5.params.toList Rows.convTurnsSpec.vars false zt.toList 8=some ([.nil,alA,alA,.lit (.int .i64 0)],[],places):=
 ⟨[],by kernel_rfl⟩
theorem agw (os:Os) (started:os.Started) (H:Type) (enc:TypeId×Value->H) (F:Stop.Interp):
  ReturnsInHanded {} Tryz.checked os 5 .any ((Rows.OpenSpec.upto Rows.convTurnsSpec).preRow enc Tryz.prog Tryz.f5 Rows.convTurnsUptoRow.domain false Rows.convTurnsUptoRow.laid) (((Rows.OpenSpec.upto Rows.convTurnsSpec).at F).post enc Tryz.prog Tryz.f5 false true false false):=by
 obtain ⟨places,z⟩:=aim os enc
 refine returnsInHanded_of_row (C:=Tryz.checked) (s:=Rows.OpenSpec.upto Rows.convTurnsSpec) own started (by kernel_rfl) Tryz.func5
  (witness_row_at (enc:=enc) (C:=Tryz.checked) false (Fb os) zt rfl (by kernel_rfl) (by kernel_rfl) (by kernel_rfl)
   (OpenSpec.preRow_of_cond 8 z (by kernel_rfl) (fun k hk=>by cases hk;kernel_rfl) (by kernel_rfl) (af_ os))) ?_
 intro W base args A gs before x B _ q _ E _ _
 exact agc H enc W base args A gs before x B E (of_decide_eq_true (q _ rfl))
theorem aj3:Rows.ConvTurnsUptoSaid:=
 OpenClaim.holds_of_cond 5 Tryz.f5 rfl rfl rfl rfl rfl rfl rfl ⟨rfl,rfl,rfl,rfl,rfl⟩ rfl rfl rfl rfl rfl (by as_aux_lemma=>kernel_rfl) Tryz.func5 adt
  (of_decide_eq_true (by as_aux_lemma=>kernel_rfl)) (by unfold Func.isWrapper;first|(rw [if_pos (by decide+kernel)];kernel_rfl)|(rw [if_neg (by decide+kernel)];exact ⟨rfl,rfl⟩))
  (fun os started H enc _ F=>by rw [OpenClaim.pre_eq_preRow];exact agw os started H enc F)
theorem plain (f:FuncId) (fn:Func) (hf:Tryz.pinned.checked.prog.funcNamed "hypercube/hypercubelaw24.ConvTurns" =some f) (q:Tryz.pinned.checked.prog.funcs[f]? =some fn):
  true=Tryz.pinned.checked.prog.looks []/\ ∀ (j:Nat) t,fn.params[j]? =some t->Tryz.pinned.checked.prog.wantsStandIn t=false:=by
 obtain rfl:f=5:=Option.some.inj ((show Tryz.prog.funcNamed "hypercube/hypercubelaw24.ConvTurns" =some 5 by kernel_rfl).symm.trans hf)|>.symm
 obtain rfl:fn=Tryz.f5:=(Option.some.inj (Tryz.func5.symm.trans q)).symm
 refine ⟨by kernel_rfl,fun j t z=> ?_⟩
 rw [Tryz.params5] at z
 have x:t=22\/t=27\/t=27\/t=3:=by simpa using Array.mem_of_getElem? z
 rcases x with rfl|rfl|rfl|rfl
 ·exact (show Tryz.prog.wantsStandIn 22=false by kernel_rfl)
 ·exact (show Tryz.prog.wantsStandIn 27=false by kernel_rfl)
 ·exact (show Tryz.prog.wantsStandIn 27=false by kernel_rfl)
 ·exact (show Tryz.prog.wantsStandIn 3=false by kernel_rfl)
theorem convTurns_holds:Rows.ConvTurnsUptoCardSaid:=
 Claim7.holds_tied_plain_at .later [] _ _ _ _ aj3 (fun _ h=>by cases h) (by as_aux_lemma=>kernel_rfl) (fun _ h=>by cases h) convTurnsUpto_row_tie rfl ⟨rfl,rfl⟩ (by as_aux_lemma=>kernel_rfl) rfl plain (by as_aux_lemma=>kernel_rfl)
end
section
open Go PI Go.ChangeShapes Go.WideShapes Go.ChangeAt Go.RowKit
set_option linter.unusedVariables false
set_option linter.unusedSimpArgs false
set_option maxHeartbeats 4000000
theorem aQ0 {k:Nat} (hk:4296016872<=k) {H:Type} {t:Tm} {d:DataW H} (h:QT t d) (hb:Rows.uptoBulk d<=1048576):In k t:=by
 have h1:=h.1
 have h2:=zG t
 exact ⟨h.2 (by omega),by unfold Fd;omega,by omega⟩
theorem aP9 {k:Nat} (hk:4296016872<=k) {H:Type} {l:List Df} {d:DataW H} (h1:l.length+1<=Rows.uptoBulk d) (h: ∀x∈l,au x.body<=Rows.uptoBulk d/\(Rows.uptoBulk d<1073741824->pw x.body)) (hb:Rows.uptoBulk d<=1048576):FK k l:=
 ⟨by omega,fun x q=>by
  obtain ⟨z,q2⟩:=h x q
  have h2:=zG x.body
  exact ⟨q2 (by omega),by unfold Fd;omega,by omega⟩⟩
theorem aP1 {H:Type} {enc:TypeId×Value->H} {w:World} {spare:Nat->Bool} {held:Bool} {o:Obj} {N:aN} {g:Gh UU} (E: ∀b o,¬N b o) {W:World} {base:Nat} {v:Value} {d:DataW H} {ps:List MemPlace} (hv:Value.okWide Tryz.prog W .any base 3 v) (h:DataW.Trod enc Tryz.prog w 0 spare held 3 v d ps):
  ∃n:Int,px (LL o) w N g v (.int .i64 n)/\aG n:=by
 obtain ⟨n,rfl⟩:=okWide_int Tryz.underlying3 hv
 obtain ⟨q,x⟩:=h
 obtain ⟨z,A,B⟩:=NT x
 obtain rfl:n=z:=by simpa [Value.cells] using A
 exact ⟨n,.int _ _,B⟩
theorem aQY (q:Nat) {t0:List Df} {a1 b1:Int} {c1:ByteArray} {d1:List Cl} {x:List Tm} {f1:List (Br Tm)} {t2:Int}:b5 (S:=Out UU) q [su t0 .none,.agg (Ah ET.T (Tm.mk a1 b1 c1 d1 x f1)),.int .i64 t2] [] some=aa q (r2 q t0 (Tm.mk a1 b1 c1 d1 x f1) t2) fun r=>some (Out.ret (U:=UU) (.bool r) []):=by kernel_rfl
theorem aR4 {j:Nat} (q:F5 (j+1)) {t0:List Df} (x:FK (j+1) t0) {t1:Tm} (h1:In (j+1) t1) {t2:Int} (h2:aG t2):b5 (S:=Out UU) (j+1) [su t0 .none,.agg (Ah ET.T t1),.int .i64 t2] [] some=some (.ret (.bool true) []):=by
 obtain ⟨a1,z,c1,d1,A,f1⟩:=t1
 exact (aQY (j+1)).trans ((ZV (by omega) _ _).trans (aPv q x h1 h2 fun r=>some (Out.ret (U:=UU) (.bool r) [])))
theorem aR1 {k:Nat} (hk:5000000000<=k) {o:Obj} (ho:ai o) {t0:List Df} (z:FK k t0) {t1:Tm} (h1:In k t1) {t2:Int} (h2:aG t2):
  ci (LL o) 4 [su t0 .none,.agg (Ah ET.T t1),.int .i64 t2] [] (.ret (.bool true) []):=by
 have A:F5 k:=by unfold F5;omega
 obtain ⟨j,rfl⟩: ∃j,k=j+1:=⟨k-1,by omega⟩
 obtain ⟨out,q,x⟩:=aPy (S:=Out UU) o ho (j+1) [su t0 .none,.agg (Ah ET.T t1),.int .i64 t2] [] some (.ret (.bool true) []) (aR4 A z h1 h2)
 injection x with x
 exact x▸q
theorem aR0 (H:Type) (enc:TypeId×Value->H) (W:World) (base:Nat) (args:Array Value) (ds gs:List (DataW H)) (before:List MemPlace)
  (x: ∀ (j:Nat) t v,Tryz.f4.params[j]? =some t->args[j]? =some v->Value.okWide Tryz.prog W .any base t v)
  (J:DataW.Whole enc Tryz.prog Tryz.f4.params.toList Rows.convSelfSpec.vars false W args.toList ds gs before) (M:laidMetH Tryz.prog Rows.convSelfRow.laid W) (hb:Rows.uptoBulkAll (ds++gs)<=1048576):
  Calls Tryz.prog 4 args W fun e W'=> ∃v,e= .returned v/\Rows.convSelfSpec.post enc Tryz.prog Tryz.f4 false true false false W args v W':=by
 have A:=J
 obtain ⟨p,q,B,hV,rfl,O,T⟩:=J
 have hA:DataW.TrodAll enc Tryz.prog W 0 (fun _=>true) true Tryz.f4.params.toList args.toList ds p:=B
 rw [Tryz.params4] at hA x
 obtain ⟨v0,Y,d0,ad,p0,q0,E,rfl,rfl,h0,r0⟩:=trodAll_cons hA
 obtain ⟨v1,ao,d1,ax,p1,q1,rfl,rfl,rfl,h1,r1⟩:=trodAll_cons r0
 obtain ⟨v2,az,d2,a6,p2,q2,rfl,rfl,rfl,h2,r2⟩:=trodAll_cons r1
 obtain ⟨rfl,rfl,rfl⟩:=trodAll_nil r2
 obtain rfl:args= #[v0,v1,v2]:=by cases args;simp_all
 obtain ⟨rfl,rfl⟩:=trodVars_none hV
 obtain ⟨o,ho,hh⟩:=akL M
 simp only [xK,Rows.uptoBulkAll,Nat.add_zero] at hb
 obtain ⟨t0,e0,m0⟩:=aEV (o:=o) (g:=gB UU 0 fun _=>0) Sl (x 0 22 v0 rfl rfl) h0
 obtain ⟨t1,e1,k1⟩:=ZG (o:=o) (g:=gB UU 0 fun _=>0) Sl h1
 obtain ⟨t2,e2,k2⟩:=aP1 (o:=o) (g:=gB UU 0 fun _=>0) Sl (x 2 3 v2 rfl rfl) h2
 have hk:(5000000000:Nat)<=5000000000:=bu _
 generalize a7:(5000000000:Nat)=k at hk
 have F:=aR1 (k:=k) (by omega) ho (aP9 (by omega) m0.1 m0.2 (by omega)) (aQ0 (by omega) k1 (by omega)) k2
 refine (ZW F (adb hh rfl rfl fun j p hj=> ?_)).mono ?_
 ·match j,hj with
  |0,hj=>cases hj;exact e0
  |1,hj=>cases hj;exact e1
  |2,hj=>cases hj;exact e2
  |j+3,hj=>simp at hj
 ·rintro e W' ⟨rfl,z⟩
  refine ⟨_,rfl,ahF rfl rfl (fun t L=> ?_) rfl A z⟩
  rw [Tryz.params4] at L
  have I:t=22\/t=27\/t=3:=by simpa using L
  rcases I with rfl|rfl|rfl<;>exact of_decide_eq_true (by kernel_rfl)
noncomputable def aMk (os:Os):World:=
 {World.holding Tryz.prog os ⟨#[],#[],[]⟩ with heap:=(World.holding Tryz.prog os ⟨#[],#[],[]⟩).heap.modify 0 fun
   | .cells _ t frozen=> .cells (Lib.deBruijn32tab.map fun n:Nat=>Value.int .u8 n).toArray t frozen
   |o=>o}
def aS5:Value:= .agg #[.int .i64 0,.int .i64 0,.string po,.slice none 0 0,.slice none 0 0,.slice none 0 0]
def xm:Array Value:= #[.slice none 0 0,aS5,.int .i64 0]
def aS4 {H:Type}:DataW H:= .agg [.lit (.int .i64 0),.lit (.int .i64 0),.lit (.string []),.nil,.nil,.nil]
theorem aRY (os:Os):laidMet Tryz.prog Rows.convSelfRow.laid ((aMk os).forCall (fun _ _=>0) ⟨#[],xm,[]⟩).memory:=
 laidMet_of_run' 8 (by kernel_rfl) (by kernel_rfl)
theorem aSi (os:Os) {H:Type} (enc:TypeId×Value->H): ∃places,DataW.whole enc Tryz.prog ((aMk os).forCall (fun _ _=>0) ⟨#[],xm,[]⟩).memory Tryz.f4.params.toList Rows.convSelfSpec.vars false xm.toList 8=some ([.nil,aS4,.lit (.int .i64 0)],[],places):=
 ⟨[],by kernel_rfl⟩
theorem aR8 (os:Os) (started:os.Started) (H:Type) (enc:TypeId×Value->H) (F:Stop.Interp):
  ReturnsInHanded {} Tryz.checked os 4 .any ((Rows.OpenSpec.upto Rows.convSelfSpec).preRow enc Tryz.prog Tryz.f4 Rows.convSelfUptoRow.domain false Rows.convSelfUptoRow.laid) (((Rows.OpenSpec.upto Rows.convSelfSpec).at F).post enc Tryz.prog Tryz.f4 false true false false):=by
 obtain ⟨places,z⟩:=aSi os enc
 refine returnsInHanded_of_row (C:=Tryz.checked) (s:=Rows.OpenSpec.upto Rows.convSelfSpec) own started (by kernel_rfl) Tryz.func4
  (witness_row_at (enc:=enc) (C:=Tryz.checked) false (aMk os) xm rfl (by kernel_rfl) (by kernel_rfl) (by kernel_rfl)
   (OpenSpec.preRow_of_cond 8 z (by kernel_rfl) (fun k hk=>by cases hk;kernel_rfl) (by kernel_rfl) (aRY os))) ?_
 intro W base args A gs before x B _ q _ E _ _
 exact aR0 H enc W base args A gs before x B E (of_decide_eq_true (q _ rfl))
theorem aSj:Rows.ConvSelfUptoSaid:=
 OpenClaim.holds_of_cond 4 Tryz.f4 rfl rfl rfl rfl rfl rfl rfl ⟨rfl,rfl,rfl,rfl,rfl⟩ rfl rfl rfl rfl rfl (by as_aux_lemma=>kernel_rfl) Tryz.func4 aQ2
  (of_decide_eq_true (by as_aux_lemma=>kernel_rfl)) (by unfold Func.isWrapper;first|(rw [if_pos (by decide+kernel)];kernel_rfl)|(rw [if_neg (by decide+kernel)];exact ⟨rfl,rfl⟩))
  (fun os started H enc _ F=>by rw [OpenClaim.pre_eq_preRow];exact aR8 os started H enc F)
theorem aSh (f:FuncId) (fn:Func) (hf:Tryz.pinned.checked.prog.funcNamed "hypercube/hypercubelaw24.ConvSelf" =some f) (q:Tryz.pinned.checked.prog.funcs[f]? =some fn):
  true=Tryz.pinned.checked.prog.looks []/\ ∀ (j:Nat) t,fn.params[j]? =some t->Tryz.pinned.checked.prog.wantsStandIn t=false:=by
 obtain rfl:f=4:=Option.some.inj ((show Tryz.prog.funcNamed "hypercube/hypercubelaw24.ConvSelf" =some 4 by kernel_rfl).symm.trans hf)|>.symm
 obtain rfl:fn=Tryz.f4:=(Option.some.inj (Tryz.func4.symm.trans q)).symm
 refine ⟨by kernel_rfl,fun j t z=> ?_⟩
 rw [Tryz.params4] at z
 have x:t=22\/t=27\/t=3:=by simpa using Array.mem_of_getElem? z
 rcases x with rfl|rfl|rfl
 ·exact (show Tryz.prog.wantsStandIn 22=false by kernel_rfl)
 ·exact (show Tryz.prog.wantsStandIn 27=false by kernel_rfl)
 ·exact (show Tryz.prog.wantsStandIn 3=false by kernel_rfl)
theorem convSelf_holds:Rows.ConvSelfUptoCardSaid:=
 Claim7.holds_tied_plain_at .later [] _ _ _ _ aSj (fun _ h=>by cases h) (by as_aux_lemma=>kernel_rfl) (fun _ h=>by cases h) convSelfUpto_row_tie rfl ⟨rfl,rfl⟩ (by as_aux_lemma=>kernel_rfl) rfl aSh (by as_aux_lemma=>kernel_rfl)
end
end Go.Proofs.YtfffkmcpnggkdaaGreatDoor
