/- hypercubelaw24.ConvMakes returns true for all definitions, any three terms and any fuel: of two terms that vg the same, what is made of them is the same; the card with an upper bound of the input's bulk. -/
import Derived.Test.YtfffkmcpnggkdaaGreatDoorX5
import Derived.KernelRfl
open Bool renaming and_eq_true→pX,not_false→sQ,not_true→uX
open ByteArray renaming empty→oW
open Eq renaming trans→o0
open Go.IntKind renaming wrap→oa
open List renaming all_eq_true→xm,append_nil→xG,getElem?_eq_getElem→zk,getElem?_eq_some_iff→Dg,length→EO,length_cons→ue,length_eq_zero_iff→Iy,map_cons→Fy,mem_append→xO,mem_cons→xB,mem_map→wD,nil_append→zg
open Nat renaming le_refl→xq,le_trans→bu,mul_le_mul_right→HV
open Option renaming bind→nW,bind_some→p9
set_option linter.unusedVariables false
set_option linter.unusedSimpArgs false
namespace Go.Proofs.YtfffkmcpnggkdaaGreatDoor
set_option maxRecDepth 100000
open Go PI
section
variable {S:Type} {k:Nat}
def fC (nX:LC) (g a:Tm):Tm×Int:=
 let B:=SB g nX a
 let G:=mM B.c (wv 0 [⟨0,0⟩] g)
 let t1:=Ii G.1.c
 let ws:=wm (ky nX a B.a1 t1 B.st) G.2 G.1.s
 let W:=EH nX (fun c=>mM c (wA 0 1 B.a1)) ws.2
 let Z:=wm (MW B.a1) W.2 (G.1.s.zip ws.1)
 (.mk 17 0 oW [] [.mk 15 0 oW [] [t1,B.a1] (W.1++Z.1)] ((G.1.s.zip ws.1).map im),Z.2)
def e5 (t:Tm):Tm×Bool×Int:=
 if bw t≠0 then (oe,false,bw t) else
 if t.k=14/\(t.c.getD 0 oe).k=16 then
  (fun q:Tm×Int=>((dM q.2 q.1).1,(dM q.2 q.1).2==0,(dM q.2 q.1).2)) (fC t.r (t.c.getD 0 oe) (t.c.getD 1 oe))
 else (oe,false,0)
theorem aAK (hk:F3 k) {g a:Tm} {nX:LC} (q:Fm g) (x:g.k=16) (fa:Fm a) (hp:RX true nX):FN (SB g nX a).a1/\(∀b∈(SB g nX a).st,fT b)/\(SB g nX a).st.length<=10000:=by
 obtain ⟨A,_,b,hb,fb⟩:=q.gl x
 have hlen:=ns q x
 have B:GN (mM 0 (wv 0 [] g)).1:=k3 q x rA (aBC (by decide))
 have hs:=aIU (l:=g.s) (c:=(mM 0 (wv 0 [] g)).2) A
 have hl:=aIT (l:=g.s) (c:=(mM 0 (wv 0 [] g)).2)
 have hd:wl g=b:=by grind [wl]
 have z:=(B.un fa).1.isIn hk (by omega)
 refine ⟨?_,hs,bu hl hlen⟩
 show FN (Mf g nX a _ _ _).1
 unfold Mf
 rw [hd]
 exact azg hk (fb.isIn hk) z (aAL hk fa z.1 hp hs (bu hl hlen) _) _
theorem aBc {x:Tm} (h:GN x):FN (Ii x.c)/\GB x.s/\x.s.length<=10000/\(x.c.length=1/\x.c=[Ii x.c]\/x.c.length=0/\Ii x.c=oe):=by
 rcases h with ⟨h1,h2⟩|rfl
 ·obtain ⟨q,_,b,hb,fb⟩:=h1.gl h2
  rw [hb]
  exact ⟨.inl fb,q,ns h1 h2,.inl ⟨rfl,rfl⟩⟩
 ·exact ⟨.inr rfl,(fun b hb=>by cases hb),by simp [oe,Tm.s],.inr ⟨rfl,rfl⟩⟩
section
variable {z1 z2:Int} {z3:BA} {z4:LC} {z5:LT} {z6:LB}
theorem aGR (hk:F3 k) (I:Tm×Bool×Int->OS S) {r3 x4:Tm} {r6:Int×LB×Int×Int×BA×LC×LT×LB} {r8:Tm×Int} {a1:Tm} (L:Tm.mk r6.2.2.1 r6.2.2.2.1 r6.2.2.2.2.1 r6.2.2.2.2.2.1 r6.2.2.2.2.2.2.1 r6.2.2.2.2.2.2.2=a1) (o1:pf a1) (i1:In k a1) (M:GB r8.1.s) (O:r8.1.s.length<=10000) {ws:LT} (T: ∀w∈ws,In k w) (W:ws.length=r8.1.s.length) {END:LB->LB->Int->OS S}
  (J: ∀ (m:Nat) (c:Int) (q sy:LB),RB k I r3 r6 x4 r8 (m+1) c z1 z2 z3 z4 z5 z6 q (r8.1.s.length:Int) ws sy=END q sy c):
  ∀ (r p:LB) (rw A:LT) (q sy:LB) (m:Nat) (c:Int),r8.1.s=p++r->ws=A++rw->A.length=p.length->r.length<m->q.length=p.length->sy.length<=p.length+1->
   RB k I r3 r6 x4 r8 m c z1 z2 z3 z4 z5 z6 q (p.length:Int) ws sy=END (q++(r.zip rw).map im) (sy++(wm (MW a1) c (r.zip rw)).1) (wm (MW a1) c (r.zip rw)).2:=by
 intro r
 induction r with
 |nil=>
  grind [pw,List.zip_nil_left,wm]
 |cons x r Y=>
  intro p z A q sy m c h h' B hm ad ao
  obtain ⟨m,rfl,E⟩:=pw hm
  obtain ⟨F,e2,e3,e4⟩:=qF h (by omega)
  have hlen:p.length<r8.1.s.length:=by grind
  cases z with
  |nil=>grind
  |cons w z=>
  have gw:af ws (p.length:Int)=some w:=by
   rw [h',<-B]
   exact ED (n:=A.length) rfl (by simp)
  obtain ⟨q1,q2,q3,q4⟩:=M x (by grind)
  have g1:af x.c 1=some (k1 x):=ED (n:=1) rfl (by grind)
  have iw:=T w (by grind)
  simp only [RB,r5,F,ae,e2,p9,gw,ag hk.fu,ar,L,g1,No,zc,tO,wi,e3]
  rw [E8 hk (fun _=>iw) (by omega) (by omega),E8 hk (fun _=>i1) (by omega) (by omega),E8 hk (fun _=>q3.isIn hk) (by omega) (by omega),J5 (by grind),J5 (by grind)]
  refine o0 (Y (p++[x]) z (A++[w]) _ _ m _ e4 (by grind) (by simp_all) E (by simp_all) (by grind)) ?_
  rw [List.zip_cons_cons,Fy,wm,List.append_assoc,List.append_assoc]
  rfl
end
theorem p2 {n:Nat}: ∀ {l:LB},(∀x∈l,∃t,x.c=[t]/\pf t/\am t<=n/\aq x.f/\x.f.length<1073741824)->ba l/\aO l<=n+2:=by
 intro l
 induction l with
 |nil=>grind [ba,aO]
 |cons x l q=>
  intro h
  obtain ⟨h1,h2⟩:=q fun y z=>h y (by simp [z])
  obtain ⟨t,A,q2,B,E,F⟩:=h x (by simp)
  obtain ⟨f,I⟩:=x
  grind [ba,Fa,aZ,aO,Ey,aH]
theorem aA7 {a1:Tm} (A:pf a1) {q:Br Tm×Tm} (B:pf q.2) (E:pf (k1 q.1)) (hf:aq q.1.f/\q.1.f.length<1073741824) (c:Int):
  ∃t,(MW a1 c q).1.c=[t]/\pf t/\am t<=299/\aq (MW a1 c q).1.f/\(MW a1 c q).1.f.length<1073741824:=by
 have fx:=Ft (c:=c) (a:=0) (b:=1) (by omega) (by omega) B
 have fl:=Ft (c:=(mM c (wA 0 1 q.2)).2) (a:=0) (b:=1) (by omega) (by omega) A
 have F:=Ft (c:=(mM (mM c (wA 0 1 q.2)).2 (wA 0 1 a1)).2) (a:=0) (b:=1) (by omega) (by omega) E
 have x:=Mj (kd:=10) (by omega) fx.sm (by omega)
 have I:=Mj (kd:=9) (by omega) fx.sm (by omega)
 have z:=Mj (kd:=9) (by omega) F.sm (by omega)
 have J:=Ih (kd:=6) (by omega) (d:=201) z I (by omega)
 have:=azY (MB (a:=1) (b:=0) (by omega) (by omega)) (d:=202) ⟨x.1,by omega⟩ ⟨fl.sm.1,by have:=fl.sm.2;omega⟩ ⟨J.1,by omega⟩ (by omega)
 exact ⟨_,rfl,this.1.ok,by omega,hf.1,hf.2⟩
theorem pj (a b:Int) (c:BA) (d:LC) (e:LT) (f:LB):(Tm.mk a b c d e f).k=a/\(Tm.mk a b c d e f).n=b/\(Tm.mk a b c d e f).name=c/\(Tm.mk a b c d e f).r=d/\(Tm.mk a b c d e f).c=e/\(Tm.mk a b c d e f).s=f:=⟨rfl,rfl,rfl,rfl,rfl,rfl⟩
theorem aIe (hk:F3 k) {t:Tm} (T:In k t) (I:Tm×Bool×Int->OS S):q' k t I=I (e5 t):=by
 have a8:4294968296<=k:=hk
 simp only [q',az9,ag hk.fu,ar,zy T.1 T.2.1 T.dep]
 unfold e5
 by_cases h0:bw t=0
 case neg=>rw [dj h0,sQ,ae,if_pos h0];rfl
 rw [h0,show (!((0:Int)==0))=false from rfl,n3,if_neg (by simp)]
 have ft:Fm t:=⟨T.1,h0⟩
 by_cases E:t.k=14
 case neg=>rw [beq_false_of_ne E,sQ,ae,if_neg (fun h=>E h.1)];rfl
 rw [E,show (!((14:Int)==14))=false from rfl,n3]
 obtain ⟨g,a,ad⟩:=I8 (E5 ft E (n:=2) rfl)
 obtain ⟨g0,g1⟩:=KQ ad
 obtain ⟨d0,d1⟩:=EC ad
 have fg:Fm g:=ft.bV (by grind)
 have fa:Fm a:=ft.bV (by grind)
 have hp:=ft.r14 E
 rw [g0,p9,d0,d1]
 by_cases A:g.k=16
 case neg=>rw [beq_false_of_ne A,sQ,ae,if_neg (fun h=>A h.2)];rfl
 rw [A,show (!((16:Int)==16))=false from rfl,n3,vU t T.1 _ T.2.1,if_pos ⟨rfl,rfl⟩]
 simp only [g0,g1,p9]
 generalize a7:t.r=nX at hp
 obtain ⟨x1,x2,x3,x4,x5,x6⟩:=a
 simp only [pj x1 x2 x3 x4 x5 x6]
 rw [aH1 hk fg A fa hp]
 unfold fC
 dsimp only
 obtain ⟨J,sB,lB⟩:=aAK hk fg A fa hp
 generalize SB g nX (Tm.mk x1 x2 x3 x4 x5 x6)=B at J sB lB ⊢
 obtain ⟨st,⟨y1,y2,y3,y4,y5,y6⟩,c0⟩:=B
 dsimp only at J sB lB ⊢
 simp only [pj y1 y2 y3 y4 y5 y6]
 rw [vZ hk (fun _=>fg.isIn hk)]
 have gG:GN (mM c0 (wv 0 [⟨0,0⟩] g)).1:=k3 fg A Qz (aBA (by decide))
 generalize mM c0 (wv 0 [⟨0,0⟩] g)=G at gG ⊢
 obtain ⟨f1,Y,lG,ao⟩:=aBc gG
 have i1:=J.sm.1.isIn hk (by omega)
 have main: ∀ {z1 z2:Int} {z3:BA} {z4:LC} {z5:LT} {z6:LB},Tm.mk z1 z2 z3 z4 z5 z6=Ii G.1.c->
   (k6 k G.1.s G.2 nX x1 x2 x3 x4 x5 x6 st y1 y2 y3 y4 y5 y6 z1 z2 z3 z4 z5 z6 fun ax=>ka k ax.2 nX x1 x2 x3 x4 x5 x6 st y1 y2 y3 y4 y5 y6 z1 z2 z3 z4 z5 z6 fun az=>RB k I t (c0,st,y1,y2,y3,y4,y5,y6) (Tm.mk x1 x2 x3 x4 x5 x6) G k az.2 z1 z2 z3 z4 z5 z6 [] 0 ax.1 az.1)=
    (fun q:Tm×Int=>I ((dM q.2 q.1).1,(dM q.2 q.1).2==0,(dM q.2 q.1).2)) (.mk 17 0 oW [] [.mk 15 0 oW [] [Ii G.1.c,Tm.mk y1 y2 y3 y4 y5 y6] ((EH nX (fun c=>mM c (wA 0 1 (Tm.mk y1 y2 y3 y4 y5 y6))) (wm (ky nX (Tm.mk x1 x2 x3 x4 x5 x6) (Tm.mk y1 y2 y3 y4 y5 y6) (Ii G.1.c) st) G.2 G.1.s).2).1++(wm (MW (Tm.mk y1 y2 y3 y4 y5 y6)) (EH nX (fun c=>mM c (wA 0 1 (Tm.mk y1 y2 y3 y4 y5 y6))) (wm (ky nX (Tm.mk x1 x2 x3 x4 x5 x6) (Tm.mk y1 y2 y3 y4 y5 y6) (Ii G.1.c) st) G.2 G.1.s).2).2 (G.1.s.zip (wm (ky nX (Tm.mk x1 x2 x3 x4 x5 x6) (Tm.mk y1 y2 y3 y4 y5 y6) (Ii G.1.c) st) G.2 G.1.s).1)).1)] ((G.1.s.zip (wm (ky nX (Tm.mk x1 x2 x3 x4 x5 x6) (Tm.mk y1 y2 y3 y4 y5 y6) (Ii G.1.c) st) G.2 G.1.s).1).map im),(wm (MW (Tm.mk y1 y2 y3 y4 y5 y6)) (EH nX (fun c=>mM c (wA 0 1 (Tm.mk y1 y2 y3 y4 y5 y6))) (wm (ky nX (Tm.mk x1 x2 x3 x4 x5 x6) (Tm.mk y1 y2 y3 y4 y5 y6) (Ii G.1.c) st) G.2 G.1.s).2).2 (G.1.s.zip (wm (ky nX (Tm.mk x1 x2 x3 x4 x5 x6) (Tm.mk y1 y2 y3 y4 y5 y6) (Ii G.1.c) st) G.2 G.1.s).1)).2):=by
  intro z1 z2 z3 z4 z5 z6 hz
  rw [<-hz] at f1
  rw [aIO hk fa J f1 hp sB lB Y lG,<-hz]
  have L:=aDv (nX:=nX) (st:=st) (c:=G.2) hk fa J f1 hp sB lB Y
  have a6:(wm (ky nX (Tm.mk x1 x2 x3 x4 x5 x6) (Tm.mk y1 y2 y3 y4 y5 y6) (Tm.mk z1 z2 z3 z4 z5 z6) st) G.2 G.1.s).1.length=G.1.s.length:=Ni
  generalize wm (ky nX (Tm.mk x1 x2 x3 x4 x5 x6) (Tm.mk y1 y2 y3 y4 y5 y6) (Tm.mk z1 z2 z3 z4 z5 z6) st) G.2 G.1.s=ws at L a6 ⊢
  rw [aIL hk i1]
  have fU: ∀c,FN (mM c (wA 0 1 (Tm.mk y1 y2 y3 y4 y5 y6))).1:=fun c=>Ft (by omega) (by omega) J.sm.1.ok
  obtain ⟨w1,w2⟩:=B0 (F:=fun c=>mM c (wA 0 1 (Tm.mk y1 y2 y3 y4 y5 y6))) hp (n:=20000) (fun c=>⟨(fU c).sm.1,by have:=(fU c).sm.2;omega⟩) ws.2
  generalize EH nX (fun c=>mM c (wA 0 1 (Tm.mk y1 y2 y3 y4 y5 y6))) ws.2=W at w1 w2 ⊢
  have x: ∀q∈G.1.s.zip ws.1,q.1∈G.1.s/\q.2∈ws.1:=fun q M=>⟨(List.of_mem_zip M).1,(List.of_mem_zip M).2⟩
  have key:=aGR (z1:=z1) (z2:=z2) (z3:=z3) (z4:=z4) (z5:=z5) (z6:=z6) hk I (r3:=t) (x4:=Tm.mk x1 x2 x3 x4 x5 x6) (r6:=(c0,st,y1,y2,y3,y4,y5,y6)) (r8:=G) (a1:=Tm.mk y1 y2 y3 y4 y5 y6) rfl J.sm.1.ok i1 Y lG (ws:=ws.1) (fun w hw=>(L w hw).1.isIn hk (by omega)) a6
   (END:=fun pa sy c=>ly k (.mk 17 0 oW [] [.mk 15 0 oW [] [Tm.mk z1 z2 z3 z4 z5 z6,Tm.mk y1 y2 y3 y4 y5 y6] sy] pa) c fun O=>I (O.1,O.2.1,O.2.2.1)) (fun m c pa sy=>by
    have:=xu (l:=G.1.s) (p:=G.1.s) (by simp)
    simp only [RB,r5,this,n3,ag hk.fu,ar,JM])
   G.1.s [] ws.1 [] [] W.1 k W.2 rfl rfl rfl (by omega) rfl (by omega)
  refine o0 ?_ (key.trans ?_)
  ·rfl
  rw [zg]
  dsimp only
  generalize hZ:wm (MW (Tm.mk y1 y2 y3 y4 y5 y6)) W.2 (G.1.s.zip ws.1)=Z
  have zq: ∀y∈Z.1,∃t,y.c=[t]/\pf t/\am t<=299/\aq y.f/\y.f.length<1073741824:=by
   rw [<-hZ]
   exact SF fun q M c=>aA7 J.sm.1.ok (L q.2 (x q M).2).1.ok (Y q.1 (x q M).1).2.2.1.ok (G9 (Y q.1 (x q M).1).2.2.2) c
  have zl:Z.1.length=(G.1.s.zip ws.1).length:=by grind [Ni]
  have pq: ∀y∈(G.1.s.zip ws.1).map im,∃t,y.c=[t]/\pf t/\am t<=301/\aq y.f/\y.f.length<1073741824:=fun y hy=>by
   obtain ⟨q,M,rfl⟩:=wD.1 hy
   obtain ⟨h1,h2⟩:=L q.2 (x q M).2
   have r:=G9 (Y q.1 (x q M).1).2.2.2
   refine ⟨_,rfl, ?_, ?_,r.1,r.2⟩
   ·unfold dS;rw [pf,aZ,aZ,ba];exact ⟨⟨by unfold aG;omega,by unfold aG;omega,by decide,(fun c hc=>by cases hc),by simp,by simp,by simp⟩,⟨h1.ok,trivial⟩,trivial⟩
   grind [dS,am,aH,aO]
  obtain ⟨o1,o2⟩:=p2 (l:=W.1++Z.1) (n:=299) fun y hy=>by
   rcases xO.1 hy with hy|hy
   ·obtain ⟨t,q1,q2,q3,q4,q5⟩:=w1 y hy;exact ⟨t,q1,q2.ok,q3,q4,q5⟩
   grind
  obtain ⟨o3,o4⟩:=p2 pq
  have bc:(G.1.s.zip ws.1).length<=10000:=by grind
  have b1:=f1.sm;have b2:=J.sm
  refine azT hk ?_ ?_ _
  ·rw [pf,aZ,aZ,pf,aZ,aZ,aZ]
   exact ⟨⟨by unfold aG;omega,by unfold aG;omega,by decide,(fun c hc=>by cases hc),by simp,by simp,by grind⟩,⟨⟨⟨by unfold aG;omega,by unfold aG;omega,by decide,(fun c hc=>by cases hc),by simp,by simp,by grind⟩,⟨b1.1.ok,b2.1.ok,trivial⟩,o1⟩,trivial⟩,o3⟩
  grind [am,aH]
 rcases ao with ⟨e1,e2⟩|⟨e1,e2⟩
 ·have gk:af G.1.c 0=some (Ii G.1.c):=by rw [e2];rfl
  rw [e1,show ((((1:Nat):Int))==1)=true from rfl,ae,gk,p9]
  generalize hz:Ii G.1.c=z at main ⊢
  obtain ⟨z1,z2,z3,z4,z5,z6⟩:=z
  grind [pj]
 ·rw [e1,show ((((0:Nat):Int))==1)=false from rfl,n3]
  exact main e2.symm
theorem azt {t:Tm} (h:t.c.length=3): ∃a b c,t.c=[a,b,c]:=by
 match hk:t.c,h with
 |[a,b,c],_=>simp
def Mb (q:Tm×Int):Tm×Bool×Int:=((dM q.2 q.1).1,(dM q.2 q.1).2==0,(dM q.2 q.1).2)
def u9 (t:Tm):Tm×Bool×Int:=
 if bw t≠0 then (oe,false,bw t) else
 if t.k≠14 then (oe,false,0) else
 let l:=t.c.getD 0 oe
 let a:=t.c.getD 1 oe
 let k0:=l.c.getD 0 oe
 let k1:=l.c.getD 1 oe
 if l.k=3\/l.k=19 then Mb (a,0) else
 if l.k=4 then Mb (tPi t.r k0 k1 a) else
 if l.k=7 then Mb (az6 t.r k0 k1 a) else
 if l.k=11 then Mb (az4 t.r k0 k1 (l.c.getD 2 oe) a) else
 if l.k=23 then h_ t else
 if l.k=16 then e5 t else (oe,false,0)
theorem aIE (E:F4 k) {t:Tm} (J:In k t) (I:Tm×Bool×Int->OS S):hF k t I=I (u9 t):=by
 have hk:=E.f3
 have a6:4294968296<=k:=hk
 simp only [hF,ag hk.fu,ar,zy J.1 J.2.1 J.dep]
 unfold u9
 by_cases h0:bw t=0
 case neg=>rw [dj h0,sQ,ae,if_pos h0];rfl
 rw [h0,show (!((0:Int)==0))=false from rfl,n3,if_neg (by simp)]
 have ft:Fm t:=⟨J.1,h0⟩
 by_cases z:t.k=14
 case neg=>rw [beq_false_of_ne z,sQ,ae,if_pos z];rfl
 rw [z,show (!((14:Int)==14))=false from rfl,n3,if_neg (by simp)]
 obtain ⟨l,a,L⟩:=I8 (E5 ft z (n:=2) rfl)
 obtain ⟨g0,g1⟩:=KQ L
 obtain ⟨d0,d1⟩:=EC L
 have fl:Fm l:=ft.bV (by grind)
 have fa:Fm a:=ft.bV (by grind)
 have hp:=ft.r14 z
 rw [vU t J.1 _ J.2.1]
 simp only [g0,g1,p9,d0,d1]
 have M:=fun {x:Tm} {c:Int} (hx:In k x) (g:Tm×Bool×Int->OS S)=>Ry hk (c:=c) hx (fun r=>g (r.1,r.2.1,r.2.2.1))
 generalize az:t.r=nX at hp
 obtain ⟨x1,x2,x3,x4,x5,x6⟩:=a
 simp only [pj x1 x2 x3 x4 x5 x6]
 by_cases h3:l.k=3
 ·rw [h3,show ((3:Int)==3)=true from rfl,ae,if_pos (.inl rfl),M (fa.isIn hk)];rfl
 rw [beq_false_of_ne h3,n3]
 by_cases F:l.k=19
 ·rw [F,show ((19:Int)==19)=true from rfl,ae,if_pos (.inr rfl),M (fa.isIn hk)];rfl
 rw [beq_false_of_ne F,n3,if_neg (fun h=>h.elim h3 F)]
 by_cases h4:l.k=4
 ·obtain ⟨k0,ax,hb⟩:=I8 (E5 fl h4 (n:=2) rfl)
  obtain ⟨O,T⟩:=EC hb
  rw [h4,show ((4:Int)==4)=true from rfl,ae,if_pos rfl,O,T]
  obtain ⟨ks,c,W,q2,Y⟩:=aDg (nX:=nX) E hb (fl.bV (by grind)) (fl.bV (by grind)) fa hp (fun q=>ly k (Tm.mk q.1 q.2.1 q.2.2.1 [] q.2.2.2.1 []) q.2.2.2.2 fun A=>I (A.1,A.2.1,A.2.2.1))
  rw [W,<-q2]
  exact M Y I
 rw [beq_false_of_ne h4,n3,if_neg h4]
 by_cases h7:l.k=7
 ·obtain ⟨k0,ax,hb⟩:=I8 (E5 fl h7 (n:=2) rfl)
  obtain ⟨O,T⟩:=EC hb
  rw [h7,show ((7:Int)==7)=true from rfl,ae,if_pos rfl,O,T]
  obtain ⟨ks,c,W,q2,Y⟩:=aDi (nX:=nX) E hb (fl.bV (by grind)) (fl.bV (by grind)) fa hp (fun q=>ly k (Tm.mk q.1 q.2.1 q.2.2.1 [] q.2.2.2.1 []) q.2.2.2.2 fun A=>I (A.1,A.2.1,A.2.2.1))
  rw [W,<-q2]
  exact M Y I
 rw [beq_false_of_ne h7,n3,if_neg h7]
 by_cases B:l.k=11
 ·obtain ⟨k0,kl,kr,hb⟩:=azt (E5 fl B (n:=3) rfl)
  have O:l.c.getD 0 oe=k0:=by grind
  have T:l.c.getD 1 oe=kl:=by grind
  have e2:l.c.getD 2 oe=kr:=by simp_all
  rw [B,show ((11:Int)==11)=true from rfl,ae,if_pos rfl,O,T,e2]
  obtain ⟨ks,c,W,q2,Y⟩:=aDf (nX:=nX) hk hb (fl.bV (by grind)) (fl.bV (by grind)) (fl.bV (by grind)) fa hp (fun q=>ly k (Tm.mk q.1 q.2.1 q.2.2.1 [] q.2.2.2.1 []) q.2.2.2.2 fun A=>I (A.1,A.2.1,A.2.2.1))
  rw [W,<-q2]
  exact M Y I
 rw [beq_false_of_ne B,n3,if_neg B]
 by_cases ad:l.k=23
 ·grind [ae,ap_]
 rw [beq_false_of_ne ad,n3,if_neg ad]
 by_cases ao:l.k=16
 ·grind [ae,aIe]
 rw [beq_false_of_ne ao,n3,if_neg ao]
 rfl
def Rj (f:LC):Bool:=decide (f=[⟨0,0⟩])
def Rs (l:LB):Option (Br Tm):=l.find? fun b=>Rj b.f
def Mx (r:LC):Int:=if r.length=0 then 0 else if Rj r then 1 else-1
theorem aCz {f:LC} (h:f.length≠1):Rj f=false:=by
 grind [Rj]
theorem aCA (c:Cl):Rj [c]=((c.pos==0)&&((c.neg==0)&&true)):=by
 unfold Rj
 obtain ⟨p,n⟩:=c
 grind
theorem azS (r:LC) (I:Int->OS S):aW k r I=I (Mx r):=by
 simp only [aW]
 unfold Mx
 match r with
 |[]=>rfl
 |[c]=>
  rw [show ((([c]:LC).length:Int)==0)=false from rfl,n3,show ((([c]:LC).length:Int)==1)=true from rfl,ae,show af [c] 0=some c from rfl,p9,<-aCA,if_neg (by simp)]
  cases Rj [c]<;>rfl
 |c::d::r=>
  rw [beq_false_of_ne (by grind),n3,beq_false_of_ne (by grind),n3,if_neg (by simp),aCz (by simp)]
  rfl
theorem aIG (b:Br Tm) (I:Bool->OS S):cW k b I=I (Rj b.f):=by
 simp only [cW]
 match h:b.f with
 |[]=>rfl
 |[c]=>simp_all [ae,af,aCA]
 |c::d::r=>rw [beq_false_of_ne (by grind),n3,aCz (by simp)]
theorem aGY (hk:Fu k) (I:Int->OS S) {l:LB} (hl:l.length<4611686018427387904):
  ∀ (r p:LB) (m:Nat),l=p++r->r.length<m-> ∃i,fk k I l m (p.length:Int)=I i/\(i<0/\Rs r=none\/0<=i/\ ∃b,af l i=some b/\Rs r=some b):=by
 intro r
 induction r with
 |nil=>
  intro p m h q
  obtain ⟨m,rfl,z⟩:=pw q
  refine ⟨-1, ?_,.inl ⟨by omega,rfl⟩⟩
  grind [fk,cm,n3]
 |cons x r A=>
  intro p m h q
  obtain ⟨m,rfl,z⟩:=pw q
  obtain ⟨B,E,F,J⟩:=qF h (by omega)
  grind [fk,cm,ae,aIG,ag,Rs,n3]
theorem aIH (hk:F3 k) {l:LB} (hl:l.length<=20000) (I:Int->OS S): ∃i,cS k l I=I i/\(i<0/\Rs l=none\/0<=i/\ ∃b,af l i=some b/\Rs l=some b):=by
 have q:4294968296<=k:=hk
 obtain ⟨i,h1,h2⟩:=aGY hk.fu (fun r1=>I r1) (l:=l) (by omega) l [] k rfl (by omega)
 grind [cS,cP,aAn,ag]
theorem Fm.parts {t:Tm} (h:Fm t): ∀b∈t.s,(b.c.length:Int)=xU t.k:=fun b hb=>by
 have ho:=h.own
 obtain ⟨kd,n,nm,r,q,sys⟩:=t
 have hb:b∈sys:=hb
 by_cases hp:xU kd=0
 ·have:sys.length=0:=by
   have ho:((_&&(_&&(_&&decide (xU kd=0->sys.length=0))))&&_)=true:=ho
   grind
  grind
 ·have hk:kd=16\/kd=15\/kd=17\/kd=18:=by
   grind [xU]
  have key:sys.all (bX kd 24)=true:=by
   rcases hk with rfl|rfl|rfl|rfl
   ·have ho:(_&&(sys.all (bX 16 24)&&_))=true:=ho
    grind
   ·have ho:(_&&(sys.all (bX 15 24)&&_))=true:=ho
    grind
   ·have ho:(_&&(sys.all (bX 17 24)&&_))=true:=ho
    grind
   ·have ho:(_&&(sys.all (bX 18 24)&&_))=true:=ho
    grind
  have:=xm.1 key b hb
  unfold bX at this
  simp only [pX,decide_eq_true_eq] at this
  exact this.1
theorem aDq {l:LB} {b:Br Tm} (h:Rs l=some b):b∈l:=List.mem_of_find?_eq_some h
def Hv (t:Tm):Tm×Bool×Int:=match Rs t.s with
 |none=>(oe,false,0)
 |some b=>if t.k=15 then ((tE (wv 0 [⟨0,0⟩] (AK b))).1,true,(tE (wv 0 [⟨0,0⟩] (AK b))).2)
  else if t.k=18 then (dS 6 [dS 9 [AK b],t.c.getD 0 oe],true,0)
  else if t.k=16\/t.k=17 then (AK b,true,0) else (oe,false,0)
theorem aH0 (hk:F3 k) {t:Tm} (ft:Fm t) (I:Tm×Bool×Int->OS S):aJ k t 0 I=I (Hv t):=by
 have hz:=ft.dP
 have hl:t.s.length<=20000:=by
  have: ∀ {l:LB},(∀b∈l,(b.c.length:Int)=xU t.k)->l≠[]->xU t.k≠0->l.length<=aI l:=by
   intro l
   induction l with
   |nil=>simp
   |cons b l ih=>
    intro hb _ hp
    have h1:=hb b (by simp)
    have h2:1<=ay b.c:=by
     cases hk:b.c<;>grind [ay,mB]
    obtain ⟨f,F⟩:=b
    have h2:1<=ay F:=h2
    rw [aI,Fs,ue]
    by_cases hn:l=[]<;>grind
  by_cases hn:t.s=[]
  ·grind
  ·have hp:xU t.k≠0:=by
    intro O
    cases hs:t.s with
    |nil=>simp_all
    |cons b l=>
     have ho:=ft.own
     obtain ⟨kd,n,nm,r,F,sys⟩:=t
     have ho:((_&&(_&&(_&&decide (xU kd=0->sys.length=0))))&&_)=true:=ho
     simp only [pX,decide_eq_true_eq] at ho
     have:=ho.1.2.2.2 O
     have hs:sys=b::l:=hs
     grind
   have h1:=this ft.parts hn hp
   have h2:aI t.s+1<=au t:=by cases t<;>grind [au,Tm.s]
   omega
 obtain ⟨i,h1,h2⟩:=aIH hk hl (fun r1=>ab (decide ((r1:Int)<0)) (I (oe,false,0)) (nW (af t.s r1) fun x2=>ab (t.k==15) (nW (af x2.c 0) fun x3=>JI k x3 0 fun J=>I (J.1,true,J.2)) (ab (t.k==18) (nW (af x2.c 0) fun x5=>nW (af t.c 0) fun T=>I (dS 6 [dS 9 [x5],T],true,0)) (ab (t.k==16) (nW (af x2.c 0) fun W=>I (W,true,0)) (ab (t.k==17) (nW (af x2.c 0) fun A=>I (A,true,0)) (I (oe,false,0)))))))
 simp only [aJ,ag hk.fu,ar,zc]
 refine o0 ?_ (h1.trans ?_)
 ·rfl
 unfold Hv
 rcases h2 with ⟨h2,L⟩|⟨h2,b,L,M⟩
 ·grind [ae]
 ·rw [M,decide_eq_false (by omega),n3,L,p9]
  have hb:=aDq M
  have hp:=ft.parts b hb
  have fb:t.k=15\/t.k=16\/t.k=17\/t.k=18->af b.c 0=some (AK b)/\Fm (AK b):=fun B=>by
   have Y:xU t.k≠0:=by rcases B with h|h|h|h<;>rw [h]<;>decide
   cases hk:b.c with
   |nil=>grind
   |cons x r=>
    have e:AK b=x:=by grind [AK]
    rw [e]
    exact ⟨rfl,ft.brk hb (by grind)⟩
  dsimp only
  by_cases z:t.k=15
  ·obtain ⟨E,f0⟩:=fb (.inl z)
   rw [z,show ((15:Int)==15)=true from rfl,ae,if_pos rfl,E,p9,vZ hk (fun _=>f0.isIn hk)]
   rfl
  rw [beq_false_of_ne z,n3,if_neg z]
  by_cases q:t.k=18
  ·obtain ⟨E,f0⟩:=fb (.inr (.inr (.inr q)))
   obtain ⟨a,ha⟩: ∃a,t.c=[a]:=by
    have:=E5 ft q (n:=1) rfl
    match h:t.c,this with
    |[a],_=>simp
   rw [q,show ((18:Int)==18)=true from rfl,ae,if_pos rfl,E,p9,ha]
   rfl
  rw [beq_false_of_ne q,n3,if_neg q]
  by_cases ad:t.k=16<;>grind [ae,n3]
abbrev kd0 (t:Tm):Tm:=t.c.getD 0 oe
abbrev gx (t:Tm):Tm:=t.c.getD 1 oe
abbrev w6 (t:Tm):Tm:=t.c.getD 2 oe
abbrev sR (t:Tm):Tm:=t.c.getD 3 oe
abbrev rj (t:Tm):Tm:=t.c.getD 4 oe
theorem xD {t:Tm} {n i:Nat} (h:t.c.length=n) (q:i<n):af t.c (i:Int)=some (t.c.getD i oe)/\t.c.getD i oe∈t.c:=by
 grind [pU]
theorem aAY (r:LC):Mx r= -1\/Mx r=0\/Mx r=1:=by
 grind [Mx]
def Bi (t:Tm):Tm×Bool×Int:=
 if Mx t.r=0 then (gx t,true,0) else if Mx t.r=1 then (w6 t,true,0) else
 if (kd0 t).k=12 then ((tE (wv 0 t.r (kd0 (kd0 t)))).1,true,(tE (wv 0 t.r (kd0 (kd0 t)))).2) else (oe,false,0)
theorem Fm.r13 {t:Tm} (h:Fm t) (hk:t.k=13):RF t.r:=by
 have ho:=h.own
 obtain ⟨kd,n,nm,r,q,sys⟩:=t
 have hk:kd=13:=hk
 subst hk
 have ho:(_&&(xV r&&_))=true:=ho
 simp only [pX] at ho
 exact (L8 (h.ok.no.2.2.2.1)).1 ho.2.1
theorem aHX (hk:F3 k) {t:Tm} (ft:Fm t) (x:t.k=13) (I:Tm×Bool×Int->OS S):cA k t 0 I=I (Bi t):=by
 have hl:=E5 ft x (n:=3) rfl
 obtain ⟨g0,m0⟩:=xD hl (i:=0) (by omega)
 obtain ⟨g1,_⟩:=xD hl (i:=1) (by omega)
 obtain ⟨g2,_⟩:=xD hl (i:=2) (by omega)
 simp only [cA,ag hk.fu,ar,azS]
 unfold Bi
 rcases aAY t.r with h|h|h
 ·rw [h,show decide ((-1:Int)>=0)=false from rfl,n3,if_neg (by decide),if_neg (by decide)]
  simp only [Int.natCast_zero] at g0
  rw [g0,p9]
  by_cases q:(kd0 t).k=12
  ·rw [q,show ((12:Int)==12)=true from rfl,ae,if_pos rfl,p9]
   have f0:=ft.bV m0
   have z:=E5 f0 q (n:=1) rfl
   obtain ⟨g,m⟩:=xD z (i:=0) (by omega)
   simp only [Int.natCast_zero] at g
   rw [g,p9,SN hk (fun _=>(f0.bV m).isIn hk) (ft.r13 x)]
   rfl
  ·rw [beq_false_of_ne q,n3,if_neg q];rfl
 ·rw [h,show decide ((0:Int)>=0)=true from rfl,ae,if_pos rfl]
  have:oa .i64 (1+0)=((1:Nat):Int):=rfl
  grind
 ·rw [h,show decide ((1:Int)>=0)=true from rfl,ae,if_neg (by decide),if_pos rfl]
  have:oa .i64 (1+1)=((2:Nat):Int):=rfl
  grind
def SC (t:Tm):Tm×Bool:=
 if Mx t.r= -1 then (oe,false) else if t.k=21 then (dS 20 [],true) else if Mx t.r=0 then (dS 24 [],true) else (dS 25 [],true)
theorem aC7 (hk:F3 k) (t:Tm) (I:Tm×Bool->OS S):bA k t I=I (SC t):=by
 simp only [bA,ag hk.fu,azS,zc]
 unfold SC
 rcases aAY t.r with h|h|h
 ·rw [h,show decide ((-1:Int)<0)=true from rfl,ae,if_pos rfl];rfl
 ·rw [h,show decide ((0:Int)<0)=false from rfl,n3,if_neg (by decide)]
  by_cases q:t.k=21
  ·rw [q,show ((21:Int)==21)=true from rfl,ae,if_pos rfl];rfl
  ·rw [beq_false_of_ne q,n3,if_neg q,show ((0:Int)==0)=true from rfl,ae,if_pos rfl];rfl
 ·rw [h,show decide ((1:Int)<0)=false from rfl,n3,if_neg (by decide)]
  by_cases q:t.k=21
  ·rw [q,show ((21:Int)==21)=true from rfl,ae,if_pos rfl];rfl
  ·rw [beq_false_of_ne q,n3,if_neg q,show ((1:Int)==0)=false from rfl,n3,if_neg (by decide)];rfl
def l5 (t:Tm):Tm×Bool:=
 if (sR t).k=20 then (gx t,true) else if (sR t).k=21 then (fG (sR t).r (w6 t) (gx t) (gx t),true) else (oe,false)
theorem aHW (hk:F3 k) {t:Tm} (ft:Fm t) (q:t.k=22) (I:Tm×Bool->OS S):bz k t I=I (l5 t):=by
 have hl:=E5 ft q (n:=4) rfl
 obtain ⟨g1,_⟩:=xD hl (i:=1) (by omega)
 obtain ⟨g2,_⟩:=xD hl (i:=2) (by omega)
 obtain ⟨g3,_⟩:=xD hl (i:=3) (by omega)
 have g1:af t.c 1=some (gx t):=g1
 have g2:af t.c 2=some (w6 t):=g2
 have g3:af t.c 3=some (sR t):=g3
 simp only [bz,ag hk.fu,ar,g1,g2,g3,p9,tO]
 unfold l5
 by_cases h:(sR t).k=20
 ·grind [ae]
 rw [beq_false_of_ne h,n3,if_neg h]
 by_cases h:(sR t).k=21
 ·grind [ae]
 rw [beq_false_of_ne h,n3,if_neg h];rfl
def ib (t:Tm):Tm×Bool:=
 if (rj t).k=24 then (gx t,true) else if (rj t).k=25 then (w6 t,true) else
 if (rj t).k=26 then (fG (rj t).r (dS 6 [sR t,kd0 (rj t)]) (gx t) (w6 t),true) else (oe,false)
theorem aHZ (hk:F3 k) {t:Tm} (ft:Fm t) (q:t.k=27) (I:Tm×Bool->OS S):b2 k t I=I (ib t):=by
 have hl:=E5 ft q (n:=5) rfl
 obtain ⟨g1,_⟩:=xD hl (i:=1) (by omega)
 obtain ⟨g2,_⟩:=xD hl (i:=2) (by omega)
 obtain ⟨g3,_⟩:=xD hl (i:=3) (by omega)
 obtain ⟨g4,m4⟩:=xD hl (i:=4) (by omega)
 have g1:af t.c 1=some (gx t):=g1
 have g2:af t.c 2=some (w6 t):=g2
 have g3:af t.c 3=some (sR t):=g3
 have g4:af t.c 4=some (rj t):=g4
 simp only [b2,ag hk.fu,ar,g1,g2,g3,g4,p9,tO,zc]
 unfold ib
 by_cases h:(rj t).k=24
 ·grind [ae]
 rw [beq_false_of_ne h,n3,if_neg h]
 by_cases h:(rj t).k=25
 ·grind [ae]
 rw [beq_false_of_ne h,n3,if_neg h]
 by_cases h:(rj t).k=26
 ·have x:=E5 (ft.bV m4) h (n:=1) rfl
  obtain ⟨g,_⟩:=xD x (i:=0) (by omega)
  have g:af (rj t).c 0=some (kd0 (rj t)):=g
  rw [h,show ((26:Int)==26)=true from rfl,ae,if_pos rfl,g,p9];rfl
 rw [beq_false_of_ne h,n3,if_neg h];rfl
def MP (t:Tm):Tm×Bool×Int:=
 if t.k=6 then (if (kd0 t).k=5 then ((tE (ri 0 (kd0 (kd0 t)) (gx t))).1,true,(tE (ri 0 (kd0 (kd0 t)) (gx t))).2) else Hv t) else
 if t.k=9 then (if (kd0 t).k=8 then (kd0 (kd0 t),true,0) else Hv t) else
 if t.k=10 then (if (kd0 t).k=8 then (gx (kd0 t),true,0) else Hv t) else
 if t.k=13 then Bi t else
 if t.k=21 then ((SC t).1,(SC t).2,0) else
 if t.k=26 then ((SC t).1,(SC t).2,0) else
 if t.k=22 then ((l5 t).1,(l5 t).2,0) else
 if t.k=27 then ((ib t).1,(ib t).2,0) else
 if t.k=28 then (kd0 t,true,0) else
 if t.k=14 then (gx t,Mx t.r==1,0) else
 if t.k=18 then (if (Hv t).2.1=true then ((Hv t).1,true,(Hv t).2.2) else if (kd0 t).k=17 then (kd0 (kd0 t),true,(Hv t).2.2) else Hv t) else Hv t
theorem aEW {t:Tm} (h:t.k=18):(Hv t).2.2=0:=by
 grind [Hv]
theorem aHY (F:F4 k) {t:Tm} (ft:Fm t) (I:Tm×Bool×Int->OS S):cD k t 0 I=I (MP t):=by
 have hk:=F.f3
 have ad: ∀g:Tm×Bool×Int->OS S,aJ k t 0 g=g (Hv t):=fun g=>aH0 hk ft g
 simp only [cD,ag hk.fu,ar,ad]
 unfold MP
 by_cases J:t.k=6
 ·have hl:=E5 ft J (n:=2) rfl
  obtain ⟨g0,m0⟩:=xD hl (i:=0) (by omega)
  obtain ⟨g1,m1⟩:=xD hl (i:=1) (by omega)
  have g0:af t.c 0=some (kd0 t):=g0
  have g1:af t.c 1=some (gx t):=g1
  rw [if_pos J,J,show ((6:Int)==6)=true from rfl,ae,g0,p9]
  by_cases h5:(kd0 t).k=5
  ·have q:=E5 (ft.bV m0) h5 (n:=1) rfl
   obtain ⟨g,m⟩:=xD q (i:=0) (by omega)
   have g:af (kd0 t).c 0=some (kd0 (kd0 t)):=g
   rw [if_pos h5,h5,show ((5:Int)==5)=true from rfl,ae,p9,g,p9,g1,p9,Hf F (fun _=>⟨((ft.bV m0).bV m).isIn hk,(ft.bV m1).isIn hk⟩)]
   rfl
  grind [n3]
 rw [if_neg J,beq_false_of_ne J,n3]
 by_cases L:t.k=9
 ·have hl:=E5 ft L (n:=1) rfl
  obtain ⟨g0,m0⟩:=xD hl (i:=0) (by omega)
  have g0:af t.c 0=some (kd0 t):=g0
  rw [if_pos L,L,show ((9:Int)==9)=true from rfl,ae,g0,p9]
  by_cases A:(kd0 t).k=8
  ·have q:=E5 (ft.bV m0) A (n:=2) rfl
   obtain ⟨g,_⟩:=xD q (i:=0) (by omega)
   have g:af (kd0 t).c 0=some (kd0 (kd0 t)):=g
   rw [if_pos A,A,show ((8:Int)==8)=true from rfl,ae,p9,show oa .i64 ((9:Int)-9)=0 from rfl,g,p9]
  grind [n3]
 rw [if_neg L,beq_false_of_ne L,n3]
 by_cases x:t.k=10
 ·have hl:=E5 ft x (n:=1) rfl
  obtain ⟨g0,m0⟩:=xD hl (i:=0) (by omega)
  have g0:af t.c 0=some (kd0 t):=g0
  rw [if_pos x,x,show ((10:Int)==10)=true from rfl,ae,g0,p9]
  by_cases A:(kd0 t).k=8
  ·have q:=E5 (ft.bV m0) A (n:=2) rfl
   obtain ⟨g,_⟩:=xD q (i:=1) (by omega)
   have g:af (kd0 t).c 1=some (gx (kd0 t)):=g
   rw [if_pos A,A,show ((8:Int)==8)=true from rfl,ae,p9,show oa .i64 ((10:Int)-9)=1 from rfl,g,p9]
  grind [n3]
 rw [if_neg x,beq_false_of_ne x,n3]
 by_cases M:t.k=13
 ·grind [ae,aHX]
 rw [if_neg M,beq_false_of_ne M,n3]
 by_cases O:t.k=21
 ·grind [ae,aC7]
 rw [if_neg O,beq_false_of_ne O,n3]
 by_cases T:t.k=26
 ·grind [ae,aC7]
 rw [if_neg T,beq_false_of_ne T,n3]
 by_cases W:t.k=22
 ·grind [ae,aHW]
 rw [if_neg W,beq_false_of_ne W,n3]
 by_cases Y:t.k=27
 ·grind [ae,aHZ]
 rw [if_neg Y,beq_false_of_ne Y,n3]
 by_cases B:t.k=28
 ·have hl:=E5 ft B (n:=2) rfl
  grind [af,ae]
 rw [if_neg B,beq_false_of_ne B,n3]
 by_cases E:t.k=14
 ·have hl:=E5 ft E (n:=2) rfl
  grind [af,ae,azS]
 rw [if_neg E,beq_false_of_ne E,n3]
 by_cases z:t.k=18
 ·have hl:=E5 ft z (n:=1) rfl
  obtain ⟨g0,m0⟩:=xD hl (i:=0) (by omega)
  have g0:af t.c 0=some (kd0 t):=g0
  rw [if_pos z,z,show ((18:Int)==18)=true from rfl,ae,aEW z]
  by_cases hb:(Hv t).2.1=true
  ·grind [ae]
  ·have ao:(Hv t).2.1=false:=by grind
   rw [if_neg hb,ao,n3,g0,p9]
   by_cases ax:(kd0 t).k=17
   ·have q:=E5 (ft.bV m0) ax (n:=1) rfl
    grind [af,ae]
   grind [n3]
 grind [n3]
def Ob (x:Tm):Prop:=pf x/\am x<=300
theorem Fm.ob {x:Tm} (h:Fm x):Ob x:=⟨h.ok,by have:=h.dep;omega⟩
theorem Q2.ob {x:Tm} (h:Q2 x):Ob x:=⟨h.1.ok,by have:=h.2;omega⟩
theorem RA:Ob oe:=KO.ob
theorem azs {t:Tm} (ft:Fm t) (i:Nat):FN (t.c.getD i oe):=by
 by_cases h:i<t.c.length
 ·exact .inl (ft.bV (xD (t:=t) rfl h).2)
 ·rw [List.getD_eq_getElem?_getD,List.getElem?_eq_none (by omega)];exact .inr rfl
theorem FN.ob {x:Tm} (h:FN x):Ob x:=h.elim Fm.ob fun e=>by rw [e];exact RA
theorem aGG {t:Tm} (ft:FN t) (i:Nat):FN (t.c.getD i oe):=by
 rcases ft with h|h
 ·exact azs h i
 ·rw [h];exact .inr (by rfl)
theorem az3 {x:Except Int Tm} (h: ∀t,x= .ok t->Q2 t):Ob (tE x).1:=by
 cases x with
 |error e=>exact RA
 |ok t=>exact (h t rfl).ob
theorem azo (n:Int) (h:0<=n/\n<=28):Ob (dS n []):=by
 unfold dS
 refine ⟨?_, ?_⟩
 ·rw [pf,aZ,ba];exact ⟨⟨by unfold aG;omega,by unfold aG;omega,by decide,(fun c hc=>by cases hc),by simp,by simp,by simp⟩,trivial,trivial⟩
 grind [am,aH,aO]
theorem aEX {t:Tm} (ft:Fm t):Ob (Hv t).1:=by
 unfold Hv
 split
 ·exact RA
 rename_i b hb
 have q:=aDq hb
 have fb:FN (AK b):=by
  unfold AK
  cases hk:b.c with
  |nil=>exact .inr rfl
  |cons x r=>exact .inl (ft.brk q (by grind))
 split
 ·exact az3 fun t h=>Sn fb.sm.1.ok h
 split
 ·have z:=Mj (kd:=9) (by omega) fb.sm (by omega)
  have A:=(azs ft 0).sm
  have:=Ih (kd:=6) (by omega) (d:=201) z ⟨A.1,by omega⟩ (by omega)
  exact ⟨this.1.ok,bu this.2 (by omega)⟩
 split
 ·exact fb.ob
 ·exact RA
theorem aCC {r:LC} (B:aq r/\r.length<1073741824) {x y z:Tm} {n:Nat} (E:Sm n x/\am x<=201) (q:FN y) (A:FN z):Ob (fG r x y z):=by
 have:=azY B (d:=201) E ⟨q.sm.1,by have:=q.sm.2;omega⟩ ⟨A.sm.1,by have:=A.sm.2;omega⟩ (by omega)
 exact ⟨this.1.ok,by omega⟩
theorem aA9 {x:Tm} (h:FN x):aq x.r/\x.r.length<1073741824:=⟨h.sm.1.ok.no.2.2.2.1,h.sm.1.ok.no.2.2.2.2.1⟩
theorem HE {c:Prop} [Decidable c] {a b:Tm×Bool×Int} (ha:Ob a.1) (hb:Ob b.1):Ob (if c then a else b).1:=by
 grind
theorem RD {c:Prop} [Decidable c] {a b:Tm×Bool} (ha:Ob a.1) (hb:Ob b.1):Ob (if c then a else b).1:=by
 grind
theorem aAJ {t:Tm} (ft:Fm t):Ob (MP t).1:=by
 have q:=aEX ft
 have c:=azs ft
 have cc:=fun i j=>aGG (c i) j
 have z:Ob (Bi t).1:=HE (c 1).ob (HE (c 2).ob (HE (az3 fun y h=>Sn (cc 0 0).sm.1.ok h) RA))
 have x:Ob (SC t).1:=RD RA (RD (azo 20 (by omega)) (RD (azo 24 (by omega)) (azo 25 (by omega))))
 have A:Ob (l5 t).1:=RD (c 1).ob (RD (aCC (aA9 (c 3)) ⟨(c 2).sm.1,bu (c 2).sm.2 (by omega)⟩ (c 1) (c 1)) RA)
 have B:Ob (ib t).1:=RD (c 1).ob (RD (c 2).ob (RD (aCC (aA9 (c 4)) (Ih (kd:=6) (by omega) (c 3).sm (cc 4 0).sm (by omega)) (c 1) (c 2)) RA))
 unfold MP
 exact HE (HE (az3 fun y h=>azK (cc 0 0).sm.1.ok (c 1).sm.1.ok h) q) (HE (HE (cc 0 0).ob q) (HE (HE (cc 0 1).ob q) (HE z (HE x (HE x (HE A (HE B (HE (c 0).ob (HE (c 1).ob (HE (HE q (HE (cc 0 0).ob q)) q))))))))))
def Q5 (t:Tm):Tm×Bool×Int:=
 if bw t≠0 then (oe,false,bw t) else
 if (MP t).2.1=true then Mb ((MP t).1,(MP t).2.2) else (oe,false,0)
theorem aH3 (x:F4 k) {t:Tm} (q:In k t) (I:Tm×Bool×Int->OS S):H9 k t I=I (Q5 t):=by
 have hk:=x.f3
 simp only [H9,ag hk.fu,ar,zy q.1 q.2.1 q.dep]
 unfold Q5
 by_cases z:bw t=0
 case neg=>rw [dj z,sQ,ae,if_pos z];rfl
 rw [z,show (!((0:Int)==0))=false from rfl,n3,if_neg (by simp),vU t q.1 _ q.2.1]
 have ft:Fm t:=⟨q.1,z⟩
 rw [aHY x ft]
 have ob:=aAJ ft
 by_cases hb:(MP t).2.1=true
 ·rw [if_pos hb,hb,uX,n3]
  exact azT hk ob.1 (by have:=ob.2;omega) _
 ·have A:(MP t).2.1=false:=by grind
  rw [if_neg hb,A,sQ,ae];rfl
theorem Nq (hk:F3 k) {c a b:Int} {t:Tm} (ha:0<=a/\a<1000) (hb:0<=b/\b<1000) (h:In k t) (I:Tm×Int->OS S):Bx k t a b c I=I (mM c (wA a b t)):=by
 by_cases hc:c=0
 ·subst hc
  simp only [Bx,ag hk.fu,de,ar,rI,if_true]
  rw [show ((0:Int)==0)=true from rfl,uX,n3,aiH hk h (vb:=a) (db:=b) (by omega) (by omega)]
  rfl
 grind [Hh,n9]
def RG (c:Int) (t a f y:Tm):Tm×Int:=
 (dS 7 [t,dS 11 [(mM c (wA 1 1 a)).1,(mM (mM c (wA 1 1 a)).2 (wA 1 0 y)).1,dS 6 [(mM (mM (mM c (wA 1 1 a)).2 (wA 1 0 y)).2 (wA 1 0 f)).1,vN 0]]],(mM (mM (mM c (wA 1 1 a)).2 (wA 1 0 y)).2 (wA 1 0 f)).2)
theorem aIb (hk:F3 k) {c:Int} {t a f y:Tm} (ha:In k a) (hf:In k f) (q:In k y) (I:Int×Int×BA×LT×Int->OS S):
  SI k t a f y c I=I (7,0,oW,(RG c t a f y).1.c,(RG c t a f y).2):=by
 simp only [SI,ag hk.fu,ar,Iw,wq]
 rw [Nq hk (by omega) (by omega) ha,Nq hk (by omega) (by omega) q,Nq hk (by omega) (by omega) hf]
 rfl
def RJ (c:Int) (t:Tm):Tm×Int:=(dS 7 [t,dS 4 [(mM c (wA 1 0 t)).1,dS 11 [(mM (mM c (wA 1 0 t)).2 (wA 2 1 t)).1,vN 1,vN 0]]],(mM (mM c (wA 1 0 t)).2 (wA 2 1 t)).2)
theorem aH5 (hk:F3 k) {c:Int} {t:Tm} (h:In k t) (I:Int×Int×BA×LT×Int->OS S):
  ia k t c I=I (7,0,oW,(RJ c t).1.c,(RJ c t).2):=by
 simp only [ia,ag hk.fu,ar,Iw,wq]
 rw [Nq hk (by omega) (by omega) h,Nq hk (by omega) (by omega) h]
 rfl
def SE (c:Int) (t a:Tm):Tm×Int:=
 let q:=mM c (wA 1 0 a)
 let x:=mM q.2 (wA 1 0 a)
 let z:=mM x.2 (wA 2 0 t)
 let A:=mM z.2 (wA 2 0 a)
 let B:=RG A.2 z.1 A.1 (vN 1) (vN 0)
 let E:=RJ B.2 B.1
 (dS 7 [dS 4 [t,q.1],dS 4 [x.1,E.1]],E.2)
def Nh (t a:Tm):Except Int Tm:=FC (oy (SE (xv [t,a]) t a))
theorem aDl {kd:Int} (q:0<=kd/\kd<=28) {n m j d:Nat} {x y z:Tm} (A:Sm n x/\am x<=d) (B:Sm m y/\am y<=d) (E:Sm j z/\am z<=d) (hd:d<=290):Sm (n+m+j+1) (dS kd [x,y,z])/\am (dS kd [x,y,z])<=d+1:=by
 unfold dS
 refine ⟨(Hn (kd:=kd) q (r:=[]) ⟨(fun c hc=>by cases hc),by simp⟩ (ks:=[x,y,z]) (sys:=[]) (n:=n+m+j) (m:=0) (fun w F=>by
  simp at F
  rcases F with rfl|rfl|rfl
  ·exact ⟨A.1.ok,by omega⟩
  ·exact ⟨B.1.ok,by omega⟩
  ·exact ⟨E.1.ok,by omega⟩) (by simp) (by rw [ay,ay,ay,ay];have:=A.1.dP;have:=B.1.dP;have:=E.1.dP;omega) (by rw [ba];trivial) (by simp) (by rw [aO];omega) (by rw [aI];omega)).mono (by omega), ?_⟩
 grind [am,aH,aO]
theorem aA2 {c:Int} {t a f y:Tm} (z:Sm 20000 t/\am t<=200) (ha:pf a) (hf:pf f) (A:pf y):Sm 150000 (RG c t a f y).1/\am (RG c t a f y).1<=204:=by
 have fa:=Ft (c:=c) (a:=1) (b:=1) (by omega) (by omega) ha
 have fy:=Ft (c:=(mM c (wA 1 1 a)).2) (a:=1) (b:=0) (by omega) (by omega) A
 have ff:=Ft (c:=(mM (mM c (wA 1 1 a)).2 (wA 1 0 y)).2) (a:=1) (b:=0) (by omega) (by omega) hf
 have v0:=Mi (n:=0) (by omega)
 have B:=Ih (kd:=6) (by omega) (d:=200) ff.sm v0 (by omega)
 have q:=aDl (kd:=11) (by omega) (d:=201) ⟨fa.sm.1,by have:=fa.sm.2;omega⟩ ⟨fy.sm.1,by have:=fy.sm.2;omega⟩ B (by omega)
 have x:=Ih (kd:=7) (by omega) (d:=202) ⟨z.1,by omega⟩ q (by omega)
 exact ⟨x.1.mono (by omega),bu x.2 (by omega)⟩
theorem aE9 {c:Int} {t:Tm} {n d:Nat} (q:Sm n t/\am t<=d) (hd:200<=d/\d<=280):Sm (n+100000) (RJ c t).1/\am (RJ c t).1<=d+3:=by
 have f1:=Ft (c:=c) (a:=1) (b:=0) (by omega) (by omega) q.1.ok
 have f2:=Ft (c:=(mM c (wA 1 0 t)).2) (a:=2) (b:=1) (by omega) (by omega) q.1.ok
 have v0:=Mi (n:=0) (by omega)
 have v1:=Mi (n:=1) (by omega)
 have x:=aDl (kd:=11) (by omega) (d:=200) f2.sm v1 v0 (by omega)
 have A:=Ih (kd:=4) (by omega) (d:=201) ⟨f1.sm.1,by have:=f1.sm.2;omega⟩ x (by omega)
 have z:=Ih (kd:=7) (by omega) (d:=d+2) ⟨q.1,by omega⟩ ⟨A.1,by omega⟩ (by omega)
 exact ⟨z.1.mono (by omega),bu z.2 (by omega)⟩
theorem aA0 {c:Int} {t a:Tm} {n d:Nat} (z:Sm n t/\am t<=d) (hd:200<=d/\d<=270) (ha:pf a):Sm (n+400000) (SE c t a).1/\am (SE c t a).1<=d+10:=by
 have f1:=Ft (c:=c) (a:=1) (b:=0) (by omega) (by omega) ha
 have f2:=Ft (c:=(mM c (wA 1 0 a)).2) (a:=1) (b:=0) (by omega) (by omega) ha
 have f3:=Ft (c:=(mM (mM c (wA 1 0 a)).2 (wA 1 0 a)).2) (a:=2) (b:=0) (by omega) (by omega) z.1.ok
 have f4:=Ft (c:=(mM (mM (mM c (wA 1 0 a)).2 (wA 1 0 a)).2 (wA 2 0 t)).2) (a:=2) (b:=0) (by omega) (by omega) ha
 unfold SE
 dsimp only
 generalize mM (mM (mM (mM c (wA 1 0 a)).2 (wA 1 0 a)).2 (wA 2 0 t)).2 (wA 2 0 a)=q at f4 ⊢
 generalize mM (mM (mM c (wA 1 0 a)).2 (wA 1 0 a)).2 (wA 2 0 t)=A at f3 ⊢
 have B:=aA2 (c:=q.2) (t:=A.1) (a:=q.1) (f:=vN 1) (y:=vN 0) f3.sm f4.sm.1.ok (Mi (by omega)).1.ok (Mi (by omega)).1.ok
 generalize RG q.2 A.1 q.1 (vN 1) (vN 0)=x at B ⊢
 have E:=aE9 (c:=x.2) B (by omega)
 generalize RJ x.2 x.1=I at E ⊢
 have a1:=Ih (kd:=4) (by omega) (d:=d+7) ⟨z.1,by omega⟩ ⟨f1.sm.1,by have:=f1.sm.2;omega⟩ (by omega)
 have a2:=Ih (kd:=4) (by omega) (d:=d+7) ⟨f2.sm.1,by have:=f2.sm.2;omega⟩ ⟨E.1,by omega⟩ (by omega)
 have F:=Ih (kd:=7) (by omega) (d:=d+8) a1 a2 (by omega)
 exact ⟨F.1.mono (by omega),by omega⟩
theorem aHS (hk:F3 k) {t a:Tm} (z:Q2 t) (ha:Q2 a) (I:Tm×Int->OS S):hD k t a I=I (tE (Nh t a)):=by
 have it:=z.isIn hk
 have A:=ha.isIn hk
 have B: ∀x∈[t,a],In k x:=fun x O=>by
  grind
 have E:Tm.mk 1 0 oW [] [] []=vN 0:=rfl
 have F:Tm.mk 1 1 oW [] [] []=vN 1:=rfl
 have i0:=(Mi (n:=0) (by omega)).isIn hk
 have i1:=(Mi (n:=1) (by omega)).isIn hk
 simp only [hD,ag hk.fu,ar,Re hk B (by simp),vU t it.1 _ it.2.1,wq,Iw]
 unfold Nh
 have q:=aA0 (c:=xv [t,a]) (t:=t) (a:=a) (n:=20000) (d:=200) z (by omega) ha.1.ok
 generalize xv [t,a]=c at q ⊢
 have f3:=Ft (c:=(mM (mM c (wA 1 0 a)).2 (wA 1 0 a)).2) (a:=2) (b:=0) (by omega) (by omega) z.1.ok
 have f4:=Ft (c:=(mM (mM (mM c (wA 1 0 a)).2 (wA 1 0 a)).2 (wA 2 0 t)).2) (a:=2) (b:=0) (by omega) (by omega) ha.1.ok
 have J:=aA2 (c:=(mM (mM (mM (mM c (wA 1 0 a)).2 (wA 1 0 a)).2 (wA 2 0 t)).2 (wA 2 0 a)).2) (t:=(mM (mM (mM c (wA 1 0 a)).2 (wA 1 0 a)).2 (wA 2 0 t)).1) (a:=(mM (mM (mM (mM c (wA 1 0 a)).2 (wA 1 0 a)).2 (wA 2 0 t)).2 (wA 2 0 a)).1) (f:=vN 1) (y:=vN 0) f3.sm f4.sm.1.ok (Mi (by omega)).1.ok (Mi (by omega)).1.ok
 rw [Nq hk (by omega) (by omega) A,Nq hk (by omega) (by omega) A,Nq hk (by omega) (by omega) it,Nq hk (by omega) (by omega) A,E,F,aIb hk (f4.sm.1.isIn hk (by omega)) i1 i0]
 have L: ∀c t a f y,Tm.mk 7 0 oW [] (RG c t a f y).1.c []=(RG c t a f y).1:=fun _ _ _ _ _=>rfl
 have M: ∀c t,Tm.mk 7 0 oW [] (RJ c t).1.c []=(RJ c t).1:=fun _ _=>rfl
 dsimp only
 rw [L,aH5 hk (J.1.isIn hk (by omega))]
 dsimp only
 rw [M]
 exact Rk (t:=(SE c t a).1) (c:=(SE c t a).2) hk (fun _=>q.1.isIn hk (by omega)) I
theorem aFN {t a:Tm} {e:Int} (h:Nh t a= .error e):e≠0:=by
 grind [Nh,FC,oy,aD,lk]
theorem aIv (hk:F3 k) {t a:Tm} {c:Int} (q:Q2 t) (ha:Q2 a) (I:Tm×Int->OS S):h4 k t a c I=I (mM c (Nh t a)):=by
 simp only [h4,ag hk.fu,dG,ar,rJ]
 exact Az c (fun h g=>aHS hk q ha g) (fun e h=>aFN h) I
theorem aFM {t a y:Tm} (z:Q2 t) (ha:pf a) (h:Nh t a= .ok y):Fm y:=by
 have q:=aA0 (c:=xv [t,a]) (t:=t) (a:=a) (n:=20000) (d:=200) z (by omega) ha
 unfold Nh FC oy at h
 by_cases x:(SE (xv [t,a]) t a).2=0
 ·rw [if_pos x,aD] at h
  split at h
  ·rename_i hf
   injection h with h;subst h
   exact ⟨q.1.ok,hf⟩
  ·cases h
 ·rw [if_neg x,lk] at h;cases h
def L7 (a:Tm) (c:Int) (x:Br Tm):Br Tm×Int:=
 let E:=mM c (wv 0 [⟨0,0⟩] (AK x))
 let A:=mM E.2 (wA 0 1 a)
 let Q:=mM A.2 (Nh (AK x) A.1)
 (⟨x.f,[E.1,dS 14 [Q.1,idT]]⟩,Q.2)
section
variable {x1 x2:Int} {x3:BA} {x4:LC} {x5:LT} {x6 sys:LB}
theorem aIo (hk:F3 k) (fa:Fm (Tm.mk x1 x2 x3 x4 x5 x6)) (sy: ∀b∈sys,b.c=[AK b]/\Fm (AK b)/\RX true b.f) (B:sys.length<=20000) (I:Int×Int×BA×LT×LB×Int->OS S):
  sX k 0 x1 x2 x3 x4 x5 x6 sys I=(fun l:LB×Int=>I (16,0,oW,[Tm.mk x1 x2 x3 x4 x5 x6],l.1,l.2)) (wm (L7 (Tm.mk x1 x2 x3 x4 x5 x6)) 0 sys):=by
 have E:4294968296<=k:=hk
 obtain ⟨q,J⟩: ∃q,k=q+100:=⟨k-100,by omega⟩
 have z: ∀g:Int×Int×BA×LT->OS S,bh k g=g (8,0,oW,w5):=fun g=>by rw [J];exact aF9 q g
 generalize ha:Tm.mk x1 x2 x3 x4 x5 x6=a at fa
 simp only [sX,ag hk.fu,k',aAg,ha,JM]
 have:=fun RET=>bn (S:=S) (l:=sys) (L:=fun m c i acc=>vx k RET x1 x2 x3 x4 x5 x6 sys m c i acc) (F:=L7 a) (I:=RET)
  (fun m c acc _=>by
   have:=xu (l:=sys) (p:=sys) (by simp)
   simp only [vx,b',this,n3])
  (fun m c x p r acc h A=>by
   obtain ⟨M,O,T,_⟩:=qF h (by omega)
   have hlen:p.length<sys.length:=by rw [h];simp
   obtain ⟨W,q2,_⟩:=sy x (by rw [h];simp)
   have Y:af x.c 0=some (AK x):=ED (n:=0) rfl (by rw [W];rfl)
   have fA:=Ft (c:=(mM c (wv 0 [⟨0,0⟩] (AK x))).2) (a:=0) (b:=1) (by omega) (by omega) fa.ok
   simp only [vx,b',M,ae,O,p9,Y,ag hk.fu,ar,azb,ha,wi,zc,T,z]
   rw [vZ hk (fun _=>q2.isIn hk),E8 hk (fun _=>fa.isIn hk) (by omega) (by omega),aIv hk q2.q2 fA.sm,J5 (by simp;omega)]
   rfl)
  sys [] [] k 0 rfl (by omega) rfl
 refine (this _).trans ?_
 rw [zg]
end
theorem aDr {a:Tm} (fa:Fm a) {x:Br Tm} (h:Fm (AK x)/\RX true x.f) (c:Int):D1 (L7 a c x).1:=by
 have A:Q2 (mM c (wv 0 [⟨0,0⟩] (AK x))).1:=LR fun t z=>Sn h.1.ok z
 have B:=Ft (c:=(mM c (wv 0 [⟨0,0⟩] (AK x))).2) (a:=0) (b:=1) (by omega) (by omega) fa.ok
 have E:FN (mM (mM (mM c (wv 0 [⟨0,0⟩] (AK x))).2 (wA 0 1 a)).2 (Nh (AK x) (mM (mM c (wv 0 [⟨0,0⟩] (AK x))).2 (wA 0 1 a)).1)).1:=Bw fun t z=>aFM h.1.q2 B.sm.1.ok z
 have q:=Ih (kd:=14) (by omega) (d:=200) E.sm ⟨Q3.sm,Q3.dep⟩ (by omega)
 have r:=G9 h.2
 exact ⟨_,_,rfl,A.1,q.1.mono (by omega),A.2,q.2,r.1,r.2⟩
def sf (t:Tm):Tm×Bool×Int:=
 if bw t≠0 then (oe,false,bw t) else
 if t.k=15/\(t.c.getD 0 oe).k=3 then Mb (.mk 16 0 oW [] [t.c.getD 1 oe] (wm (L7 (t.c.getD 1 oe)) 0 t.s).1,(wm (L7 (t.c.getD 1 oe)) 0 t.s).2)
 else Q7 t
theorem aIn (O:F4 k) {t:Tm} (J:In k t) (ao:(t.c.getD 0 oe).k≠3) (I:Tm×Bool×Int->OS S):cG k t I=I (Q7 t):=by
 have hk:=O.f3
 simp only [cG,ag hk.fu,ar,zy J.1 J.2.1 J.dep]
 unfold Q7
 by_cases W:bw t=0
 case neg=>rw [dj W,sQ,ae,if_pos W];rfl
 rw [W,show (!((0:Int)==0))=false from rfl,n3,if_neg (by simp)]
 have ft:Fm t:=⟨J.1,W⟩
 by_cases z:t.k=15
 case neg=>rw [beq_false_of_ne z,sQ,ae,if_neg (fun h=>z h.1)];rfl
 rw [z,show (!((15:Int)==15))=false from rfl,n3,vU t J.1 _ J.2.1]
 obtain ⟨k0,a,T⟩:=I8 (E5 ft z (n:=2) rfl)
 obtain ⟨g0,g1⟩:=KQ T
 obtain ⟨d0,d1⟩:=EC T
 have B:Fm k0:=ft.bV (by grind)
 have fa:Fm a:=ft.bV (by grind)
 obtain ⟨sy,E⟩:=ft.sy z
 have Y:Tm.mk a.k a.n a.name a.r a.c a.s=a:=by cases a;rfl
 have F:Fm (Tm.mk a.k a.n a.name a.r a.c a.s):=by grind
 simp only [g0,g1,p9]
 unfold ov
 rw [d0,d1]
 dsimp only
 by_cases L:k0.k=4
 ·obtain ⟨p,b,hb⟩:=I8 (E5 B L (n:=2) rfl)
  obtain ⟨w1,i1,i2,i3,i4,i5⟩:=aC_ hk hb (B.bV (by grind)) F sy E (fun q=>ly k (Tm.mk q.1 q.2.1 q.2.2.1 [] q.2.2.2.1 []) q.2.2.2.2 fun A=>I (A.1,A.2.1,A.2.2.1))
  rw [if_pos ⟨trivial,.inl L⟩,if_pos L,L,show ((4:Int)==4)=true from rfl,ae]
  refine i2.trans ?_
  refine (Ry hk i3 _).trans ?_
  rw [(EC hb).2]
  rw [Y] at i4 i5
  exact aAu i4 i5 I
 rw [if_neg L,beq_false_of_ne L,n3]
 by_cases M:k0.k=7
 ·obtain ⟨p,b,hb⟩:=I8 (E5 B M (n:=2) rfl)
  obtain ⟨w1,i1,i2,i3,i4,i5⟩:=aDa O hb (B.bV (by grind)) (B.bV (by grind)) F sy E (fun q=>ly k (Tm.mk q.1 q.2.1 q.2.2.1 [] q.2.2.2.1 []) q.2.2.2.2 fun A=>I (A.1,A.2.1,A.2.2.1))
  rw [if_pos ⟨trivial,.inr (.inl M)⟩,if_pos M,M,show ((7:Int)==7)=true from rfl,ae]
  refine i2.trans ?_
  refine (Ry hk i3 _).trans ?_
  rw [(EC hb).1,(EC hb).2]
  rw [Y] at i4 i5
  exact aAu i4 i5 I
 rw [if_neg M,beq_false_of_ne M,n3]
 by_cases x:k0.k=11
 ·obtain ⟨p,l,r,hb⟩: ∃p l r,k0.c=[p,l,r]:=by
   have:=E5 B x (n:=3) rfl
   match h:k0.c,this with
   |[p,l,r],_=>simp
  obtain ⟨w1,i1,i2,i3,i4,i5⟩:=aC9 hk hb (B.bV (by grind)) (B.bV (by grind)) (B.bV (by grind)) F sy E (fun q=>ly k (Tm.mk q.1 q.2.1 q.2.2.1 [] q.2.2.2.1 []) q.2.2.2.2 fun A=>I (A.1,A.2.1,A.2.2.1))
  rw [if_pos ⟨trivial,.inr (.inr (.inl x))⟩,if_pos x,x,show ((11:Int)==11)=true from rfl,ae]
  refine i2.trans ?_
  refine (Ry hk i3 _).trans ?_
  rw [hb]
  rw [Y] at i4 i5
  exact aAu i4 i5 I
 rw [if_neg x,beq_false_of_ne x,n3]
 by_cases h3:k0.k=3
 ·grind
 rw [if_neg h3,beq_false_of_ne h3,n3]
 by_cases ad:k0.k=16
 ·grind [ae,aIf,ox]
 ·rw [beq_false_of_ne ad,n3,if_neg (fun h=>by omega)];rfl
theorem aIm (J:F4 k) {t:Tm} (z:In k t) (I:Tm×Bool×Int->OS S):cG k t I=I (sf t):=by
 have hk:=J.f3
 by_cases hc:bw t=0/\t.k=15/\(t.c.getD 0 oe).k=3
 case neg=>
  have e:sf t=Q7 t:=by
   grind [sf,Q7]
  rw [e]
  by_cases E:(t.c.getD 0 oe).k=3
  case neg=>grind [aIn]
  simp only [cG,ag hk.fu,ar,zy z.1 z.2.1 z.dep]
  unfold Q7
  by_cases A:bw t=0
  case neg=>rw [dj A,sQ,ae,if_pos A];rfl
  rw [A,show (!((0:Int)==0))=false from rfl,n3,if_neg (by simp)]
  have q:t.k≠15:=fun h=>hc ⟨A,h,E⟩
  rw [beq_false_of_ne q,sQ,ae,if_neg (fun h=>q h.1)];rfl
 obtain ⟨A,q,E⟩:=hc
 have ft:Fm t:=⟨z.1,A⟩
 have e:sf t=Mb (.mk 16 0 oW [] [t.c.getD 1 oe] (wm (L7 (t.c.getD 1 oe)) 0 t.s).1,(wm (L7 (t.c.getD 1 oe)) 0 t.s).2):=by
  grind [sf]
 rw [e]
 obtain ⟨k0,a,B⟩:=I8 (E5 ft q (n:=2) rfl)
 obtain ⟨g0,g1⟩:=KQ B
 obtain ⟨d0,d1⟩:=EC B
 rw [d0] at E
 rw [d1]
 have fa:Fm a:=ft.bV (by grind)
 obtain ⟨sy,L⟩:=ft.sy q
 simp only [cG,ag hk.fu,ar,zy z.1 z.2.1 z.dep,A,q,vU t z.1 _ z.2.1,g0,g1,p9,E]
 rw [show (!((0:Int)==0))=false from rfl,n3,show (!((15:Int)==15))=false from rfl,n3,show ((3:Int)==4)=false from rfl,n3,show ((3:Int)==7)=false from rfl,n3,show ((3:Int)==11)=false from rfl,n3,show ((3:Int)==3)=true from rfl,ae]
 obtain ⟨x1,x2,x3,x4,x5,x6⟩:=a
 simp only [pj x1 x2 x3 x4 x5 x6]
 rw [aIo hk fa sy L]
 dsimp only
 have O:=SF (F:=L7 (Tm.mk x1 x2 x3 x4 x5 x6)) (Q:=D1) (l:=t.s) (c:=0) fun x M c=>aDr fa ⟨(sy x M).2.1,(sy x M).2.2⟩ c
 have hl:(wm (L7 (Tm.mk x1 x2 x3 x4 x5 x6)) 0 t.s).1.length=t.s.length:=Ni
 obtain ⟨T,W,Y⟩:=aAN O
 refine azT hk ?_ ?_ _
 ·rw [pf,aZ,aZ]
  exact ⟨⟨by unfold aG;omega,by unfold aG;omega,by decide,(fun c hc=>by cases hc),by simp,by simp,by omega⟩,⟨fa.ok,trivial⟩,T⟩
 ·rw [am,aH,aH];have:=fa.dep;omega
def Is (defs:List Df) (t:Tm):Tm×Bool:=
 if t.k=2 then (match defs.find? fun d=>decide (d.name=t.name) with
  |none=>(oe,false)
  |some d=>(d.body,MZ d.body 0 0==0)) else (oe,false)
def Ix (k:Nat) (defs:List Df):Prop:=defs.length<1073741824/\ ∀d∈defs,In k d.body
theorem aGZ (hk:F3 k) (I:Tm×Bool->OS S) {t:Tm} {defs:List Df} (hd:Ix k defs):
  ∀ (r p:List Df) (m:Nat),defs=p++r->r.length<m->bM k I t defs m (p.length:Int)=I (match r.find? fun d=>decide (d.name=t.name) with
   |none=>(oe,false)
   |some d=>(d.body,MZ d.body 0 0==0)):=by
 intro r
 induction r with
 |nil=>
  intro p m h q
  obtain ⟨m,rfl,z⟩:=pw q
  simp only [bM,cr,xu h,n3,List.find?_nil]
  rfl
 |cons x r L=>
  intro p m h q
  obtain ⟨m,rfl,z⟩:=pw q
  have hl:=hd.1
  obtain ⟨B,E,F,M⟩:=qF h (by omega)
  have A:=hd.2 x (by grind)
  simp only [bM,cr,B,ae,E,p9,ag hk.fu,ar,Jq,F]
  by_cases J:x.name=t.name
  ·rw [decide_eq_true J,ae,vU x.body A.1 _ A.2.1,nK A hk (by omega) (by omega),List.find?_cons_of_pos (by grind)]
  grind [n3]
theorem aII (hk:F3 k) {t:Tm} {defs:List Df} (hd:Ix k defs) (I:Tm×Bool->OS S):cR k defs t I=I (Is defs t):=by
 have q:4294968296<=k:=hk
 simp only [cR,aAq]
 unfold Is
 by_cases h:t.k=2
 ·rw [h,show (!((2:Int)==2))=false from rfl,n3,if_pos rfl]
  exact aGZ hk I hd defs [] k rfl (by have:=hd.1;omega)
 ·rw [beq_false_of_ne h,sQ,ae,if_neg h];rfl
def aux (r:Tm×Bool×Int) (s:Tm×Bool×Int):Tm×Bool×Int:=if r.2.1=true\/r.2.2≠0 then r else s
def nf (defs:List Df) (t:Tm):Tm×Bool×Int:=
 if bw t≠0 then (oe,false,bw t) else
 aux (Q5 t) (aux (pP t) (aux (u9 t) (aux (sf t) (if (Is defs t).2=true then ((Is defs t).1,true,0) else (oe,false,0)))))
theorem pick (I:Tm×Bool×Int->OS S) (r s:Tm×Bool×Int) {J N:OS S} (h:r.2.1=false->r.2.2=0->N=I s):
  ab r.2.1 (ab r.2.1 (I (r.1,r.2.1,r.2.2)) (ab (!(r.2.2==0)) (I (r.1,r.2.1,r.2.2)) J)) (ab (!(r.2.2==0)) (ab r.2.1 (I (r.1,r.2.1,r.2.2)) (ab (!(r.2.2==0)) (I (r.1,r.2.1,r.2.2)) J)) N)=I (aux r s):=by
 obtain ⟨x,b,e⟩:=r
 unfold aux
 dsimp only
 cases b<;>grind [ae,n3]
theorem aIA (F:F4 k) {t:Tm} {defs:List Df} (hd:Ix k defs) (L:In k t) (I:Tm×Bool×Int->OS S):a_ k defs t I=I (nf defs t):=by
 have hk:=F.f3
 have O:4294968296<=k:=hk
 simp only [a_,aAp,ag hk.fu,ar,zy L.1 L.2.1 L.dep]
 unfold nf
 by_cases M:bw t=0
 case neg=>rw [dj M,sQ,ae,if_pos M];rfl
 rw [M,show (!((0:Int)==0))=false from rfl,n3,if_neg (by simp)]
 obtain ⟨m,T⟩: ∃m,k=m+5:=⟨k-5,by omega⟩
 have last: ∀q x z A B E,bH k I t defs (m+1) q x z A B E 0 4 false=I (if (Is defs t).2=true then ((Is defs t).1,true,0) else (oe,false,0)):=fun q x z A B E=>by
  simp only [bH,R6]
  rw [show decide ((4:Int)<4)=false from rfl,n3,n3,show (!((0:Int)==0))=false from rfl,n3]
  obtain ⟨j,hj⟩: ∃j,k=j+1:=⟨k-1,by omega⟩
  have:bK k I t defs k=co k I t defs:=by
   conv=>lhs;rw [hj]
   rw [hj];rfl
  rw [this]
  simp only [co,ag hk.fu,ar,aII hk hd]
  cases (Is defs t).2 with
  |true=>rfl
  |false=>rfl
 have rd: ∀ {n:Nat} {v:Int} (o s:Tm×Bool×Int),(∀q x z A B E,bH k I t defs n q x z A B E 0 (v+1) false=I s)->oa .i64 (v+1)=v+1-> ∀J,ab o.2.1 (ab o.2.1 (I (o.1,o.2.1,o.2.2)) (ab (!(o.2.2==0)) (I (o.1,o.2.1,o.2.2)) J)) (ab (!(o.2.2==0)) (ab o.2.1 (I (o.1,o.2.1,o.2.2)) (ab (!(o.2.2==0)) (I (o.1,o.2.1,o.2.2)) J)) (bH k I t defs n o.1.k o.1.n o.1.name o.1.r o.1.c o.1.s o.2.2 (oa .i64 (v+1)) o.2.1))=I (aux o s):=fun {n v} o s h hw J=>
  pick I o s fun h1 h2=>by grind
 have W: ∀q x z A B E,bH k I t defs (m+2) q x z A B E 0 3 false=I _:=fun q x z A B E=>by
  rw [bH]
  simp only [R6,ag hk.fu,ar,aIm F L]
  rw [show decide ((3:Int)<4)=true from rfl,ae,show ((3:Int)==0)=false from rfl,n3,show ((3:Int)==1)=false from rfl,n3,show ((3:Int)==2)=false from rfl,n3,show ((3:Int)==3)=true from rfl,ae]
  exact rd (v:=3) (sf t) _ last rfl _
 have Y: ∀q x z A B E,bH k I t defs (m+3) q x z A B E 0 2 false=I _:=fun q x z A B E=>by
  rw [bH]
  simp only [R6,ag hk.fu,ar,aIE F L]
  rw [show decide ((2:Int)<4)=true from rfl,ae,show ((2:Int)==0)=false from rfl,n3,show ((2:Int)==1)=false from rfl,n3,show ((2:Int)==2)=true from rfl,ae]
  exact rd (v:=2) (u9 t) _ W rfl _
 have r1: ∀q x z A B E,bH k I t defs (m+4) q x z A B E 0 1 false=I _:=fun q x z A B E=>by
  rw [bH]
  simp only [R6,ag hk.fu,ar,ajh F L]
  rw [show decide ((1:Int)<4)=true from rfl,ae,show ((1:Int)==0)=false from rfl,n3,show ((1:Int)==1)=true from rfl,ae]
  exact rd (v:=1) (pP t) _ Y rfl _
 have e: ∀q x z A B E,bH k I t defs k q x z A B E 0 0 false=bH k I t defs (m+5) q x z A B E 0 0 false:=fun q x z A B E=>congrArg (fun n=>bH k I t defs n q x z A B E 0 0 false) T
 rw [e,bH]
 simp only [R6,ag hk.fu,ar,aH3 F L]
 rw [show decide ((0:Int)<4)=true from rfl,ae,show ((0:Int)==0)=true from rfl,ae]
 exact rd (v:=0) (Q5 t) _ r1 rfl _
def MQ (defs:List Df) (t:Tm) (f:Int):pr (Int×Int) (Tm×Bool×Int):=
 if (nf defs t).2.2≠0/\0<f then .bD ((nf defs t).2.2,f)
 else if (nf defs t).2.1=false/\(nf defs t).2.2=0 then .ok (t,false,f)
 else if f=0 then .bD (220,f) else .ok ((nf defs t).1,true,f-1)
theorem aIB (q:F4 k) {t:Tm} {defs:List Df} (hd:Ix k defs) (z:In k t) {f:Int} (hf:0<=f/\f<=100000) (I:pr (Int×Int) (Tm×Bool×Int)->OS S):
  dy k t defs f I=I (MQ defs t f):=by
 have hk:=q.f3
 have A:4294968296<=k:=hk
 obtain ⟨j,hj⟩: ∃j,k=j+1:=⟨k-1,by omega⟩
 have h1: ∀r1,qn k I defs f r1 k=W1 k I defs f r1:=fun r1=>by
  conv=>lhs;rw [hj]
  rfl
 have B: ∀r1,azv k I defs f t r1 k=zl k I defs f t r1 (W1 k I defs f r1):=fun r1=>by
  rw [<-h1]
  conv=>lhs;rw [hj]
  rw [hj];rfl
 have E:oa .i64 (f-1)=f-1:=vc (by omega) (by omega)
 simp only [dy,aAi,ag hk.fu,ar,aIA q hd z,B,zl,W1,E]
 unfold MQ
 generalize nf defs t=r
 obtain ⟨x,b,e⟩:=r
 dsimp only
 by_cases he:e=0
 ·grind [n3,ae]
 ·rw [beq_false_of_ne he,sQ,ae]
  by_cases F:f=0
  ·subst F
   rw [show decide ((0:Int)>0)=false from rfl,n3,if_neg (fun h=>by omega),if_neg (fun h=>he h.2),if_pos rfl]
   cases b<;>grind [ae,n3]
  grind [ae]
def hZ (kd:Int):Int:=if kd=6\/kd=9\/kd=10\/kd=13\/kd=18\/kd=15\/kd=14 then 0 else if kd=22 then 3 else if kd=27 then 4 else-1
def Il (t:Tm):Int:=if (t.c.length:Int)<ct t.k then-1 else hZ t.k
theorem aIs (hk:F3 k) (t:Tm) (I:Int->OS S):aU k t I=I (Il t):=by
 have J:4294968296<=k:=hk
 obtain ⟨j,hj⟩: ∃j,k=j+1:=⟨k-1,by omega⟩
 have L: ∀v,aV k I t k v=I (if (t.c.length:Int)<ct t.k then-1 else v):=fun v=>by
  grind [aV,bo,aiR,ag,ae,n3]
 simp only [aU,ao,L]
 unfold Il hZ
 by_cases M:t.k=6
 ·rw [M];rfl
 by_cases O:t.k=9
 ·rw [O];rfl
 by_cases q:t.k=10
 ·rw [q];rfl
 by_cases x:t.k=13
 ·rw [x];rfl
 by_cases z:t.k=18
 ·rw [z];rfl
 by_cases A:t.k=15
 ·rw [A];rfl
 by_cases B:t.k=14
 ·rw [B];rfl
 by_cases E:t.k=22
 ·rw [E];rfl
 by_cases F:t.k=27
 ·rw [F];rfl
 grind [n3]

theorem ZT {n:Nat} {l:LB} (h:KK n l) {f:LC} (hf:aq f/\f.length<1073741824) {t:Tm} (q:Sm n t):KK n (⟨f,[t]⟩::l):=by
 refine ⟨?_, ?_, ?_⟩
 ·rw [ba,Fa,aZ,aZ];exact ⟨⟨⟨hf.1,hf.2,by simp⟩,q.ok,trivial⟩,h.ok⟩
 ·rw [aI,Fs,ay,ay,ue,Nat.succ_mul]
  have:=h.dP;have:=q.dP;omega
 ·rw [aO,Ey,aH,aH]
  have:=h.dep;have:=q.dep;omega
theorem acF {kd:Int} (x:kd=22\/kd=27) {b:Tm} {q:LT} (fb:Fm b) (fm: ∀y∈q,Fm y) (I:q.length<=3): ∀ {r l:LB},(∀b∈r,b.c=[AK b]/\Fm (AK b)/\RX true b.f)->M4 kd b q r= .ok l->KK 110000 l/\aO l<=299/\l.length=r.length/\l.map (·.f)=r.map (·.f):=by
 intro r
 induction r with
 |nil=>intro l _ h;rw [M4] at h;injection h with h;subst h;exact ⟨Dp _,by rw [aO];omega,rfl,rfl⟩
 |cons y r E=>
  intro l B h
  rw [M4] at h
  obtain ⟨ms,h1,h⟩:=i8 h
  obtain ⟨J,h2,h⟩:=i8 h
  injection h with h;subst h
  obtain ⟨i1,i2,i3,i4⟩:=E (fun b hb=>B b (by simp [hb])) h2
  obtain ⟨_,z,A⟩:=B y (by simp)
  obtain ⟨f1,f2⟩:=I_ fm h1
  obtain ⟨F,q2⟩:=pO x fb z f1 (by omega)
  refine ⟨ZT i1 (G9 A) (F.mono (by omega)), ?_,by simp [i3],by simp [i4]⟩
  rw [aO,Ey,aH,aH];omega
structure ElimP (k:Nat) (t:Tm) (f b line:Tm) (l:LB) (y:Tm):Prop where
 so:xv [(xQ t).c.getD 0 oe,(xQ t).c.getD 1 oe,J4 (xQ t).s]=0
 fill:FB ((xQ t).c.getD 0 oe) ((xQ t).c.getD 1 oe) (xQ t).s= .ok f
 up:J6 0 1 (t.c.getD 0 oe)= .ok b
 plug:K7 0 b f= .ok line
 brs:M4 t.k b (ya t) (xQ t).s= .ok l
 so2:xv [line,ig t.k (t.c.getD 0 oe) (ya t) ((xQ t).c.getD 1 oe),J4 l]=0
 comp:dF line (ig t.k (t.c.getD 0 oe) (ya t) ((xQ t).c.getD 1 oe)) l= .ok y
 fy:bw y=0
 ff:Fm f
 fb:Fm b
 fl:Fm line
 fa:Fm (ig t.k (t.c.getD 0 oe) (ya t) ((xQ t).c.getD 1 oe))
 fw:Fm (J4 l)
 bs:l.map (·.f)=(xQ t).s.map (·.f)
 yin:In k y
theorem KC (hk:F3 k) {t y:Tm} (ft:Fm t) (q:t.k=22\/t.k=27) (A:(xQ t).k=15) (h:RP t.k (t.c.getD 0 oe) (ya t) (xQ t)= .ok y): ∃f b line l,ElimP k t f b line l y:=by
 unfold RP at h
 obtain ⟨f,h1,h⟩:=i8 h
 obtain ⟨b,h2,h⟩:=i8 h
 obtain ⟨line,L,h⟩:=i8 h
 obtain ⟨l,M,h⟩:=i8 h
 obtain ⟨so2,fy,hc⟩:=BI h
 obtain ⟨so,ff,B⟩:=BI h1
 have hlen:2<=t.c.length/\t.c.length<=5:=by
  have:=ft.nk
  rcases q with h|h<;>rw [h] at this
  ·have e:ct 22=4:=rfl
   omega
  ·have e:ct 27=5:=rfl
   omega
 obtain ⟨gl,T⟩:=nw hlen.1
 have fx:=ft.bV T
 obtain ⟨u,a,x⟩:=I8 (E5 fx A (n:=2) rfl)
 obtain ⟨E,z⟩:=EC x
 have fu:Fm u:=fx.bV (by rw [x];simp)
 have fa:Fm a:=fx.bV (by rw [x];simp)
 obtain ⟨sy,W⟩:=fx.sy A
 have fp:Fm (t.c.getD 0 oe):=ft.bV (by
  match h:t.c,hlen.1 with
  |a::l,_=>simp)
 have J:=Jc hk fx
 have fm: ∀y∈ya t,Fm y:=fun y Y=>ft.bV (zt Y)
 have F:(ya t).length<=3:=by unfold ya;rw [List.length_drop,List.length_take];omega
 have O:Fm f:=⟨(ux hk (E▸fu) (z▸fa) (iQ (wg (E▸fu).ok (z▸fa).ok J.1 so).2.2) B).1.1,ff⟩
 have fb:=mD (by omega) fp h2
 have fl:=CP (by omega) fb O L
 obtain ⟨b1,b2,b3,b4⟩:=acF q fb fm F sy M
 have I:=Jb hk (by omega) b1 (by omega) b2
 obtain ⟨q1,q2⟩:=pO q fp (a:=(xQ t).c.getD 1 oe) (z▸fa) fm F
 obtain ⟨f1,f2,f3⟩:=wg fl.ok q1.ok I.1 so2
 exact ⟨f,b,line,l,so,B,h2,L,M,so2,hc,fy,O,fb,fl,f2,f3,b4,(yu hk f1 f2 (iQ f3) hc).1⟩
theorem acE (hk:F3 k) {t:Tm} (x:In k t):In k (pP t).1:=by
 unfold pP
 by_cases q:bw t=0
 case neg=>rw [if_pos q];exact gQ hk
 rw [if_neg (by simp [q])]
 have ft:Fm t:=⟨x.1,q⟩
 split
 case isTrue hc=>
  cases z:RP t.k (t.c.getD 0 oe) (ya t) (xQ t) with
  |error e=>exact gQ hk
  |ok y=>
   obtain ⟨f,b,line,l,hp⟩:=KC hk ft hc.1 hc.2 z
   show In k (if bw y=0 then (y,true,(0:Int)) else (oe,false,bw y)).1
   split
   ·exact hp.yin
   ·exact gQ hk
 case isFalse hc=>exact gQ hk
end
section
section
variable {n kd:Int} {u:Tm}
end
section
variable {f g:Int->LC->Except Int (LC)} {kd:Int}
end

variable {S:Type} {k:Nat}


section
variable {hd:Tm->(Int->OS S)->OS S} {t:Tm}
end
theorem ao6 {kd D E:Int} (h:D<=E): ∀ {l:LB},ba l->l.all (bX kd D)=true->l.all (bX kd E)=true:=by
 intro l
 induction l with
 |nil=>intro _ _;rfl
 |cons b l q=>
  intro ho hb
  obtain ⟨f,x⟩:=b
  rw [ba,Fa] at ho
  rw [List.all_cons,pX] at hb ⊢
  refine ⟨?_,q ho.2 hb.2⟩
  have h1:=hb.1
  unfold bX at h1 ⊢
  simp only [pX,decide_eq_true_eq] at h1 ⊢
  exact ⟨h1.1,h1.2.1,W0 ((oB ho.1.1.1).1 h1.2.1).1 h1.2.2 h⟩
theorem aRb (t:Tm):pf t-> ∀ {V W D E:Int},rf false V D t=true->(W= -1\/0<=V/\V<=W)->D<=E->rf false W E t=true:=by
 induction t using gq with
 |h kd n nm r ks sys J L=>
  intro B V W D E h O A
  rw [pf] at B
  obtain ⟨o1,o2,o3,T,o5,o6,o7⟩:=B.1
  have hk: ∀ {l:LT} {i:Nat},(∀x∈l,pf x-> ∀ {V W D E:Int},rf false V D x=true->(W= -1\/0<=V/\V<=W)->D<=E->rf false W E x=true)->aZ l->bO false V D kd i l=true->bO false W E kd i l=true:=by
   intro l
   induction l with
   |nil=>intro i _ _ _;rw [bO]
   |cons t l F=>
    intro i h hl ha
    rw [aZ] at hl
    rw [bO,pX] at ha ⊢
    have hb:=g7 kd i
    exact ⟨h t (by simp) hl.1 ha.1 (O.imp (fun q=>by rw [q];rfl) fun q=>by unfold cQ;rw [if_neg (by omega),if_neg (by omega)];omega) (by omega),F (fun x M=>h x (by simp [M])) hl.2 ha.2⟩
  have Y: ∀ {l:LT},(∀x∈l,pf x-> ∀ {V W D E:Int},rf false V D x=true->(W= -1\/0<=V/\V<=W)->D<=E->rf false W E x=true)->aZ l->ca false V D kd l=true->ca false W E kd l=true:=by
   intro l
   induction l with
   |nil=>intro _ _ _;rw [ca]
   |cons t l F=>
    intro h hl ha
    rw [aZ] at hl
    rw [ca,pX] at ha ⊢
    exact ⟨h t (by simp) hl.1 ha.1 O (by omega),F (fun x M=>h x (by simp [M])) hl.2 ha.2⟩
  have hs: ∀ {l:LB},(∀b∈l,∀x∈b.c,pf x-> ∀ {V W D E:Int},rf false V D x=true->(W= -1\/0<=V/\V<=W)->D<=E->rf false W E x=true)->ba l->ck false V D kd l=true->ck false W E kd l=true:=by
   intro l
   induction l with
   |nil=>intro _ _ _;rw [ck]
   |cons b l F=>
    intro h hl ha
    obtain ⟨f,I⟩:=b
    rw [ba,Fa] at hl
    rw [ck,jT,pX] at ha ⊢
    exact ⟨Y (l:=I) (h ⟨f,I⟩ (by simp)) hl.1.2 ha.1,F (fun b hb=>h b (by simp [hb])) hl.2 ha.2⟩
  rw [rf,pX,pX,pX] at h ⊢
  refine ⟨rfl, ?_,hk J B.2.1 h.2.2.1,hs L B.2.2 h.2.2.2⟩
  have h2:=h.2.1
  unfold cL at h2 ⊢
  simp only [pX] at h2 ⊢
  refine ⟨h2.1, ?_⟩
  have z:=h2.2
  split
  ·rename_i c
   rw [if_pos c] at z
   simp only [pX,decide_eq_true_eq] at z ⊢
   exact ⟨z.1,z.2.1,by omega⟩
  ·rename_i c
   rw [if_neg c] at z
   split
   ·rename_i c
    rw [if_pos c] at z;exact z
   ·rename_i c
    rw [if_neg c] at z
    split
    ·rename_i c
     rw [if_pos c,pX] at z
     rw [pX]
     exact ⟨z.1,W0 ((L8 T).1 z.1) z.2 A⟩
    ·rename_i c
     rw [if_neg c] at z
     split
     ·rename_i c
      rw [if_pos c,pX] at z
      rw [pX]
      exact ⟨z.1,W0 ((oB T).1 z.1).1 z.2 A⟩
     ·rename_i c
      rw [if_neg c,pX] at z
      rw [pX]
      exact ⟨ao6 A B.2.2 z.1,z.2⟩
theorem aqc (t:Tm) (x:pf t) {V D E:Int} (h:rf false V D t=true) (q:D<=E):rf false (-1) E t=true:=aRb t x h (.inl rfl) q
theorem apu {t:Tm} (h:In k t) {V D:Int} (q:MZ t V D=0):Fm t:=by
 have x:=q
 unfold MZ at q
 split at q
 ·cases q
 split at q
 ·cases q
 split at q
 ·cases q
 obtain ⟨_,_,hs⟩:=aoN x
 exact ⟨h.1,pS (by omega) (by omega) (aqc t h.1 (aoD t hs) (aoS hs))⟩
structure MayR (k:Nat) (x t:Tm) (V D:Int) (r:Tm×Bool×Int):Prop where
 ins:In k r.1
 no:r.2.1=false->r.1=oe
 ok:r.2.1=true->r.2.2=0/\MZ r.1 V D=0/\r.1.k=x.k/\(x.k=15->r.1.s.map (·.f)=x.s.map (·.f))
def Ik (r:Tm×Bool×Int):Prop:=r.2.1=true->bw r.1=0/\r.2.2=0
theorem Hy (e:Int):Ik (oe,false,e):=fun h=>by cases h
theorem aAR (q:Tm×Int):(∃e,Mb q=(oe,false,e))\/q.2=0/\bw q.1=0/\Mb q=(q.1,true,0):=by
 grind [Mb,dM]
theorem Sl (q:Tm×Int):Ik (Mb q):=by
 rcases aAR q with ⟨e,he⟩|⟨_,h,he⟩
 ·rw [he];exact Hy e
 ·rw [he];exact fun _=>⟨h,rfl⟩
theorem aAt (x:Except Int Tm):Ik (FA x):=by
 cases x with
 |error e=>exact Hy e
 |ok t=>
  by_cases h:bw t=0
  ·rw [show FA (.ok t)=(t,true,0) from if_pos h];exact fun _=>⟨h,rfl⟩
  grind [FA,Hy]
theorem EI {c:Prop} [Decidable c] {a b:Tm×Bool×Int} (ha:Ik a) (hb:Ik b):Ik (if c then a else b):=by
 grind
theorem Iq {r s:Tm×Bool×Int} (q:Ik r) (hs:Ik s):Ik (aux r s):=EI q hs
theorem aI5 (t:Tm):Ik (e5 t):=EI (Hy _) (EI (Sl _) (Hy _))
theorem aI3 (t:Tm):Ik (h_ t):=EI (Hy _) (EI (aAt _) (Hy _))
theorem aI4 (t:Tm):Ik (pP t):=EI (Hy _) (EI (aAt _) (Hy _))
theorem aI7 (t:Tm):Ik (u9 t):=EI (Hy _) (EI (Hy _) (EI (Sl _) (EI (Sl _) (EI (Sl _) (EI (Sl _) (EI (aI3 t) (EI (aI5 t) (Hy _))))))))
theorem aI2 (t:Tm):Ik (Q5 t):=EI (Hy _) (EI (Sl _) (Hy _))
theorem aI6 (t:Tm):Ik (sf t):=EI (Hy _) (EI (Sl _) (EI (Hy _) (EI (aAt _) (Hy _))))
theorem aI8 {defs:List Df} (hd:Ix k defs) (t:Tm):Ik (if (Is defs t).2=true then ((Is defs t).1,true,0) else (oe,false,0)):=by
 by_cases h:(Is defs t).2=true
 ·rw [if_pos h]
  refine fun _=>⟨?_,rfl⟩
  unfold Is at h ⊢
  by_cases h2:t.k=2
  ·rw [if_pos h2] at h ⊢
   cases hf:defs.find? fun d=>decide (d.name=t.name) with
   |none=>grind
   |some d=>
    rw [hf] at h
    have h:(MZ d.body 0 0==0)=true:=h
    exact (apu (hd.2 d (List.mem_of_find?_eq_some hf)) (by simpa using h)).2
  grind
 grind [Hy]
theorem aDp {defs:List Df} (hd:Ix k defs) (t:Tm):Ik (nf defs t):=EI (Hy _) (Iq (aI2 t) (Iq (aI4 t) (Iq (aI7 t) (Iq (aI6 t) (aI8 hd t)))))
theorem aE5 {kd D:Int} {f:LC} {ks:LT} (h:(ks.length:Int)=xU kd) (h1:cV f=true) (h2:dg f D=true):bX kd D ⟨f,ks⟩=true:=by
 show (decide ((ks.length:Int)=xU kd)&&(cV f&&dg f D))=true
 grind
section
variable {V D:Int} {a y k0:Tm} {sys:LB}
end
section
variable {V D:Int} {a y:Tm} {sys:LB}
end
theorem aDu {V D kd:Int}: ∀ {l:LB},(∀y∈l,bX kd D y=true/\ca false V D kd y.c=true)->l.all (bX kd D)=true/\ck false V D kd l=true:=by
 intro l
 induction l with
 |nil=>grind [ck]
 |cons x l q=>
  intro h
  obtain ⟨A,q2⟩:=h x (by simp)
  obtain ⟨i1,i2⟩:=q fun y z=>h y (by simp [z])
  obtain ⟨f,B⟩:=x
  grind [ck,jT]
theorem wM1 {V D kd:Int} {t:Tm}:ca false V D kd [t]=true↔Wk0 V (D+av kd) t:=by grind [ca]
theorem aJi {V D kd:Int} {a b:LB} (ha:a.all (bX kd D)=true/\ck false V D kd a=true) (hb:b.all (bX kd D)=true/\ck false V D kd b=true):(a++b).all (bX kd D)=true/\ck false V D kd (a++b)=true:=by
 grind [wH]
def Wb (n V D:Int) (t:Tm):Prop:=Wk0 V D t/\True
theorem Wb.mono {n m V D:Int} {t:Tm} (h:Wb n V D t) (hn:n<=m):Wb m V D t:=h
def WB (n kd V D:Int) (l:LB):Prop:=(l.all (bX kd D)=true/\ck false V D kd l=true)/\True
theorem WB.app {n kd V D:Int} {a b:LB} (ha:WB n kd V D a) (hb:WB n kd V D b):WB n kd V D (a++b):=⟨aJi ha.1 hb.1,trivial⟩
theorem WB.nil {n kd V D:Int}:WB n kd V D []:=⟨aDu (fun y q=>by cases q),trivial⟩
theorem WB.of {n kd V D:Int} (hp:xU kd=1) {l:LB} (h: ∀b∈l,∃z,b.c=[z]/\cV b.f=true/\dg b.f D=true/\Wb n V (D+av kd) z):WB n kd V D l:=by
 refine ⟨aDu fun b hb=> ?_,trivial⟩
 obtain ⟨z,q,q2,x,A⟩:=h b hb
 obtain ⟨f,B⟩:=b
 have q:B=[z]:=q
 subst q
 exact ⟨aE5 (by grind) q2 x,wM1.2 A.1⟩
variable {n V D:Int}
section
variable {nX:LC} {V D n:Int}
end
section
variable {nX:LC} {V D n:Int}
end


section
variable {t g b a:Tm}
theorem aF_ (z:Fm g) (A:g.k=16): ∀ {l l':LB},(∀b∈l,b.c=[AK b]/\Fm (AK b)/\RX true b.f)->fi (eh g) l= .ok l'->sk 50000 l'/\l'.length=l.length:=by
 intro l
 induction l with
 |nil=>grind [fi,Mc]
 |cons x l B=>
  intro l' q h
  rw [fi] at h
  obtain ⟨u,g1,h⟩:=i8 h
  obtain ⟨m,g2,h⟩:=i8 h
  injection h with h;subst h
  obtain ⟨i1,i2⟩:=B (fun b hb=>q b (by simp [hb])) g2
  obtain ⟨E,q2,F⟩:=q x (by simp)
  have:=r6 (u:=u) (.inl (mD (by omega) (azf z A) g1)) q2
  grind [My,G9]
theorem aGb (hk:F3 k) (ft:Fm t) (fb:Fm b): ∀ {l l':LB},(∀b∈l,b.c=[AK b,k1 b]/\Fm (AK b)/\Fm (k1 b)/\RX true b.f)->fW b t.s l= .ok l'->sk 500000 l'/\l'.length=l.length:=by
 intro l
 induction l with
 |nil=>grind [fW,Mc]
 |cons x l E=>
  intro l' q h
  rw [fW] at h
  obtain ⟨f,g1,h⟩:=i8 h
  obtain ⟨w,g2,h⟩:=i8 h
  obtain ⟨m,g3,h⟩:=i8 h
  injection h with h;subst h
  obtain ⟨i1,i2⟩:=E (fun b hb=>q b (by simp [hb])) g3
  obtain ⟨M,q2,F,I⟩:=q x (by simp)
  have ff:=mD (by omega) F g1
  obtain ⟨so,z,A⟩:=BI g2
  have B:=Jc hk ft
  have fw:Fm w:=⟨(ux hk q2 fb (iQ (wg q2.ok fb.ok B.1 so).2.2) A).1.1,z⟩
  have J:=Mz (kd:=9) (by omega) (n:=20000) (ks:=[f]) (fun x q=>by simp at q;subst q;exact ⟨ff.sm,by have:=ff.dep;omega⟩) (by simp)
  have L:=Mz (kd:=6) (by omega) (n:=80001) (ks:=[dS 9 [f],w]) (fun x q=>by
   simp at q
   rcases q with rfl|rfl
   ·refine ⟨J.1, ?_⟩
    unfold dS;rw [am,aH,aH,aO];have:=ff.dep;omega
   ·exact ⟨fw.sm.mono (by omega),by have:=fw.dep;omega⟩) (by simp)
  exact ⟨My (G9 I) (L.1.mono (by omega)) (by omega) i1,by grind⟩
end
theorem aG5 (hk:F3 k) {t y:Tm} (ft:Fm t) (x:t.k=15) (q:(t.c.getD 0 oe).k=16) (h:y0 t= .ok y):In k y/\y.k=17:=by
 obtain ⟨g,b,z⟩:=I8 (E5 ft x (n:=2) rfl)
 obtain ⟨d0,d1⟩:=EC z
 have A:Fm g:=ft.bV (by grind)
 have fb:Fm b:=ft.bV (by grind)
 obtain ⟨sy,B⟩:=ft.sy x
 rw [d0] at q
 obtain ⟨E,hl,a,F,fa⟩:=A.gl q
 unfold y0 at h
 rw [d0,d1] at h
 obtain ⟨O,I,h⟩:=i8 h
 obtain ⟨T,J,h⟩:=i8 h
 injection h with h;subst h
 obtain ⟨L,W⟩:=aF_ A q sy I
 obtain ⟨M,Y⟩:=aGb hk ft fb E J
 exact ⟨aCw hk ft A q (by grind) fa fb L (by omega) M (by omega),rfl⟩

section
variable {hd:Tm->(Int->OS S)->OS S} {t:Tm}
end
theorem aFZ (hk:F3 k) {nX:LC} {g a:Tm} (L:Fm g) (M:g.k=16) (fa:Fm a) (hp:RX true nX):pf (fC nX g a).1:=by
 obtain ⟨E,sB,lB⟩:=aAK hk L M fa hp
 unfold fC
 dsimp only
 generalize SB g nX a=B at E sB lB ⊢
 obtain ⟨st,a1,c0⟩:=B
 dsimp only at E sB lB ⊢
 have O:GN (mM c0 (wv 0 [⟨0,0⟩] g)).1:=k3 L M Qz (aBA (by decide))
 generalize mM c0 (wv 0 [⟨0,0⟩] g)=G at O ⊢
 obtain ⟨f1,I,lG,_⟩:=aBc O
 have A:=aDv (nX:=nX) (st:=st) (a1:=a1) (t1:=Ii G.1.c) (c:=G.2) hk fa E f1 hp sB lB I
 have J:(wm (ky nX a a1 (Ii G.1.c) st) G.2 G.1.s).1.length=G.1.s.length:=Ni
 generalize wm (ky nX a a1 (Ii G.1.c) st) G.2 G.1.s=ws at A J ⊢
 have T: ∀c,FN (mM c (wA 0 1 a1)).1:=fun c=>Ft (by omega) (by omega) E.sm.1.ok
 obtain ⟨Y,w2⟩:=B0 (F:=fun c=>mM c (wA 0 1 a1)) hp (n:=20000) (fun c=>⟨(T c).sm.1,by have:=(T c).sm.2;omega⟩) ws.2
 generalize EH nX (fun c=>mM c (wA 0 1 a1)) ws.2=W at Y w2 ⊢
 have x: ∀q∈G.1.s.zip ws.1,q.1∈G.1.s/\q.2∈ws.1:=fun q z=>⟨(List.of_mem_zip z).1,(List.of_mem_zip z).2⟩
 generalize hZ:wm (MW a1) W.2 (G.1.s.zip ws.1)=Z
 have zq: ∀y∈Z.1,∃t,y.c=[t]/\pf t/\am t<=299/\aq y.f/\y.f.length<1073741824:=by
  rw [<-hZ]
  exact SF fun q z c=>aA7 E.sm.1.ok (A q.2 (x q z).2).1.ok (I q.1 (x q z).1).2.2.1.ok (G9 (I q.1 (x q z).1).2.2.2) c
 have zl:Z.1.length=(G.1.s.zip ws.1).length:=by grind [Ni]
 have pq: ∀y∈(G.1.s.zip ws.1).map im,∃t,y.c=[t]/\pf t/\am t<=301/\aq y.f/\y.f.length<1073741824:=fun y hy=>by
  obtain ⟨q,z,rfl⟩:=wD.1 hy
  obtain ⟨h1,h2⟩:=A q.2 (x q z).2
  have r:=G9 (I q.1 (x q z).1).2.2.2
  refine ⟨_,rfl, ?_, ?_,r.1,r.2⟩
  ·unfold dS;rw [pf,aZ,aZ,ba];exact ⟨⟨by unfold aG;omega,by unfold aG;omega,by decide,(fun c hc=>by cases hc),by simp,by simp,by simp⟩,⟨h1.ok,trivial⟩,trivial⟩
  grind [dS,am,aH,aO]
 obtain ⟨o1,o2⟩:=p2 (l:=W.1++Z.1) (n:=299) fun y hy=>by
  rcases xO.1 hy with hy|hy
  ·obtain ⟨t,q1,q2,q3,q4,q5⟩:=Y y hy;exact ⟨t,q1,q2.ok,q3,q4,q5⟩
  grind
 obtain ⟨o3,o4⟩:=p2 pq
 have ad:(G.1.s.zip ws.1).length<=10000:=by grind
 rw [pf,aZ,aZ,pf,aZ,aZ,aZ]
 exact ⟨⟨by unfold aG;omega,by unfold aG;omega,by decide,(fun c hc=>by cases hc),by simp,by simp,by grind⟩,⟨⟨⟨by unfold aG;omega,by unfold aG;omega,by decide,(fun c hc=>by cases hc),by simp,by simp,by grind⟩,⟨f1.sm.1.ok,E.sm.1.ok,trivial⟩,o1⟩,trivial⟩,o3⟩
theorem I2:pf oe:=KO.1.ok
theorem Ss {q:Tm×Int} (h:pf q.1):pf (Mb q).1:=by
 grind [aAR,I2]
theorem aG7 {x:Except Int Tm} (h: ∀y,x= .ok y->pf y):pf (FA x).1:=by
 cases x<;>grind [I2,FA]
theorem HD {c:Prop} [Decidable c] {a b:Tm×Bool×Int} (ha:c->pf a.1) (hb: ¬c->pf b.1):pf (if c then a else b).1:=by
 grind
theorem Ao:F4 4294970296:=by simp
theorem aI9 {t:Tm} (ft:Fm t):pf (u9 t).1:=by
 have z:=Ao
 have hk:=z.f3
 unfold u9
 refine HD (fun _=>I2) fun _=>HD (fun _=>I2) fun x=> ?_
 have x:t.k=14:=Decidable.not_not.1 x
 obtain ⟨l,a,F⟩:=I8 (E5 ft x (n:=2) rfl)
 obtain ⟨A,B⟩:=EC F
 have fl:Fm l:=ft.bV (by grind)
 have fa:Fm a:=ft.bV (by grind)
 have hp:=ft.r14 x
 dsimp only
 rw [A,B]
 refine HD (fun _=>Ss fa.ok) fun _=>HD (fun W=>Ss ?_) fun _=>HD (fun Y=>Ss ?_) fun _=>HD (fun I=>Ss ?_) fun _=>HD (fun _=>(apb hk (ft.isIn hk)).1) fun _=>HD (fun J=> ?_) fun _=>I2
 ·obtain ⟨k0,L,hb⟩:=I8 (E5 fl W (n:=2) rfl)
  obtain ⟨M,O⟩:=EC hb
  rw [M,O]
  obtain ⟨x1,x2,x3,x4,x5,x6⟩:=a
  obtain ⟨T,c,_,q2,E⟩:=aDg (S:=Unit) (nX:=t.r) z hb (fl.bV (by grind)) (fl.bV (by grind)) fa hp (fun _=>none)
  rw [<-q2];exact E.1
 ·obtain ⟨k0,L,hb⟩:=I8 (E5 fl Y (n:=2) rfl)
  obtain ⟨M,O⟩:=EC hb
  rw [M,O]
  obtain ⟨x1,x2,x3,x4,x5,x6⟩:=a
  obtain ⟨T,c,_,q2,E⟩:=aDi (S:=Unit) (nX:=t.r) z hb (fl.bV (by grind)) (fl.bV (by grind)) fa hp (fun _=>none)
  rw [<-q2];exact E.1
 ·obtain ⟨k0,kl,kr,hb⟩:=azt (E5 fl I (n:=3) rfl)
  rw [show l.c.getD 0 oe=k0 by grind,show l.c.getD 1 oe=kl by grind,show l.c.getD 2 oe=kr by grind]
  obtain ⟨x1,x2,x3,x4,x5,x6⟩:=a
  obtain ⟨T,c,_,q2,E⟩:=aDf (S:=Unit) (nX:=t.r) hk hb (fl.bV (by grind)) (fl.bV (by grind)) (fl.bV (by grind)) fa hp (fun _=>none)
  rw [<-q2];exact E.1
 ·unfold e5
  refine HD (fun _=>I2) fun _=>HD (fun _=> ?_) fun _=>I2
  rw [A,B]
  exact Ss (q:=fC t.r l a) (aFZ hk fl J fa hp)
theorem aE1 {t:Tm} (ft:Fm t):pf (Q5 t).1:=HD (fun _=>I2) fun _=>HD (fun _=>Ss (aAJ ft).1) fun _=>I2
theorem aF3 {t:Tm} (ft:Fm t):pf (sf t).1:=by
 have J:=Ao
 have hk:=J.f3
 unfold sf
 refine HD (fun _=>I2) fun h0=>HD (fun h=> ?_) fun hn=> ?_
 ·obtain ⟨k0,a,B⟩:=I8 (E5 ft h.1 (n:=2) rfl)
  obtain ⟨d0,d1⟩:=EC B
  have fa:Fm a:=ft.bV (by grind)
  obtain ⟨sy,z⟩:=ft.sy h.1
  rw [d1]
  have Y:=SF (F:=L7 a) (Q:=D1) (l:=t.s) (c:=0) fun x T c=>aDr fa ⟨(sy x T).2.1,(sy x T).2.2⟩ c
  have hl:(wm (L7 a) 0 t.s).1.length=t.s.length:=Ni
  obtain ⟨b1,b2,b3⟩:=aAN Y
  refine Ss ?_
  show pf (.mk 16 0 oW [] [a] (wm (L7 a) 0 t.s).1)
  rw [pf,aZ,aZ]
  exact ⟨⟨by unfold aG;omega,by unfold aG;omega,by decide,(fun c hc=>by cases hc),by simp,by simp,by omega⟩,⟨fa.ok,trivial⟩,b1⟩
 ·unfold Q7
  refine HD (fun _=>I2) fun _=>HD (fun hc=>aG7 fun y q=> ?_) fun _=>I2
  obtain ⟨E,L⟩:=hc
  obtain ⟨k0,a,B⟩:=I8 (E5 ft E (n:=2) rfl)
  obtain ⟨d0,d1⟩:=EC B
  have A:Fm k0:=ft.bV (by grind)
  have fa:Fm a:=ft.bV (by grind)
  obtain ⟨sy,z⟩:=ft.sy E
  rw [d0] at L
  unfold ov at q
  rw [d0,d1] at q
  dsimp only at q
  by_cases M:k0.k=4
  ·rw [if_pos M] at q
   obtain ⟨p,b,hb⟩:=I8 (E5 A M (n:=2) rfl)
   rw [(EC hb).2] at q
   obtain ⟨x1,x2,x3,x4,x5,x6⟩:=a
   obtain ⟨W,i1,_,i3,i4,_⟩:=aC_ (S:=Unit) hk hb (A.bV (by grind)) fa sy z (fun _=>none)
   rw [<-(i4 y q).1];exact i3.1
  rw [if_neg M] at q
  by_cases O:k0.k=7
  ·rw [if_pos O] at q
   obtain ⟨p,b,hb⟩:=I8 (E5 A O (n:=2) rfl)
   rw [(EC hb).1,(EC hb).2] at q
   obtain ⟨x1,x2,x3,x4,x5,x6⟩:=a
   obtain ⟨W,i1,_,i3,i4,_⟩:=aDa (S:=Unit) J hb (A.bV (by grind)) (A.bV (by grind)) fa sy z (fun _=>none)
   rw [<-(i4 y q).1];exact i3.1
  rw [if_neg O] at q
  by_cases I:k0.k=11
  ·rw [if_pos I] at q
   obtain ⟨p,l,r,hb⟩:=azt (E5 A I (n:=3) rfl)
   rw [hb] at q
   obtain ⟨x1,x2,x3,x4,x5,x6⟩:=a
   obtain ⟨W,i1,_,i3,i4,_⟩:=aC9 (S:=Unit) hk hb (A.bV (by grind)) (A.bV (by grind)) (A.bV (by grind)) fa sy z (fun _=>none)
   rw [<-(i4 y q).1];exact i3.1
  rw [if_neg I] at q
  by_cases h3:k0.k=3
  ·grind
  rw [if_neg h3] at q
  exact (aG5 hk ft E (by grind) q).1.1
theorem aJb {defs:List Df} (hd:Ix k defs) (t:Tm):pf (if (Is defs t).2=true then ((Is defs t).1,true,(0:Int)) else (oe,false,0)).1:=by
 refine HD (fun h=> ?_) fun _=>I2
 unfold Is at h ⊢
 by_cases h2:t.k=2
 ·rw [if_pos h2] at h ⊢
  cases hf:defs.find? fun d=>decide (d.name=t.name) with
  |none=>grind
  |some d=>exact (hd.2 d (List.mem_of_find?_eq_some hf)).1
 grind
theorem H8 {r s:Tm×Bool×Int} (q:pf r.1) (hs:pf s.1):pf (aux r s).1:=HD (fun _=>q) fun _=>hs
theorem aIS {defs:List Df} (hd:Ix k defs) {t:Tm} (q:pf t):pf (nf defs t).1:=by
 unfold nf
 refine HD (fun _=>I2) fun x=> ?_
 have ft:Fm t:=⟨q,Decidable.not_not.1 x⟩
 exact H8 (aE1 ft) (H8 (acE Ao.f3 (ft.isIn Ao.f3)).1 (H8 (aI9 ft) (H8 (aF3 ft) (aJb hd t))))
theorem az0 {defs:List Df} (hd:Ix k defs) {t:Tm} (q:pf t) (h:(nf defs t).2.1=true):Fm (nf defs t).1/\(nf defs t).2.2=0:=
 ⟨⟨aIS hd q,(aDp hd t h).1⟩,(aDp hd t h).2⟩
noncomputable def oS {α:Type} (a b:α):Bool:= @decide (a=b) (Classical.propDecidable _)
theorem Nv {α:Type} {a b:α} (h:a=b):oS a b=true:=by grind [oS]
theorem K6 {α:Type} {a b:α} (h:a≠b):oS a b=false:=by grind [oS]
section
variable {hd:B9 S}
theorem aGO (I:Bool->OS S) {l z:LT} (E: ∀y∈l,∀u g,hd y u g=g (oS y u)) (hl:l.length<4294967296):
  ∀ (r s p q:LT) (m:Nat),l=p++r->z=q++s->p.length=q.length->r.length=s.length->r.length<m->jo hd k I z l m (p.length:Int)=I (oS r s):=by
 intro r
 induction r with
 |nil=>
  grind [pw,jo,o4,n3,Nv]
 |cons x r F=>
  intro s p q m h h2 hp hs J
  obtain ⟨m,rfl,A⟩:=pw J
  obtain ⟨L,M,O,T⟩:=qF h (by omega)
  cases s with
  |nil=>simp at hs
  |cons y s=>
  have g2:af z (p.length:Int)=some y:=by rw [h2,hp];exact ED (n:=q.length) rfl (by simp)
  simp only [jo,o4,L,ae,M,g2,p9,ar,E x (by grind),O]
  by_cases B:x=y
  ·subst B
   rw [Nv rfl,uX,n3,F s (p++[x]) (q++[x]) m T (by grind) (by simp [hp]) (by grind) A]
   by_cases W:r=s<;>grind [Nv,K6,List.cons.inj]
  grind [K6,ae,List.cons.inj]
theorem aC8 (hk:4294967296<=k) (I:Bool->OS S) {l:LT} (x:LT) (z: ∀y∈l,∀u g,hd y u g=g (oS y u)) (hl:l.length<4294967296):iS hd k l x I=I (oS l x):=by
 simp only [iS,aAm]
 by_cases h:l.length=x.length
 ·rw [h,beq_self_eq_true,uX,n3]
  exact aGO I z hl l x [] [] k rfl rfl rfl h (by omega)
 ·rw [beq_false_of_ne (by omega),sQ,ae,K6 (fun q=>h (congrArg EO q))]
theorem aGP (hk:4294967296+1<=k) (I:Bool->OS S) {l B:LB} (L: ∀b∈l,∀y∈b.c,∀u g,hd y u g=g (oS y u)) (hb: ∀b∈l,b.c.length<4294967296/\b.f.length<4294967296) (hl:l.length<4294967296):
  ∀ (r s p q:LB) (m:Nat),l=p++r->B=q++s->p.length=q.length->r.length=s.length->r.length<m->kx hd k I B l m (p.length:Int)=I (oS r s):=by
 have z:Fu k:=by omega
 intro r
 induction r with
 |nil=>
  grind [pw,kx,e9,n3,Nv]
 |cons x r M=>
  intro s p q m h h2 hp hs O
  obtain ⟨m,rfl,E⟩:=pw O
  obtain ⟨T,W,Y,e4⟩:=qF h (by omega)
  cases s with
  |nil=>simp at hs
  |cons y s=>
  have g2:af B (p.length:Int)=some y:=by rw [h2,hp];exact ED (n:=q.length) rfl (by simp)
  obtain ⟨b1,b2⟩:=hb x (by grind)
  have hx: ∀g:Bool->OS S,u2 hd k x y g=g (oS x y):=fun g=>by
   obtain ⟨f,J⟩:=x
   obtain ⟨f',A⟩:=y
   simp only [u2,ag z,me z b2,aC8 (by omega) _ A (L ⟨f,J⟩ (by grind)) b1]
   by_cases hf:f=f'
   ·subst hf
    rw [decide_eq_true rfl,ae]
    by_cases ad:J=A<;>simp_all [Nv,K6]
   simp_all [n3,K6]
  simp only [kx,e9,T,ae,W,g2,p9,ag z,hx,Y]
  by_cases F:x=y
  ·subst F
   rw [Nv rfl,uX,n3,M s (p++[x]) (q++[x]) m e4 (by grind) (by simp [hp]) (by grind) E]
   by_cases ao:r=s<;>grind [Nv,K6,List.cons.inj]
  grind [K6,ae,List.cons.inj]
end
theorem aID (t:Tm):pf t-> ∀ {k:Nat} (u:Tm) (I:Bool->OS S),Fd k (am t+1)->K4 k t u I=I (oS t u):=by
 induction t using c7 with
 |h t E F=>
  intro B k u I hk
  obtain ⟨q,rfl⟩: ∃q,k=q+1:=⟨k-1,by omega⟩
  have hq:4294967296+1<=q:=by grind [HX]
  have x:Fu q:=by omega
  obtain ⟨o1,o2,o3,o4,o5,o6,o7⟩:=B.no
  have ad:4294967296+(am t+1)<=q+1:=hk
  have hQ: ∀y∈t.c,∀ (v:Tm) (g:Bool->OS S),K4 q y v g=g (oS y v):=fun y z v g=>E y z (B.ki z) v g (by have:=bY z;omega)
  have J: ∀b∈t.s,∀y∈b.c,∀ (v:Tm) (g:Bool->OS S),K4 q y v g=g (oS y v):=fun b hb y z v g=>F b hb y z ((B.bi hb).2 y z) v g (by have:=b8 hb z;omega)
  have hS: ∀ (A:LB) (g:Bool->OS S),te (K4 q) q t.s A g=g (oS t.s A):=fun A g=>by
   simp only [te,aAl]
   by_cases h:t.s.length=A.length
   ·rw [h,beq_self_eq_true,uX,n3]
    exact aGP hq g J (fun b hb=>by have:=(B.bi hb).1;omega) (by omega) t.s A [] [] q rfl rfl rfl h (by omega)
   ·rw [beq_false_of_ne (by omega),sQ,ae,K6 (fun q=>h (congrArg EO q))]
  have e:K4 (q+1) t u I=aAr (K4 q) q I t u:=rfl
  rw [e]
  simp only [aAr,ag x,Jq,me x (show t.r.length<4294967296 by omega),aC8 x _ u.c hQ (show t.c.length<4294967296 by omega),hS]
  obtain ⟨a1,a2,a3,a4,a5,L⟩:=t
  obtain ⟨M,O,T,W,Y,b6⟩:=u
  show ab (a1==M) (ab (a2==O) (ab (decide (a3=T)) (ab (decide (a4=W)) (ab (oS a5 Y) (I (oS L b6)) (I false)) (I false)) (I false)) (I false)) (I false)=_
  by_cases h1:a1=M
  case neg=>simp_all [beq_false_of_ne,n3,K6]
  by_cases h2:a2=O
  case neg=>simp_all [ae,beq_false_of_ne,n3,K6]
  by_cases h3:a3=T
  case neg=>simp_all [ae,n3,K6]
  by_cases h4:a4=W
  case neg=>simp_all [ae,n3,K6]
  by_cases h5:a5=Y
  case neg=>simp_all [ae,K6,n3]
  subst h1;subst h2;subst h3;subst h4;subst h5
  rw [beq_self_eq_true,ae,beq_self_eq_true,ae,decide_eq_true rfl,ae,decide_eq_true rfl,ae,Nv rfl,ae]
  by_cases h6:L=b6<;>simp_all [Nv,K6]
def JT (t:Tm):Prop:=pf t/\am t<=300/\au t<=1000000
theorem JT.isIn {t:Tm} (h:JT t) (hk:F3 k):In k t:=⟨h.1,hk.fd (by have:=h.2.1;omega),by have:=h.2.2;omega⟩
theorem Fm.jt {t:Tm} (h:Fm t):JT t:=⟨h.ok,by have:=h.dep;omega,by have:=h.dP;omega⟩
def IE (defs:List Df):Prop:=defs.length<1073741824/\ ∀d∈defs,JT d.body
theorem IE.isIn {defs:List Df} (h:IE defs) (hk:F3 k):Ix k defs:=⟨h.1,fun d hd=>(h.2 d hd).isIn hk⟩
theorem aIP: ∀ {l:LT} {i:Nat} {a:Tm},aZ l->pf a->aZ (l.set i a)/\aH (l.set i a)<=max (aH l) (am a)/\ay (l.set i a)<=ay l+au a:=by
 intro l
 induction l with
 |nil=>grind
 |cons x l q=>
  intro i a h ha
  rw [aZ] at h
  cases i<;>grind [aZ,aH,ay]
theorem azV {t a:Tm} {i:Nat} (ft:Fm t) (fa:Fm a):JT (atR t i a):=by
 have h1:=ft.ok;have h2:=ft.dep;have q:=ft.dP;have z:=fa.dep;have A:=fa.dP
 obtain ⟨kd,n,nm,r,x,sys⟩:=t
 rw [pf] at h1
 rw [am] at h2
 rw [au] at q
 obtain ⟨B,q2,E⟩:=aIP (i:=i) h1.2.1 fa.ok
 obtain ⟨F,I,J,L,M,O,T⟩:=h1.1
 show JT (.mk kd n nm r (x.set i a) sys)
 refine ⟨?_, ?_, ?_⟩
 all_goals grind [pf,am,au]
def re (t:Tm):List Nat:=(if 0<=Il t then [(Il t).toNat] else [])++(if t.k=14/\(kd0 t).k=23 then [1] else [])
def MA (x:Except Int (Tm×Nat)) (R:pr (Int×Int) (Tm×Int)):Prop:=match x with
 | .ok p=>R= .ok (p.1,(p.2:Int))
 | .error e=> ∃c,R= .bD (e,c)
theorem aIM (hk:F3 k) {hd:Mh S} {t bV:Tm} {i:Nat} {defs:List Df} {f:Int} (ft:Fm t) (q:af t.c (i:Int)=some bV) {R:pr (Int×Int) (Tm×Int)} (x: ∀g,hd bV defs f g=g R) (z: ∀a c,R= .ok (a,c)->Fm a) (I:pr (Int×Int) (Tm×Bool×Int)->OS S):
  Nl hd k t (i:Int) defs f I=I (match R with
   | .bD e=> .bD e
   | .ok p=>if oS p.1 bV=true then .ok (t,false,p.2) else .ok (atR t i p.1,true,p.2)):=by
 simp only [Nl,ar,q,p9,x]
 cases R with
 |bD e=>rfl
 |ok p=>
  obtain ⟨a,c⟩:=p
  have fa:=z a c rfl
  show (K4 k a bV fun A=>_)=_
  rw [aID a fa.ok bV _ (hk.fd (by have:=fa.dep;omega))]
  dsimp only
  cases oS a bV with
  |true=>rfl
  |false=>
   have:=ft.ok.no.2.2.2.2.2.1
   rw [n3,if_neg (by decide),J5 (by omega)]
   rfl
noncomputable abbrev hA (defs:List Df):=cz (nf defs) re 220
noncomputable abbrev hP (defs:List Df):=eT (nf defs) re 220
def wa (f:Nat) (x:Except Int (Tm×Nat)):Prop:= ∀a r,x= .ok (a,r)->Fm a/\r<=f
theorem az1 {defs:List Df} {t:Tm} (h:(nf defs t).2.2=0):bw t=0:=by
 grind [nf]
noncomputable def a8 (t:Tm) (i:Nat) (bV:Tm):pr (Int×Int) (Tm×Int)->pr (Int×Int) (Tm×Bool×Int)
 | .bD e=> .bD e
 | .ok p=>if oS p.1 bV=true then .ok (t,false,p.2) else .ok (atR t i p.1,true,p.2)
theorem zu {defs:List Df} {n f:Nat} {t:Tm} {i:Nat} {l:List Nat}:(∀e,hA defs n f (xF t i)= .error e->hP defs n f t (i::l)= .error e)/\
  (∀a r,hA defs n f (xF t i)= .ok (a,r)->oS a (xF t i)=true->hP defs n f t (i::l)=hP defs n r t l)/\
  ∀a r,hA defs n f (xF t i)= .ok (a,r)->oS a (xF t i)=false->hP defs n f t (i::l)=hA defs n r (atR t i a):=by
 grind [eT,oS]
theorem va {defs:List Df} {n f:Nat} {t:Tm} {i:Nat} {l:List Nat} {W:(pr (Int×Int) (Tm×Bool×Int)->OS S)->OS S} {R:pr (Int×Int) (Tm×Int)}
  (q:MA (hA defs n f (xF t i)) R)
  (z: ∀g,W g=g (a8 t i (xF t i) R))
  {L:(pr (Int×Int) (Tm×Int)->OS S)->Int->Tm->OS S} {N:(pr (Int×Int) (Tm×Int)->OS S)->Int->OS S}
  (B: ∀a r,hA defs n f (xF t i)= .ok (a,r)->hA defs n r (atR t i a)≠ .error 0-> ∃R',MA (hA defs n r (atR t i a)) R'/\ ∀I,L I (r:Int) (atR t i a)=I R')
  (E: ∀a r,hA defs n f (xF t i)= .ok (a,r)->hP defs n r t l≠ .error 0-> ∃R',MA (hP defs n r t l) R'/\ ∀I,N I (r:Int)=I R')
  (F:hP defs n f t (i::l)≠ .error 0):
  ∃R',MA (hP defs n f t (i::l)) R'/\ ∀I:pr (Int×Int) (Tm×Int)->OS S,(W fun r6=>pr.elim r6 (fun r6=>ab r6.2.1 (L I r6.2.2 r6.1) (N I r6.2.2)) fun e=>I (.bD (e.1,e.2)))=I R':=by
 simp only [z]
 obtain ⟨A,J,M⟩:=zu (defs:=defs) (n:=n) (f:=f) (t:=t) (i:=i) (l:=l)
 cases x:hA defs n f (xF t i) with
 |error e=>
  rw [x] at q
  obtain ⟨c,rfl⟩:=q
  rw [A e x]
  exact ⟨.bD (e,c),⟨c,rfl⟩,fun _=>rfl⟩
 |ok p=>
  obtain ⟨a,r⟩:=p
  rw [x] at q
  have q:R= .ok (a,(r:Int)):=q
  grind [oS,a8,pr.elim,n3,ae]
theorem aGi:JT oe:=⟨I2,by decide,by decide⟩
theorem Mq {t:Tm} (ft:Fm t) (i:Nat):JT (xF t i):=by
 unfold xF
 by_cases h:i<t.c.length
 ·have q:t.c.getD i oe∈t.c:=(xD rfl h).2
  have h1:=bY q
  have h2:=k_ q
  have z:ay t.c<=au t:=by
   obtain ⟨kd,n,nm,r,x,sys⟩:=t
   show ay x<=_
   rw [au];omega
  have:=ft.dep;have:=ft.dP
  exact ⟨ft.ok.ki q,by omega,by omega⟩
 grind [aGi]
theorem hS {defs:List Df} (hd:IE defs): ∀n,(∀f t,JT t->wa f (hA defs n f t))/\ ∀l f t,Fm t->wa f (hP defs n f t l):=by
 have hk:F3 4294970296:=Ao.f3
 have E: ∀n,(∀f t,JT t->wa f (hA defs n f t))-> ∀l f t,Fm t->wa f (hP defs n f t l):=by
  intro n x l
  induction l with
  |nil=>
   intro f t ft a r h
   grind [eT]
  |cons i l z=>
   intro f t ft a r h
   obtain ⟨L,F,I⟩:=zu (defs:=defs) (n:=n) (f:=f) (t:=t) (i:=i) (l:=l)
   cases A:hA defs n f (xF t i) with
   |error e=>grind
   |ok p=>
    obtain ⟨b,s⟩:=p
    obtain ⟨fb,hs⟩:=x f _ (Mq ft i) b s A
    cases hb:oS b (xF t i) with
    |true=>rw [F b s A hb] at h;obtain ⟨B,q2⟩:=z s t ft a r h;grind
    |false=>rw [I b s A hb] at h;obtain ⟨B,q2⟩:=x s _ (azV ft fb) a r h;grind
 intro n
 induction n with
 |zero=>
  grind [wa,cz]
 |succ n z=>
  have h1: ∀f t,JT t->wa f (hA defs (n+1) f t):=by
   intro f t jt a r h
   have h:cz (nf defs) re 220 (n+1) f t= .ok (a,r):=h
   rw [cz] at h
   split at h
   ·cases h
   rename_i c1
   split at h
   ·rename_i c2;exact z.2 _ f t ⟨jt.1,az1 c2.2⟩ a r h
   rename_i c2
   split at h
   ·cases h
   rename_i c3
   have M:(nf defs t).2.2=0:=Decidable.byContradiction fun q=>c1 ⟨q,c3⟩
   have J:(nf defs t).2.1=true:=by
    grind
   obtain ⟨B,q2⟩:=z.1 (f-1) _ (az0 (hd.isIn hk) jt.1 J).1.jt a r h
   grind
  grind
theorem aGI {defs:List Df} (hd:IE defs): ∀n k m,n<=m->4294970296+n<=k-> ∀f t,f<=100000->JT t->hA defs n f t≠ .error 0->
  ∃R,MA (hA defs n f t) R/\ ∀I:pr (Int×Int) (Tm×Int)->OS S,MV (EA k) k I defs m (f:Int) t=I R:=by
 intro n
 induction n with
 |zero=>grind [cz]
 |succ n ih=>
  intro k m hm ax f t hf jt h
  have O:F4 k:=by omega
  have hk:=O.f3
  obtain ⟨m,rfl⟩: ∃j,m=j+1:=⟨m-1,by omega⟩
  have hL:=ih k m (by omega) (by omega)
  change cz (nf defs) re 220 (n+1) f t≠_ at h
  change ∃R,MA (cz (nf defs) re 220 (n+1) f t) R/\_
  rw [cz] at h ⊢
  simp only [MV,qC,ag hk.fu,ar,aIB O (hd.isIn hk) (jt.isIn hk) (show (0:Int)<=(f:Int)/\(f:Int)<=100000 by omega)]
  by_cases c1:(nf defs t).2.2≠0/\f≠0
  ·have J:MQ defs t (f:Int)= .bD ((nf defs t).2.2,(f:Int)):=by
    grind [MQ]
   rw [if_pos c1,J]
   exact ⟨.bD ((nf defs t).2.2,(f:Int)),⟨_,rfl⟩,fun _=>rfl⟩
  have az: ¬((nf defs t).2.2≠0/\(0:Int)<(f:Int)):=fun q=>c1 ⟨q.1,by omega⟩
  rw [if_neg c1] at h ⊢
  by_cases c2:(nf defs t).2.1=false/\(nf defs t).2.2=0
  ·have J:MQ defs t (f:Int)= .ok (t,false,(f:Int)):=by
    grind [MQ]
   rw [if_pos c2] at h ⊢
   rw [J]
   have ft:Fm t:=⟨jt.1,az1 c2.2⟩
   have hK: ∀i z,z<=100000->hA defs n z (xF t i)≠ .error 0->i<t.c.length-> ∃R,MA (hA defs n z (xF t i)) R/\ ∀g:pr (Int×Int) (Tm×Bool×Int)->OS S,Nl (EA k) k t (i:Int) defs (z:Int) g=g (a8 t i (xF t i) R):=by
    intro i z E F hi
    obtain ⟨j,rfl⟩: ∃j,k=j+1:=⟨k-1,by omega⟩
    obtain ⟨R,B,q2⟩:=ih j j (by omega) (by omega) z (xF t i) E (Mq ft i) F
    have fR: ∀a c,R= .ok (a,c)->Fm a:=by
     intro a c e
     cases M:hA defs n z (xF t i) with
     |error e'=>rw [M] at B;obtain ⟨c',B⟩:=B;grind
     |ok p=>
      rw [M] at B
      have B:R= .ok (p.1,(p.2:Int)):=B
      rw [B] at e
      injection e with e;injection e with e1 e2
      exact e1▸(((hS hd n).1 z _ (Mq ft i)) p.1 p.2 M).1
    refine ⟨R,B,fun g=> ?_⟩
    have hh: ∀g,EA (j+1) (xF t i) defs (z:Int) g=g R:=fun g=>by
     rw [<-q2 g]
     simp only [EA,xw,ar]
    rw [aIM (hd:=EA (j+1)) hk ft (bV:=xF t i) (xD rfl hi).1 (R:=R) hh fR g]
    cases R<;>rfl
   have hE: ∀z,∃R',MA (hP defs n z t []) R'/\ ∀I:pr (Int×Int) (Tm×Int)->OS S,I (.ok (t,(z:Int)))=I R':=fun z=>by
    simp_all [MA,eT]
   have ao: ∀i z a r,hA defs n z (xF t i)= .ok (a,r)->Fm a/\r<=z:=fun i z a r h=>((hS hd n).1 z _ (Mq ft i)) a r h
   have F: ∀i l z,hP defs n z t (i::l)≠ .error 0->hA defs n z (xF t i)≠ .error 0:=fun i l z h q=>h (zu.1 0 q)
   have T: ∀i z,z<=100000-> ∀a r,hA defs n z (xF t i)= .ok (a,r)->hA defs n r (atR t i a)≠ .error 0->
     ∃R',MA (hA defs n r (atR t i a)) R'/\ ∀I:pr (Int×Int) (Tm×Int)->OS S,MV (EA k) k I defs m (r:Int) (atR t i a)=I R':=
    fun i z E a r M hn=>hL r _ (by grind) (azV ft (ao i z a r M).1) hn
   have W: ∀z,z<=100000->hP defs n z t (if t.k=14/\(kd0 t).k=23 then [1] else [])≠ .error 0->
     ∃R',MA (hP defs n z t (if t.k=14/\(kd0 t).k=23 then [1] else [])) R'/\ ∀I:pr (Int×Int) (Tm×Int)->OS S,
      (ab (t.k==14) ((af t.c 0).bind fun x8=>ab (x8.k==23) (Nl (EA k) k t 1 defs (z:Int) fun A=>pr.elim A (fun A=>ab A.2.1 (MV (EA k) k I defs m A.2.2 A.1) (I (.ok (t,A.2.2)))) fun e=>I (.bD (e.1,e.2))) (I (.ok (t,(z:Int))))) (I (.ok (t,(z:Int)))))=I R':=by
    intro z E h
    by_cases Y:t.k=14
    ·have hl:t.c.length=2:=E5 ft Y rfl
     have hg:af t.c 0=some (kd0 t):=(xD (i:=0) hl (by omega)).1
     simp only [Y,hg,p9,show ((14:Int)==14)=true from rfl,ae,true_and] at h ⊢
     by_cases ad:(kd0 t).k=23
     ·rw [if_pos ad] at h ⊢
      simp only [ad,show ((23:Int)==23)=true from rfl,ae]
      obtain ⟨R,B,q2⟩:=hK 1 z E (F 1 [] z h) (by omega)
      exact va (L:=fun I r x=>MV (EA k) k I defs m r x) (N:=fun I r=>I (.ok (t,r))) B q2 (T 1 z E) (fun a r _ _=>hE r) h
     simp_all [n3,beq_false_of_ne]
    simp_all [n3,beq_false_of_ne]
   have hM:0<=Il t->(Il t).toNat<t.c.length:=by
    intro h0
    have a6:=ft.nk
    unfold Il hZ at h0 ⊢
    rw [if_neg (by omega)] at h0 ⊢
    split at h0
    ·rename_i q
     have:0<ct t.k:=by rcases q with q|q|q|q|q|q|q<;>rw [q]<;>decide
     omega
    ·rename_i q
     rw [if_neg q]
     split at h0
     ·rename_i q2
      have:3<ct t.k:=by rw [q2];decide
      omega
     ·rename_i q2
      rw [if_neg q2]
      split at h0
      ·rename_i q3
       have:4<ct t.k:=by rw [q3];decide
       omega
      ·omega
   change eT (nf defs) re 220 n f t (re t)≠_ at h
   simp only [pr.elim,n3,aIs hk]
   unfold re at h ⊢
   by_cases c:0<=Il t
   ·rw [if_pos c] at h ⊢
    have hi:=hM c
    obtain ⟨R,B,q2⟩:=hK (Il t).toNat f hf (F _ _ f h) hi
    have hc:(((Il t).toNat:Nat):Int)=Il t:=by omega
    rw [hc] at q2
    simp only [decide_eq_true (show Il t>=0 from c),ae]
    exact va (L:=fun I r x=>MV (EA k) k I defs m r x) (N:=fun I r=>ab (t.k==14) ((af t.c 0).bind fun x8=>ab (x8.k==23) (Nl (EA k) k t 1 defs r fun A=>pr.elim A (fun A=>ab A.2.1 (MV (EA k) k I defs m A.2.2 A.1) (I (.ok (t,A.2.2)))) fun e=>I (.bD (e.1,e.2))) (I (.ok (t,r)))) (I (.ok (t,r)))) B q2 (T _ f hf) (fun a r M hn=>W r (by grind) hn) h
   ·rw [if_neg c] at h ⊢
    simp only [decide_eq_false (show ¬(Il t>=0) from c),n3]
    exact W f hf h
  rw [if_neg c2] at h ⊢
  by_cases c3:f=0
  ·have J:MQ defs t (f:Int)= .bD (220,(f:Int)):=by
    grind [MQ]
   rw [if_pos c3,J]
   exact ⟨.bD (220,(f:Int)),⟨_,rfl⟩,fun _=>rfl⟩
  rw [if_neg c3] at h ⊢
  have J:MQ defs t (f:Int)= .ok ((nf defs t).1,true,(f:Int)-1):=by
   grind [MQ]
  have e0:(nf defs t).2.2=0:=Decidable.byContradiction fun q=>c1 ⟨q,c3⟩
  have e1:(nf defs t).2.1=true:=by
   grind
  obtain ⟨R,B,q2⟩:=hL (f-1) _ (by omega) (az0 (hd.isIn hk) jt.1 e1).1.jt h
  refine ⟨R,B,fun I=> ?_⟩
  rw [<-q2 I,show ((f-1:Nat):Int)=(f:Int)-1 by omega,J]
  rfl
end
section
variable {st:Tm->Tm×Bool×Int} {pl:Tm->List Nat} {eF:Int}
theorem aF7: ∀ (n:Nat),(∀f t a r,cz st pl eF n f t= .ok (a,r)->r<=f/\(r=f->a=t))/\
  ∀ (l:List Nat) f t a r,eT st pl eF n f t l= .ok (a,r)->r<=f/\(r=f->a=t):=by
 have hP: ∀n,(∀f t a r,cz st pl eF n f t= .ok (a,r)->r<=f/\(r=f->a=t))-> ∀ (l:List Nat) f t a r,eT st pl eF n f t l= .ok (a,r)->r<=f/\(r=f->a=t):=by
  intro n hA l
  induction l<;>grind [eT]
 intro n
 induction n<;>grind [cz]
end
section
variable {S:Type} {k:Nat}
theorem aHf {t:Tm} (ft:Fm t) {i:Nat} (h:i∈re t):i<t.c.length:=by
 have z:=ft.nk
 unfold re at h
 rcases xO.1 h with h|h
 ·split at h
  ·rename_i x
   obtain rfl:i=(Il t).toNat:=by grind
   unfold Il hZ at x ⊢
   rw [if_neg (by omega)] at x ⊢
   split at x
   ·rename_i q
    have:0<ct t.k:=by rcases q with q|q|q|q|q|q|q<;>rw [q]<;>decide
    omega
   ·rename_i q
    rw [if_neg q]
    split at x
    ·rename_i q2
     have:3<ct t.k:=by rw [q2];decide
     omega
    ·rename_i q2
     rw [if_neg q2]
     split at x
     ·rename_i A
      have:4<ct t.k:=by rw [A];decide
      omega
     ·omega
  simp_all
 ·split at h
  ·rename_i x
   obtain rfl:i=1:=by grind
   have:t.c.length=2:=E5 ft x.1 rfl
   omega
  simp_all
theorem aGH {t:Tm} {i:Nat} (h:i<t.c.length):am (xF t i)+1<=am t:=by
 have q:t.c.getD i oe∈t.c:=(xD rfl h).2
 exact bY q
theorem aFK {defs:List Df} (hd:IE defs): ∀n f t,JT t->f*301+am t+1<=n->hA defs n f t≠ .error 0:=by
 intro n
 induction n with
 |zero=>simp
 |succ n B=>
  intro f t jt hn h
  have h:cz (nf defs) re 220 (n+1) f t= .error 0:=h
  rw [cz] at h
  split at h
  ·grind
  rename_i c1
  split at h
  ·rename_i c2
   have ft:Fm t:=⟨jt.1,az1 c2.2⟩
   have E:=jt.2.1
   have key: ∀l:List Nat,(∀i∈l,i<t.c.length)-> ∀x,x<=f->hP defs n x t l≠ .error 0:=by
    intro l
    induction l with
    |nil=>
     grind [eT]
    |cons i l F=>
     intro hl x z q
     have W:=aGH (hl i (by simp))
     have Y:x*301<=f*301:=HV _ z
     have I:=B x (xF t i) (Mq ft i) (by omega)
     obtain ⟨p1,p2,J⟩:=zu (defs:=defs) (n:=n) (f:=x) (t:=t) (i:=i) (l:=l)
     cases A:hA defs n x (xF t i) with
     |error e=>grind
     |ok p=>
      obtain ⟨b,s⟩:=p
      obtain ⟨fb,hs⟩:=(hS hd n).1 x _ (Mq ft i) b s A
      cases hb:oS b (xF t i) with
      |true=>grind
      |false=>
       rw [J b s A hb] at q
       have L:s≠x:=fun e=>by
        have:=((aF7 n).1 _ _ _ _ A).2 e
        grind [oS]
       have M:=azV (i:=i) ft fb
       have:=M.2.1
       grind
   grind [aHf]
  rename_i c2
  split at h
  ·grind
  rename_i c3
  have e0:(nf defs t).2.2=0:=Decidable.byContradiction fun q=>c1 ⟨q,c3⟩
  have O:(nf defs t).2.1=true:=by
   grind
  have T:=(az0 (hd.isIn Ao.f3) jt.1 O).1.jt
  have:=T.2.1
  grind
def nH:Nat:=40000000
theorem aAZ {defs:List Df} (hd:IE defs) {f:Nat} (hf:f<=100000) {t:Tm} (jt:JT t):hA defs nH f t≠ .error 0:=
 aFK hd nH f t jt (by have:=jt.2.1;unfold nH;omega)
noncomputable def hdQ (defs:List Df) (f:Nat) (t:Tm):Tm×Int×Int:=match hA defs nH f t with
 | .ok p=>(p.1,(p.2:Int),0)
 | .error e=>(oe,0,e)
noncomputable def Z0 (defs:List Df) (t:Tm) (f:Int):Tm×Int×Int:=
 if bw t≠0 then (oe,0,bw t) else if f<0\/100000<f then (oe,0,2) else hdQ defs f.toNat t
end
section
def H3 (t:Tm):Except Int Tm:=if t.k=5 then .ok (kd0 t) else bE (wA 1 0 t) fun x=> .ok (dS 6 [x,vN 0])
def FF (t:Tm) (kd:Int):Tm:=if t.k=8 then t.c.getD (kd-9).toNat oe else dS kd [t]
def KT (t p:Tm):Except Int Tm:=if t.k=12 then .ok (kd0 t) else
 bE (wv 0 [] (kd0 p)) fun l=>bE (wv 0 [⟨0,0⟩] (kd0 p)) fun r=>bE (wA 0 1 t) fun x=>bE (wA 0 1 l) fun q=>bE (wA 0 1 r) fun z=> .ok (fG [⟨1,0⟩] x q z)
def II (r:LC):List Int->Tm->Except Int Tm
 |[],t=> .ok t
 |i::l,t=>bE (tZ (s9 i r false) (s9 i r true) 0 t) fun x=>II r l x
def L4 (t:Tm) (c:Cl):Except Int Tm:=if bw t≠0 then .error (bw t) else if fE c=false\/bS c=true then .error 2 else
 bE (II [⟨0,0⟩] (Iz c.pos) t) fun x=>II [] (Iz c.neg) x
def Ht:LC->LB->Except Int (LC)
 |h,[]=> .ok h
 |h,b::l=>if (EQ h b.f).2=0 then Ht (EQ h b.f).1 l else .error (EQ h b.f).2
def Qt (c:Cl) (p:Tm×Tm):It:=match L4 p.1 c with
 | .error e=> .err e
 | .ok x=>match L4 p.2 c with
  | .error e=> .err e
  | .ok y=> .ask x y
def M9 (kd:Int) (c:Cl):Cl×Int:=if kd=15 then dw c 0 1 else (c,0)
def Ib (kd:Int) (f:LC) (a b:LT):List It:=f.flatMap fun c=>if (M9 kd c).2=0 then (a.zip b).map (Qt (M9 kd c).1) else [.err (M9 kd c).2]
def Mm (f g:LC):LC×Int:=if cV f&&cV g then M3 f g else ([],2)
def ln (kd:Int) (x y:Br Tm):List It:=if (Mm x.f y.f).2=0 then Ib kd (Mm x.f y.f).1 x.c y.c else [.err (Mm x.f y.f).2]
noncomputable def Mp (kd:Int) (a b:LB):List It:=match Ht [] a with
 | .error e=>[.err e]
 | .ok f=>match Ht [] b with
  | .error e=>[.err e]
  | .ok g=>if f≠g then [.no] else if a.map (·.f)=b.map (·.f) then (a.zip b).flatMap fun p=>Ib kd p.1.f p.1.c p.2.c
   else a.flatMap fun x=>b.flatMap fun y=>ln kd x y
noncomputable def ee (x y:Tm):List It:=
 if x.k=5\/y.k=5 then (match H3 x with
  | .error e=>[.err e]
  | .ok f=>match H3 y with
   | .error e=>[.err e]
   | .ok g=>[.ask f g])
 else if x.k=8\/y.k=8 then [.ask (FF x 9) (FF y 9),.ask (FF x 10) (FF y 10)]
 else if x.k=12 then (match KT y x with
  | .error e=>[.err e]
  | .ok g=>[.ask (kd0 x) g])
 else if y.k=12 then (match KT x y with
  | .error e=>[.err e]
  | .ok g=>[.ask g (kd0 y)])
 else if x.k≠y.k\/x.n≠y.n\/x.name≠y.name\/x.r≠y.r then [.no]
 else if x.k=13 then [.ask (kd0 x) (kd0 y)]
 else (x.c.zip y.c).map (fun p=> .ask p.1 p.2)++Mp x.k x.s y.s
def aNg (i:It):Prop:=(∃c,i= .ask c c)\/ ∃e,i= .err e
theorem o6 {α:Type}: ∀ {l:List α} {p:α×α},p∈l.zip l->p.1=p.2:=by
 intro l
 induction l with
 |nil=>simp
 |cons x l q=>
  grind [List.zip_cons_cons]
theorem aPo (c:Cl) (t:Tm):aNg (Qt c (t,t)):=by
 unfold Qt
 dsimp only
 cases L4 t c with
 |error e=>exact .inr ⟨e,rfl⟩
 |ok x=>exact .inl ⟨x,rfl⟩
theorem aPp {kd:Int} {f:LC} {a:LT}: ∀i∈Ib kd f a a,aNg i:=by
 intro i q
 obtain ⟨c,_,q⟩:=List.mem_flatMap.1 q
 split at q
 ·obtain ⟨p,hp,rfl⟩:=wD.1 q
  grind [o6,aPo]
 ·obtain rfl:i=_:=by simpa using q
  exact .inr ⟨_,rfl⟩
theorem aNE: ∀x,∀i∈ee x x,aNg i:=by
 intro x i hi
 unfold ee at hi
 split at hi
 ·cases hf:H3 x with
  |error e=>rw [hf] at hi;obtain rfl:i=_:=by simpa using hi
            exact .inr ⟨_,rfl⟩
  |ok f=>rw [hf] at hi;obtain rfl:i=_:=by simpa using hi
         exact .inl ⟨_,rfl⟩
 split at hi
 ·rcases xB.1 hi with rfl|hi
  ·exact .inl ⟨_,rfl⟩
  ·obtain rfl:i=_:=by simpa using hi
   exact .inl ⟨_,rfl⟩
 split at hi
 ·rename_i q
  unfold KT at hi
  rw [if_pos q] at hi
  obtain rfl:i=_:=by simpa using hi
  exact .inl ⟨_,rfl⟩
 rename_i q
 rw [if_neg (by simp)] at hi
 split at hi
 ·obtain rfl:i=_:=by simpa using hi
  exact .inl ⟨_,rfl⟩
 rcases xO.1 hi with hi|hi
 ·obtain ⟨p,hp,rfl⟩:=wD.1 hi
  rw [o6 hp]
  exact .inl ⟨_,rfl⟩
 ·unfold Mp at hi
  cases hf:Ht [] x.s with
  |error e=>rw [hf] at hi;obtain rfl:i=_:=by simpa using hi
            exact .inr ⟨_,rfl⟩
  |ok f=>
   rw [hf] at hi
   dsimp only at hi
   rw [if_neg (by simp),if_pos rfl] at hi
   obtain ⟨p,hp,hi⟩:=List.mem_flatMap.1 hi
   grind [o6,aPp]
variable {S:Type} {k:Nat}
theorem aOa {i:Int} {r:LC} {t x:Tm} (h:tZ (s9 i r false) (s9 i r true) 0 t= .ok x):Wk t x:=
 Uj (fun d f g hf h=>rB hf h) (fun d f g hf h=>rB hf h) (fun d=>QI) t 0 x h
theorem aNJ (hk:F3 k) (I:Tm×Int->OS S) (q:Tm->Int->OS S) {x8:Vd} (L:RF x8.row) {c:Cl} {r5 r6:LC} {v:Int} {A:List Int} (B: ∀i∈A,0<=i/\i<24) (hl:A.length<=24):
  ∀ (r p:List Int) (m:Nat) (t:Tm),A=p++r->r.length<m->pf t->q7 t->am t<=200->
   SS k I q x8 c r5 r6 v A m t (p.length:Int)=eE (II x8.row r t) (fun x=>q x (oa .i64 (v+1))) fun e=>I (oe,e):=by
 intro r
 induction r with
 |nil=>
  intro p m t h E _ _ _
  obtain ⟨m,rfl,z⟩:=pw E
  simp only [SS,Z1,xu h,n3,ar,II,aP]
 |cons i r M=>
  intro p m t h E F ro dt
  obtain ⟨m,rfl,z⟩:=pw E
  obtain ⟨O,T,W,Y⟩:=qF h (by omega)
  have hi:=B i (by rw [h];simp)
  simp only [SS,Z1,O,ae,T,p9,ag hk.fu,ar,DF,DG,DH,W]
  rw [ahW hi L t F ro _ (hk.fd (by omega)) (by omega) (by omega),II,AS]
  cases J:tZ (s9 i x8.row false) (s9 i x8.row true) 0 t with
  |error e=>
   have:=jK jD jD t J
   show ab (!(e==0)) _ _=_
   rw [dj (show e≠0 by omega),sQ,ae];rfl
  |ok x=>
   obtain ⟨w1,w2,w3,w4⟩:=aOa J
   obtain ⟨q1,q2⟩:=w4 F ro
   exact M (p++[i]) m x Y z q1 q2 (by omega)
theorem aNk {row:LC}: ∀ {l:List Int} {t x:Tm},pf t->q7 t->II row l t= .ok x->pf x/\q7 x/\am x<=am t/\au x<=au t:=by
 intro l
 induction l with
 |nil=>intro t x q ro h;rw [II] at h;injection h with h;subst h;exact ⟨q,ro,xq _,xq _⟩
 |cons i l z=>
  intro t x q ro h
  rw [II] at h
  obtain ⟨y,h1,h⟩:=i8 h
  obtain ⟨E,F,I,A⟩:=aOa h1
  obtain ⟨B,q2⟩:=A q ro
  obtain ⟨z1,z2,z3,z4⟩:=z B q2 h
  exact ⟨z1,z2,by omega,by omega⟩
theorem aNU {s:Int}:(∀i∈ra s,0<=i/\i<24)/\(ra s).length<=24:=by
 unfold ra
 refine ⟨fun i q=> ?_, ?_⟩
 ·obtain ⟨j,hj,rfl⟩:=wD.1 q
  have:=(List.mem_filter.1 hj).1
  have:=List.mem_range.1 this
  exact ⟨Int.natCast_nonneg _,by show (j:Int)<24;omega⟩
 ·rw [List.length_map]
  exact bu (List.length_filter_le _ _) (by rw [List.length_range];omega)
theorem aN_ {t x:Tm} {c:Cl} (q:pf t) (h:L4 t c= .ok x):JT x:=by
 unfold L4 at h
 split at h
 ·cases h
 rename_i z
 split at h
 ·cases h
 have ft:Fm t:=⟨q,Decidable.not_not.1 z⟩
 obtain ⟨y,h1,h⟩:=i8 h
 obtain ⟨a1,a2,a3,a4⟩:=aNk q ft.rows h1
 obtain ⟨A,B,E,F⟩:=aNk a1 a2 h
 have:=ft.dep;have:=ft.dP
 exact ⟨A,by omega,by omega⟩
theorem aNX {row:LC}: ∀ {l:List Int} {t:Tm} {e:Int},II row l t= .error e->0<e/\e<=1000:=by
 intro l
 induction l with
 |nil=>intro t e h;rw [II] at h;cases h
 |cons i l q=>
  intro t e h
  rw [II] at h
  rcases be h with h|⟨_,_,h⟩
  ·exact jK jD jD t h
  ·exact q h
theorem w2 {t:Tm} {c:Cl} {e:Int} (h:L4 t c= .error e):e≠0:=by
 unfold L4 at h
 split at h
 ·rename_i q;injection h with h;subst h;exact q
 split at h
 ·injection h with h;subst h;decide
 rcases be h with h|⟨_,_,h⟩
 ·have:=aNX h;omega
 ·have:=aNX h;omega
theorem aN2 (hk:F3 k) {t:Tm} (q:In k t) {c:Cl} (hc:aX c) (I:Tm×Int->OS S):W3 k t c I=I (tE (L4 t c)):=by
 have B:4294968296<=k:=hk
 simp only [W3,ax,ag hk.fu,ar,zy q.1 q.2.1 q.dep]
 unfold L4
 by_cases z:bw t=0
 case neg=>rw [dj z,sQ,ae,if_pos z];rfl
 rw [z,show (!((0:Int)==0))=false from rfl,n3,if_neg (by simp),Rg hk.fu hc]
 cases h1:fE c with
 |false=>rw [sQ,ae,if_pos (.inl rfl)];rfl
 |true=>
 rw [uX,n3,Rf hk.fu hc]
 cases h2:bS c with
 |true=>rw [ae,if_pos (.inr rfl)];rfl
 |false=>
 have ft:Fm t:=⟨q.1,z⟩
 have A:=ft.dep
 rw [n3,if_neg (by simp),vU t q.1 _ q.2.1]
 simp only [Nu,tK]
 obtain ⟨m,E⟩: ∃m,k=m+3:=⟨k-3,by omega⟩
 obtain ⟨m1,m2⟩:=aNU (s:=c.pos)
 obtain ⟨m3,m4⟩:=aNU (s:=c.neg)
 have F: ∀x,KV k I c [⟨0,0⟩] [] (m+1) x 2=I (x,0):=fun x=>by
  simp only [KV,xf]
  rw [show decide ((2:Int)<([(Vd.mk c.pos [⟨0,0⟩]),(Vd.mk c.neg [])].length:Int))=false from rfl,n3,ar]
 have J: ∀x,pf x->q7 x->am x<=200->KV k I c [⟨0,0⟩] [] (m+2) x 1=eE (II [] (Iz c.neg) x) (fun y=>I (y,0)) fun e=>I (oe,e):=fun x L rx M=>by
  rw [KV]
  simp only [xf]
  rw [show decide ((1:Int)<([(Vd.mk c.pos [⟨0,0⟩]),(Vd.mk c.neg [])].length:Int))=true from rfl,ae,show af [(Vd.mk c.pos [⟨0,0⟩]),(Vd.mk c.neg [])] 1=some (Vd.mk c.neg []) from rfl,p9,p9]
  simp only [vz,ar]
  have:=aNJ (v:=1) (x8:=Vd.mk c.neg []) hk I (KV k I c [⟨0,0⟩] [] (m+1)) rA (c:=c) (r5:=[⟨0,0⟩]) (r6:=[]) m3 m4 (ra c.neg) [] k x rfl (by omega) L rx M
  refine o0 this ?_
  rw [<-Ny hc.2]
  exact Dc (fun y _=>F y) fun e _=>rfl
 have O:KV k I c [⟨0,0⟩] [] (m+3) t 0=I (tE (bE (II [⟨0,0⟩] (Iz c.pos) t) fun x=>II [] (Iz c.neg) x)):=by
  rw [KV]
  simp only [xf]
  rw [show decide ((0:Int)<([(Vd.mk c.pos [⟨0,0⟩]),(Vd.mk c.neg [])].length:Int))=true from rfl,ae,show af [(Vd.mk c.pos [⟨0,0⟩]),(Vd.mk c.neg [])] 0=some (Vd.mk c.pos [⟨0,0⟩]) from rfl,p9,p9]
  simp only [vz,ar]
  have:=aNJ (v:=0) (x8:=Vd.mk c.pos [⟨0,0⟩]) hk I (KV k I c [⟨0,0⟩] [] (m+2)) Qz (c:=c) (r5:=[⟨0,0⟩]) (r6:=[]) m1 m2 (ra c.pos) [] k t rfl (by omega) q.1 ft.rows A
  refine o0 this ?_
  rw [Jl _ I,AS,<-Ny hc.1]
  refine Dc (fun y T=> ?_) fun e _=>rfl
  obtain ⟨a1,a2,a3,a4⟩:=aNk q.1 ft.rows T
  exact J y a1 a2 (by omega)
 have: ∀n,n=m+3->KV k I c [⟨0,0⟩] [] n t 0=KV k I c [⟨0,0⟩] [] (m+3) t 0:=fun n h=>by rw [h]
 exact (this k E).trans O
theorem aOY (hk:F3 k) (I:LC×Int->OS S) {l:LB} (hl:l.length<1073741824) (hb: ∀b∈l,aq b.f/\b.f.length<1073741824):
  ∀ (r p:LB) (m:Nat) (h:LC),l=p++r->r.length<m->aq h->h.length<1073741824->l9 k I l m (p.length:Int) h=eE (Ht h r) (fun f=>I (f,0)) fun e=>I ([],e):=by
 intro r
 induction r with
 |nil=>
  intro p m f h A _ _
  obtain ⟨m,rfl,z⟩:=pw A
  simp only [l9,ch,xu h,n3,Ht,aP]
 |cons x r F=>
  intro p m f h A of J
  obtain ⟨m,rfl,z⟩:=pw A
  obtain ⟨L,M,O,T⟩:=qF h (by omega)
  obtain ⟨B,W⟩:=hb x (by rw [h];simp)
  simp only [l9,ch,L,ae,M,p9,ag hk.fu,aH8 hk.fu of B J W,O]
  rw [Ht]
  by_cases q:(EQ f x.f).2=0
  ·rw [q,show (!((0:Int)==0))=false from rfl,n3,if_pos rfl]
   have E:aq (EQ f x.f).1/\(EQ f x.f).1.length<1073741824:=by
    unfold EQ at q ⊢
    split
    ·rename_i c
     rw [if_pos c] at q
     have:=Lc of B q
     exact ⟨this.2,by have:=this.len;omega⟩
    ·exact ⟨fun c hc=>(by cases hc),by simp⟩
   exact F (p++[x]) m _ T z E.1 E.2
  ·rw [dj q,sQ,ae,if_neg q];rfl
theorem aN7 (hk:F3 k) {l:LB} (hl:l.length<1073741824) (hb: ∀b∈l,aq b.f/\b.f.length<1073741824) (I:LC×Int->OS S):Lo k l I=eE (Ht [] l) (fun f=>I (f,0)) fun e=>I ([],e):=by
 have q:4294968296<=k:=hk
 simp only [Lo,aNs]
 exact aOY hk I hl hb l [] k [] rfl (by omega) (fun c hc=>by cases hc) (by simp)
theorem p4: ∀ {l:LB} {h:LC} {e:Int},Ht h l= .error e->e≠0:=by
 intro l
 induction l with
 |nil=>intro h e q;rw [Ht] at q;cases q
 |cons x l z=>
  intro h e q
  rw [Ht] at q
  split at q
  ·exact z q
  ·rename_i c;injection q with q;subst q;exact c
theorem aOD: ∀ {l:LB} {h f:LC},h.length<=64->Ht h l= .ok f->f.length<=64:=by
 intro l
 induction l with
 |nil=>intro h f z q;rw [Ht] at q;injection q with q;subst q;exact z
 |cons x l A=>
  intro h f z q
  rw [Ht] at q
  split at q
  ·refine A ?_ q
   unfold EQ
   split
   ·exact LF _
   ·simp
  ·cases q
theorem aO2 {f g:LC} (hf:aq f) (q:aq g) (h:(Mm f g).2=0):zp (Mm f g).1:=by
 unfold Mm at h ⊢
 split
 ·rename_i c;rw [if_pos c] at h;exact vo hf q h
 ·rename_i c;rw [if_neg c] at h;cases h
theorem aO9 (hk:F3 k) {f g:LC} (hf:aq f) (q:aq g) (h1:f.length<1073741824) (h2:g.length<1073741824) (I:LC×Int->OS S):L1 k f g I=I (Mm f g):=by
 simp only [L1,ag hk.fu,aH9 hk.fu (l:=[f,g]) (by intro x z;simp at z;rcases z with rfl|rfl;exact ⟨hf,by omega⟩;exact ⟨q,by omega⟩) (by simp)]
 have e:[f,g].all cV=(cV f&&cV g):=by simp
 unfold Mm
 rw [e]
 cases h:(cV f&&cV g) with
 |false=>rfl
 |true=>
  rw [if_pos rfl,if_pos rfl,show (!((0:Int)==0))=false from rfl,n3]
  rw [pX] at h
  have A:=((oB hf).1 h.1).1.len
  have B:=((oB q).1 h.2).1.len
  rw [ajg hk.fu hf q (by omega) (by omega)]
theorem aOX (hk:F3 k) (I:Bool->OS S) {a b:LB} (ha:a.length<1073741824) (hb: ∀x∈a,x.f.length<1073741824):
  ∀ (r p q s:LB) (m:Nat),a=p++r->b=q++s->p.length=q.length->r.length=s.length->r.length<m->mx k I b a m (p.length:Int)=I (decide (r.map (·.f)=s.map (·.f))):=by
 intro r
 induction r with
 |nil=>
  intro p q s m h h' hp hs A
  obtain ⟨m,rfl,z⟩:=pw A
  obtain rfl:s=[]:=Iy.1 hs.symm
  simp only [mx,xk,xu h,n3];rfl
 |cons x r E=>
  intro p q s m h h' hp hs A
  obtain ⟨m,rfl,z⟩:=pw A
  cases s with
  |nil=>cases hs
  |cons y s=>
  obtain ⟨F,J,L,M⟩:=qF h (by omega)
  have B:b.length<4611686018427387904:=by
   have:a.length=b.length:=by rw [h,h'];simp [hp];simpa using hs
   omega
  obtain ⟨_,f2,_,f4⟩:=qF h' B
  rw [<-hp] at f2
  simp only [mx,xk,F,ae,J,f2,p9,ag hk.fu,aNc,me hk.fu (show x.f.length<4294967296 by have:=hb x (by rw [h];simp);omega),L]
  by_cases hf:x.f=y.f
  ·rw [decide_eq_true hf,uX,n3,E (p++[x]) (q++[y]) s m M f4 (by simp [hp]) (by simpa using hs) z]
   congr 1
   simp [hf]
  ·rw [decide_eq_false hf,sQ,ae,decide_eq_false (fun h=>by simp at h;exact hf h.1)]
theorem aO8 (hk:F3 k) {a b:LB} (ha:a.length<1073741824) (hb: ∀x∈a,x.f.length<1073741824) (I:Bool->OS S):y' k a b I=I (decide (a.map (·.f)=b.map (·.f))):=by
 have z:4294968296<=k:=hk
 simp only [y',qk]
 by_cases h:a.length=b.length
 ·rw [show ((a.length:Int)==(b.length:Int))=true from by simp [h],uX,n3]
  exact aOX hk I ha hb a [] [] b k rfl rfl rfl h (by omega)
 ·rw [show ((a.length:Int)==(b.length:Int))=false from by simp;omega,sQ,ae,decide_eq_false fun q=>h (by simpa using congrArg EO q)]
theorem aN3 (hk:F3 k) (t:Tm) (c:Int) (I:pr Int Tm->OS S):pq k t c I=I (if c=0 then .ok t else .bD c):=by
 simp only [pq,Sh,ag hk.fu,ar]
 by_cases h:c=0
 ·rw [h];rfl
 ·rw [dj h,if_neg h];rfl
theorem aN4 (hk:F3 k) {t:Tm} (ft:Fm t) (I:pr Int Tm->OS S):SV k t I=I (pE (H3 t)):=by
 simp only [SV,ag hk.fu,ar,Ns,zc]
 unfold H3
 by_cases q:t.k=5
 ·rw [q,show ((5:Int)==5)=true from rfl,ae,if_pos rfl,show af t.c 0=some (kd0 t) from (xD (n:=1) (i:=0) (E5 ft q rfl) (by omega)).1];rfl
 ·rw [beq_false_of_ne q,n3,if_neg q,E8 hk (fun _=>ft.isIn hk) (by omega) (by omega)]
  simp only [aN3 hk]
  cases h:wA 1 0 t with
  |ok x=>rfl
  |error e=>
   have:=NA e h
   show pr.elim (if e=0 then _ else _) _ _=_
   rw [if_neg (show e≠0 by omega)];rfl
theorem aNB {t:Tm} {e:Int} (h:H3 t= .error e):e≠0:=by
 unfold H3 at h
 split at h
 ·cases h
 rcases be h with h|⟨_,_,h⟩
 ·have:=NA e h;omega
 ·cases h
theorem aNi {n:Nat} {t:Tm} (h:Sm n t) (hn:n<=1000000) (hd:am t<=300):JT t:=⟨h.ok,hd,by have:=h.dP;omega⟩
theorem aPf:Fm (vN 0):=⟨okv 0 (by omega),by decide⟩
theorem aNC {t x:Tm} (ft:Fm t) (h:H3 t= .ok x):JT x:=by
 unfold H3 at h
 split at h
 ·rename_i z
  injection h with h;subst h
  exact (ft.bV (xD (n:=1) (i:=0) (E5 ft z rfl) (by omega)).2).jt
 ·obtain ⟨y,h1,h⟩:=i8 h
  injection h with h;subst h
  have fy:Fm y:=mD (by omega) (IH ft.ok h1).1 (IH ft.ok h1).2
  have v0:=aPf
  have q:=Ih (kd:=6) (by omega) (d:=201) (n:=20000) ⟨fy.sm,by have:=fy.dep;omega⟩ ⟨v0.sm,by have:=v0.dep;omega⟩ (by omega)
  exact aNi q.1 (by omega) (by have:=q.2;omega)
theorem e4 (hk:F3 k) {t:Tm} (ft:Fm t) {kd:Int} (x:kd=9\/kd=10) (I:Tm->OS S):MI k t kd I=I (FF t kd):=by
 simp only [MI,ag hk.fu,ar,zc]
 unfold FF
 by_cases q:t.k=8
 ·have hl:=E5 ft q (n:=2) rfl
  rw [q,show ((8:Int)==8)=true from rfl,ae,if_pos rfl]
  rcases x with rfl|rfl
  ·rw [show oa .i64 ((9:Int)-9)=((0:Nat):Int) from rfl,(xD hl (i:=0) (by omega)).1];rfl
  ·rw [show oa .i64 ((10:Int)-9)=((1:Nat):Int) from rfl,(xD hl (i:=1) (by omega)).1];rfl
 ·rw [beq_false_of_ne q,n3,if_neg q];rfl
theorem ed {t:Tm} (ft:Fm t) {kd:Int} (q:kd=9\/kd=10):JT (FF t kd):=by
 unfold FF
 split
 ·exact Mq ft (kd-9).toNat
 ·have h1:=Mj (kd:=kd) (n:=20000) (by omega) ⟨ft.sm,ft.dep⟩ (by omega)
  exact aNi h1.1 (by omega) (by have:=h1.2;omega)
theorem aN6 (hk:F3 k) {t p:Tm} (ft:Fm t) (fp:Fm p) (A:p.k=12) (I:pr Int Tm->OS S):fF k t p I=I (pE (KT t p)):=by
 have hl:=E5 fp A (n:=1) rfl
 obtain ⟨g0,m0⟩:=xD hl (i:=0) (by omega)
 have g0:af p.c 0=some (kd0 p):=g0
 have f0:Fm (kd0 p):=fp.bV m0
 simp only [fF,ag hk.fu,ar,tO]
 unfold KT
 by_cases h:t.k=12
 ·rw [h,show ((12:Int)==12)=true from rfl,ae,if_pos rfl,show af t.c 0=some (kd0 t) from (xD (n:=1) (i:=0) (E5 ft h rfl) (by omega)).1];rfl
 rw [beq_false_of_ne h,n3,if_neg h,g0,p9,SN hk (fun _=>f0.isIn hk) rA]
 simp only [p9,aN3 hk]
 rw [vZ hk (fun _=>f0.isIn hk),E8 hk (fun _=>ft.isIn hk) (by omega) (by omega)]
 have E: ∀ {c:Int},FN (mM c (wv 0 [] (kd0 p))).1:=fun {c}=>Bw fun y q=>aN8 (Si f0.ok q).1 (Si f0.ok q).2
 have F: ∀ {c:Int},FN (mM c (wv 0 [⟨0,0⟩] (kd0 p))).1:=fun {c}=>Bw fun y q=>aN9 (Si f0.ok q).1 (Si f0.ok q).2
 rw [E8 hk (fun _=>E.sm.1.isIn hk (by omega)) (by omega) (by omega),E8 hk (fun _=>F.sm.1.isIn hk (by omega)) (by omega) (by omega)]
 have t1: ∀y:Tm,tE (.ok y)=(y,0):=fun _=>rfl
 have t2: ∀e:Int,tE (.error e:Except Int Tm)=(oe,e):=fun _=>rfl
 cases h1:wv 0 [] (kd0 p) with
 |error e=>
  have:=iF e h1
  have he:e≠0:=by omega
  simp only [kR,t1,t2,n9 he,if_neg he];rfl
 |ok l=>
 simp only [kR,t1]
 cases h2:wv 0 [⟨0,0⟩] (kd0 p) with
 |error e=>
  have:=iF e h2
  have he:e≠0:=by omega
  simp only [kR,t1,t2,n9 he,if_neg he];rfl
 |ok r=>
 simp only [kR,t1]
 cases J:wA 0 1 t with
 |error e=>
  have:=NA e J
  have he:e≠0:=by omega
  simp only [kR,t1,t2,n9 he,if_neg he];rfl
 |ok x=>
 simp only [kR,t1]
 cases z:wA 0 1 l with
 |error e=>
  have:=NA e z
  have he:e≠0:=by omega
  simp only [kR,t1,t2,n9 he,if_neg he,aD,z];rfl
 |ok L=>
 simp only [kR,t1]
 cases B:wA 0 1 r with
 |error e=>
  have:=NA e B
  have he:e≠0:=by omega
  simp only [kR,t1,t2,n9 he,if_neg he,aD,z,B];rfl
 |ok M=>simp only [aD,z,B];rfl
theorem aNV {t p:Tm} {e:Int} (h:KT t p= .error e):e≠0:=by
 unfold KT at h
 split at h
 ·cases h
 rcases be h with h|⟨_,_,h⟩
 ·have:=iF e h;omega
 rcases be h with h|⟨_,_,h⟩
 ·have:=iF e h;omega
 rcases be h with h|⟨_,_,h⟩
 ·have:=NA e h;omega
 rcases be h with h|⟨_,_,h⟩
 ·have:=NA e h;omega
 rcases be h with h|⟨_,_,h⟩
 ·have:=NA e h;omega
 ·cases h
theorem aNW {t p x:Tm} (ft:Fm t) (fp:Fm p) (q:p.k=12) (h:KT t p= .ok x):JT x:=by
 have f0:Fm (kd0 p):=fp.bV (xD (n:=1) (i:=0) (E5 fp q rfl) (by omega)).2
 unfold KT at h
 split at h
 ·rename_i z
  injection h with h;subst h
  exact (ft.bV (xD (n:=1) (i:=0) (E5 ft z rfl) (by omega)).2).jt
 ·obtain ⟨l,h1,h⟩:=i8 h
  obtain ⟨r,h2,h⟩:=i8 h
  obtain ⟨y,F,h⟩:=i8 h
  obtain ⟨I,J,h⟩:=i8 h
  obtain ⟨L,z,h⟩:=i8 h
  injection h with h;subst h
  have fl:Fm l:=aN8 f0 (Si f0.ok h1).2
  have E:Fm r:=aN9 f0 (Si f0.ok h2).2
  have fy:Fm y:=mD (by omega) ft (IH ft.ok F).2
  have A:Fm I:=mD (by omega) fl (IH fl.ok J).2
  have B:Fm L:=mD (by omega) E (IH E.ok z).2
  have:=hN (r:=[⟨1,0⟩]) ⟨by intro c hc;simp at hc;subst hc;exact ⟨⟨by decide,by decide⟩,by decide,by decide⟩,by simp⟩ (.inl fy) (.inl A) (.inl B)
  exact aNi this.1 (by omega) (by have:=this.2;omega)
def F5 (k:Nat):Prop:=4500000000<=k
theorem F5.f4 (h:F5 k):F4 k:=by grind [F5]
theorem F5.f3 (h:F5 k):F3 k:=h.f4.f3
theorem aIq (F:4294970296+nH<k) {defs:List Df} (hd:IE defs) {t:Tm} (q:In k t) {f:Int} (I:Tm×Int×Int->OS S):N' k defs t f I=I (Z0 defs t f):=by
 have A:F4 k:=by omega
 have hk:=A.f3
 simp only [N',ag hk.fu,ar,zy q.1 q.2.1 q.dep]
 unfold Z0
 by_cases z:bw t=0
 case neg=>rw [dj z,sQ,ae,if_pos z];rfl
 rw [z,show (!((0:Int)==0))=false from rfl,n3,if_neg (by simp)]
 by_cases h1:f<0
 ·rw [decide_eq_true h1,ae,if_pos (.inl h1)];rfl
 rw [decide_eq_false h1,n3]
 by_cases h2:100000<f
 ·rw [decide_eq_true (show f>100000 from h2),ae,if_pos (.inr h2)];rfl
 rw [decide_eq_false (show ¬f>100000 from h2),n3,if_neg (by omega),vU t q.1 _ q.2.1]
 have jt:JT t:=Fm.jt ⟨q.1,z⟩
 obtain ⟨j,rfl⟩: ∃j,k=j+1:=⟨k-1,by omega⟩
 obtain ⟨R,x,q2⟩:=aGI (S:=S) hd nH j j (by omega) (by omega) f.toNat t (by omega) jt (aAZ hd (by omega) jt)
 have E: ∀g,EA (j+1) t defs f g=g R:=fun g=>by
  rw [<-q2 g,show ((f.toNat:Nat):Int)=f by omega]
  simp only [EA,xw,ar]
 rw [E]
 unfold hdQ
 cases B:hA defs nH f.toNat t with
 |ok p=>rw [B] at x;rw [show R= .ok (p.1,(p.2:Int)) from x];rfl
 |error e=>rw [B] at x;obtain ⟨c,x⟩:=x;rw [x];rfl
theorem aIi (hk:F3 k) {t:Tm} (q:In k t) (I:Bool->OS S): ∃c,lo k t I=I c/\(c=false->au t<=100):=by
 simp only [lo,ar]
 obtain ⟨w,h1,h2,x,z⟩:=aDd t q.1 100 (by unfold Mo;omega) (fun r1=>I (decide (r1>100))) q.2.1
 grind
theorem aGW (hk:F3 k) (I:Bool->OS S) {l:List Df} (hl:Ix k l):
  ∀ (r p:List Df) (m:Nat),l=p++r->r.length<m-> ∃c,Sw k I l m (p.length:Int)=I c/\(c=false-> ∀d∈r,au d.body<=100):=by
 intro r
 induction r with
 |nil=>
  intro p m h q
  obtain ⟨m,rfl,z⟩:=pw q
  simp_all [Sw,bt,n3]
 |cons x r M=>
  intro p m h q
  obtain ⟨m,rfl,z⟩:=pw q
  have A:=hl.1
  obtain ⟨B,E,F,O⟩:=qF h (by omega)
  have J:=hl.2 x (by grind)
  simp only [Sw,bt,B,ae,E,p9,ag hk.fu,ar,F]
  obtain ⟨c,c1,c2⟩:=aIi hk J (fun L=>ab L (I true) (ab (decide ((x.name.size:Int)>50)) (I true) (Sw k I l m ((p++[x]).length:Int))))
  rw [c1]
  cases c<;>grind [ae,n3,decide_eq_false]
theorem aIr (hk:F3 k) {l:List Df} (hl:Ix k l) (I:Bool->OS S): ∃c,kl k l I=I c/\(c=false->l.length<=8/\IE l/\ ∀d∈l,au d.body<=100):=by
 simp only [kl,aAk]
 by_cases q:(l.length:Int)>8
 ·simp_all [ae]
 rw [decide_eq_false q,n3]
 have x:4294968296<=k:=hk
 obtain ⟨c,h1,h2⟩:=aGW hk I hl l [] k rfl (by omega)
 exact ⟨c,h1,fun h=>⟨by omega,⟨by omega,fun d hd=>⟨(hl.2 d hd).1,by grind [zG],by grind⟩⟩,h2 h⟩⟩
theorem aGN (I:List Df->OS S) {l:List Df} (hl:l.length<1073741824):
  ∀ (r p:List Df) (m:Nat),l=p++r->r.length<m->zs k I l m p (p.length:Int)=I l:=by
 intro r
 induction r with
 |nil=>
  grind [pw,zs,x8,n3]
 |cons x r A=>
  intro p m h q
  obtain ⟨m,rfl,z⟩:=pw q
  obtain ⟨B,E,F,J⟩:=qF h (by omega)
  grind [zs,x8,ae,aFO,J5]
theorem aH6 (hk:F3 k) {l:List Df} (hl:l.length<1073741824) (I:List Df->OS S):L' k l I=I l:=by
 simp only [L',aAj]
 have q:4294968296<=k:=hk
 exact aGN I hl l [] k rfl (by omega)
abbrev FD:=pr (Int×Int) (Bool×Int)
noncomputable def xt (hd:xX S) (defs:List Df) (I:FD->OS S):List It->Int->(Int->OS S)->OS S
 |[],f,K=>K f
 |i::l,f,K=>match i with
  | .err e=>I (.bD (e,f))
  | .no=>I (.ok (false,f))
  | .ask a b=>hd a b defs f fun r=>pr.elim r (fun r=>ab (!r.1) (I (.ok (false,r.2))) (xt hd defs I l r.2 K)) fun e=>I (.bD (e.1,e.2))
section
variable {hd:xX S} {defs:List Df}
theorem qv {I:FD->OS S} {K:Int->OS S}: ∀ {l m:List It} {f:Int},xt hd defs I (l++m) f K=xt hd defs I l f fun q=>xt hd defs I m q K:=by
 intro l
 induction l with
 |nil=>intro m f;rfl
 |cons i l x=>
  intro m f
  cases i with
  |err e=>rfl
  |no=>rfl
  |ask a b=>
   show hd a b defs f (fun r=>pr.elim r (fun r=>ab (!r.1) (I (.ok (false,r.2))) (xt hd defs I (l++m) r.2 K)) fun e=>I (.bD (e.1,e.2)))=hd a b defs f (fun r=>pr.elim r (fun r=>ab (!r.1) (I (.ok (false,r.2))) (xt hd defs I l r.2 fun q=>xt hd defs I m q K)) fun e=>I (.bD (e.1,e.2)))
   simp only [x]
theorem aOp {I q:FD->OS S} {K:Int->OS S} (h1: ∀e,q (.bD e)=I (.bD e)) (h2: ∀f,q (.ok (false,f))=I (.ok (false,f))): ∀ {l:List It} {f:Int},xt hd defs q l f K=xt hd defs I l f K:=by
 intro l
 induction l with
 |nil=>intro f;rfl
 |cons i l x=>
  intro f
  cases i with
  |err e=>exact h1 _
  |no=>exact h2 _
  |ask a b=>
   show hd a b defs f (fun r=>pr.elim r (fun r=>ab (!r.1) (q (.ok (false,r.2))) (xt hd defs q l r.2 K)) fun e=>q (.bD (e.1,e.2)))=hd a b defs f (fun r=>pr.elim r (fun r=>ab (!r.1) (I (.ok (false,r.2))) (xt hd defs I l r.2 K)) fun e=>I (.bD (e.1,e.2)))
   simp only [x,h1,h2]
theorem aOA (I:FD->OS S):(fun r:FD=>pr.elim r (fun r=>I (.ok (r.1,r.2))) fun e=>I (.bD (e.1,e.2)))=I:=by
 funext r
 cases r<;>rfl
theorem xN {I:FD->OS S} {a b:Tm} {f:Int}:xt hd defs I [.ask a b] f (fun q=>I (.ok (true,q)))=hd a b defs f fun r=>pr.elim r (fun r=>I (.ok (r.1,r.2))) fun e=>I (.bD (e.1,e.2)):=by
 show (hd a b defs f fun r=>_)=(hd a b defs f fun r=>_)
 congr 1
 funext r
 cases r with
 |bD e=>rfl
 |ok p=>
  obtain ⟨v,g⟩:=p
  cases v<;>rfl
theorem aOW (hk:F3 k) (I:FD->OS S) (z:Int->Int->OS S) {kind:Int} {fc:LC} {v:Int} {a b:LT} (hl:a.length<1073741824) (A:a.length=b.length) (ha: ∀x∈a,In k x) (hb: ∀x∈b,In k x) {c:Cl} (hc:aX c):
  ∀ (r p s q:LT) (m:Nat) (f:Int),a=p++r->b=q++s->p.length=q.length->r.length<m->
   Sb hd k I z defs kind fc v a b m f c (p.length:Int)=xt hd defs I ((r.zip s).map (Qt c)) f fun M=>z M (oa .i64 (v+1)):=by
 intro r
 induction r with
 |nil=>
  intro p s q m f h h' hp E
  obtain ⟨m,rfl,B⟩:=pw E
  simp only [Sb,h5,xu h,n3,List.zip_nil_left,List.map_nil,xt]
 |cons x r F=>
  intro p s q m f h h' hp E
  obtain ⟨m,rfl,B⟩:=pw E
  cases s with
  |nil=>rw [h,h'] at A;simp at A;omega
  |cons y s=>
  obtain ⟨O,T,W,Y⟩:=qF h (by omega)
  obtain ⟨_,f2,_,f4⟩:=qF h' (by omega)
  rw [<-hp] at f2
  have hx:=ha x (by rw [h];simp)
  have hy:=hb y (by rw [h'];simp)
  simp only [Sb,h5,O,ae,T,f2,p9,ag hk.fu,ar,aN2 hk hx hc,aN2 hk hy hc,Sh,W,List.zip_cons_cons,Fy]
  unfold Qt
  dsimp only
  cases h1:L4 x c with
  |error e=>
   have he:=w2 h1
   show ab (!(e==0)) _ _=_
   rw [dj he];rfl
  |ok J=>
   cases h2:L4 y c with
   |error e=>
    have he:=w2 h2
    show ab (!(e==0)) _ _=_
    rw [dj he];rfl
   |ok L=>
    show (hd J L defs f fun ad=>_)=(hd J L defs f fun r=>_)
    have:=F (p++[x]) s (q++[y]) m
    simp only [F (p++[x]) s (q++[y]) m _ Y f4 (by simp [hp]) B]
    rfl
theorem aOV (hk:F3 k) (I:FD->OS S) {kind:Int} {fc:LC} (hf:aq fc) (M:fc.length<1073741824) {a b:LT} (hl:a.length<1073741824) (E:a.length=b.length) (ha: ∀x∈a,In k x) (hb: ∀x∈b,In k x):
  ∀ (r p:LC) (m:Nat) (f:Int),fc=p++r->r.length<m->
   NX hd k I defs kind fc a b m f (p.length:Int)=xt hd defs I (Ib kind r a b) f fun z=>I (.ok (true,z)):=by
 have O:4294968296<=k:=hk
 intro r
 induction r with
 |nil=>
  intro p m f h F
  obtain ⟨m,rfl,A⟩:=pw F
  simp only [NX,fr,xu h,n3,Ib,List.flatMap_nil,xt]
 |cons c r T=>
  intro p m f h F
  obtain ⟨m,rfl,A⟩:=pw F
  obtain ⟨W,Y,e3,e4⟩:=qF h (by omega)
  have oc:aX c:=hf c (by rw [h];simp)
  have hi:Ib kind (c::r) a b=(if (M9 kind c).2=0 then (a.zip b).map (Qt (M9 kind c).1) else [.err (M9 kind c).2])++Ib kind r a b:=by
   unfold Ib;rw [List.flatMap_cons]
  rw [hi,qv]
  simp only [NX,fr,W,ae,Y,p9,ag hk.fu,az]
  have go: ∀B,aX B->Sb hd k I (NX hd k I defs kind fc a b m) defs kind fc (p.length:Int) a b k f B 0=xt hd defs I ((a.zip b).map (Qt B)) f fun z=>xt hd defs I (Ib kind r a b) z fun z=>I (.ok (true,z)):=fun B J=>by
   have:=aOW (hd:=hd) (defs:=defs) hk I (NX hd k I defs kind fc a b m) (kind:=kind) (fc:=fc) (v:=(p.length:Int)) hl E ha hb J a [] b [] k f rfl rfl rfl (by omega)
   refine o0 this ?_
   congr 1
   funext z
   rw [e3,T (p++[c]) m z e4 A]
  unfold M9
  by_cases q:kind=15
  ·rw [q,show ((15:Int)==15)=true from rfl,ae,ai4 hk.fu oc (by unfold aG;omega) (by unfold aG;omega)]
   simp only [if_pos]
   by_cases L:(dw c 0 1).2=0
   ·rw [L,show (!((0:Int)==0))=false from rfl,n3,if_pos rfl]
    rw [q] at go
    have rc:=LJ c 0 1
    exact go _ ⟨⟨rc.1.1,by have:=rc.1.2;omega⟩,rc.2.1,by have:=rc.2.2;omega⟩
   ·rw [dj L,sQ,ae,if_neg L];rfl
  ·rw [beq_false_of_ne q,n3,if_neg q,if_pos rfl]
   exact go c oc
theorem aO7 (hk:F3 k) (I:FD->OS S) {kind:Int} {fc:LC} (hf:aq fc) (q:fc.length<1073741824) {a b:LT} (hl:a.length<1073741824) (z:a.length=b.length) (ha: ∀x∈a,In k x) (hb: ∀x∈b,In k x) (f:Int):
  gn hd k kind fc a b defs f I=xt hd defs I (Ib kind fc a b) f fun A=>I (.ok (true,A)):=by
 have B:4294968296<=k:=hk
 simp only [gn,aNp]
 exact aOV hk I hf q hl z ha hb fc [] k f rfl (by omega)
def MO (k:Nat) (n:Int) (x:Br Tm):Prop:=aq x.f/\x.f.length<1073741824/\x.c.length<1073741824/\(x.c.length:Int)=n/\ ∀y∈x.c,In k y
theorem aN1 (hk:F3 k) (I:FD->OS S) {kind n:Int} {fc:LC} (hf:aq fc) (q:fc.length<1073741824) {x y:Br Tm} (A:MO k n x) (B:MO k n y) (f:Int) (K:Int->OS S):
  (gn hd k kind fc x.c y.c defs f fun r=>pr.elim r (fun r=>ab (!r.1) (I (.ok (false,r.2))) (K r.2)) fun e=>I (.bD (e.1,e.2)))=xt hd defs I (Ib kind fc x.c y.c) f K:=by
 obtain ⟨x1,x2,x3,x4,x5⟩:=A
 obtain ⟨y1,y2,y3,y4,y5⟩:=B
 rw [aO7 hk _ hf q x3 (by omega) x5 y5]
 have key: ∀R':FD->OS S,(∀e,R' (.bD e)=I (.bD e))->(∀f,R' (.ok (false,f))=I (.ok (false,f)))->(fun z=>R' (.ok (true,z)))=K->xt hd defs R' (Ib kind fc x.c y.c) f (fun z=>R' (.ok (true,z)))=xt hd defs I (Ib kind fc x.c y.c) f K:=fun R' a b c=>by rw [c];exact aOp a b
 exact key _ (fun e=>rfl) (fun f=>rfl) rfl
theorem aOS (hk:F3 k) (I:FD->OS S) {kind n:Int} {a b:LB} (hl:a.length<1073741824) (z:a.length=b.length) (ha: ∀x∈a,MO k n x) (hb: ∀x∈b,MO k n x):
  ∀ (r p s q:LB) (m:Nat) (f:Int),a=p++r->b=q++s->p.length=q.length->r.length<m->
   iz hd k I defs kind b a m f (p.length:Int)=xt hd defs I ((r.zip s).flatMap fun p=>Ib kind p.1.f p.1.c p.2.c) f fun A=>I (.ok (true,A)):=by
 intro r
 induction r with
 |nil=>
  intro p s q m f h h' hp E
  obtain ⟨m,rfl,B⟩:=pw E
  simp only [iz,ds,xu h,n3,List.zip_nil_left,List.flatMap_nil,xt]
 |cons x r J=>
  intro p s q m f h h' hp E
  obtain ⟨m,rfl,B⟩:=pw E
  cases s with
  |nil=>rw [h,h'] at z;simp at z;omega
  |cons y s=>
  obtain ⟨L,M,O,T⟩:=qF h (by omega)
  obtain ⟨_,f2,_,f4⟩:=qF h' (by omega)
  rw [<-hp] at f2
  have F:=ha x (by rw [h];simp)
  have W:=hb y (by rw [h'];simp)
  simp only [iz,ds,L,ae,M,f2,p9,ag hk.fu,O,List.zip_cons_cons,List.flatMap_cons]
  rw [qv]
  simp only [J (p++[x]) s (q++[y]) m _ T f4 (by simp [hp]) B]
  exact aN1 hk I F.1 F.2.1 F W f fun A=>xt hd defs I ((r.zip s).flatMap fun p=>Ib kind p.1.f p.1.c p.2.c) A fun A=>I (.ok (true,A))
theorem aOU (hk:F3 k) (I:FD->OS S) (q:Int->Int->OS S) {kind n v:Int} {a b:LB} (hl:b.length<1073741824) {x:Br Tm} (B:MO k n x) (hb: ∀x∈b,MO k n x):
  ∀ (r p:LB) (m:Nat) (f:Int),b=p++r->r.length<m->
   SU hd k I q defs x kind b a v m f (p.length:Int)=xt hd defs I (r.flatMap fun y=>ln kind x y) f fun z=>q z (oa .i64 (v+1)):=by
 intro r
 induction r with
 |nil=>
  intro p m f h J
  obtain ⟨m,rfl,A⟩:=pw J
  simp only [SU,D2,xu h,n3,List.flatMap_nil,xt]
 |cons y r M=>
  intro p m f h J
  obtain ⟨m,rfl,A⟩:=pw J
  obtain ⟨O,T,W,Y⟩:=qF h (by omega)
  have E:=hb y (by rw [h];simp)
  simp only [SU,D2,O,ae,T,p9,ag hk.fu,aO9 hk B.1 E.1 B.2.1 E.2.1,q8,W,List.flatMap_cons]
  rw [qv]
  have hM:ln kind x y=if (Mm x.f y.f).2=0 then Ib kind (Mm x.f y.f).1 x.c y.c else [.err (Mm x.f y.f).2]:=rfl
  rw [hM]
  by_cases F:(Mm x.f y.f).2=0
  ·rw [F,show (!((0:Int)==0))=false from rfl,n3,if_pos rfl]
   have L:=aO2 B.1 E.1 F
   simp only [M (p++[y]) m _ Y A]
   exact aN1 hk I L.1.2 (by have:=L.1.len;omega) B E f fun z=>xt hd defs I (r.flatMap fun y=>ln kind x y) z fun z=>q z (oa .i64 (v+1))
  ·rw [dj F,sQ,ae,if_neg F];rfl
theorem aOT (hk:F3 k) (I:FD->OS S) {kind n:Int} {a b:LB} (hl:a.length<1073741824) (z:b.length<1073741824) (ha: ∀x∈a,MO k n x) (hb: ∀x∈b,MO k n x):
  ∀ (r p:LB) (m:Nat) (f:Int),a=p++r->r.length<m->
   Sc hd k I defs kind b a m f (p.length:Int)=xt hd defs I (r.flatMap fun x=>b.flatMap fun y=>ln kind x y) f fun A=>I (.ok (true,A)):=by
 have E:4294968296<=k:=hk
 intro r
 induction r with
 |nil=>
  intro p m f h B
  obtain ⟨m,rfl,q⟩:=pw B
  simp only [Sc,fU,xu h,n3,List.flatMap_nil,xt]
 |cons x r F=>
  intro p m f h B
  obtain ⟨m,rfl,q⟩:=pw B
  obtain ⟨J,L,M,O⟩:=qF h (by omega)
  have T:=ha x (by rw [h];simp)
  simp only [Sc,fU,J,ae,L,p9,List.flatMap_cons]
  rw [qv]
  have:=aOU (hd:=hd) (defs:=defs) (a:=a) (v:=(p.length:Int)) (kind:=kind) hk I (Sc hd k I defs kind b a m) z T hb b [] k f rfl (by omega)
  refine o0 this ?_
  congr 1
  funext A
  rw [M,F (p++[x]) m A O q]
theorem aO6 (hk:F3 k) (I:FD->OS S) {kind n:Int} {a b:LB} (hl:a.length<1073741824) (z:b.length<1073741824) (ha: ∀x∈a,MO k n x) (hb: ∀x∈b,MO k n x) (f:Int):
  e8 hd k kind a b defs f I=xt hd defs I (Mp kind a b) f fun B=>I (.ok (true,B)):=by
 have E:4294968296<=k:=hk
 simp only [e8,aNo,ag hk.fu,aN7 hk hl fun x q=>⟨(ha x q).1,(ha x q).2.1⟩,aN7 hk z fun x q=>⟨(hb x q).1,(hb x q).2.1⟩,q8,aO8 hk hl fun x q=>(ha x q).2.1]
 unfold Mp
 cases h1:Ht [] a with
 |error e=>
  have he:=p4 h1
  show ab (!(e==0)) _ _=_
  rw [dj he];rfl
 |ok fa=>
  cases h2:Ht [] b with
  |error e=>
   have he:=p4 h2
   show ab (!(e==0)) _ _=_
   rw [dj he];rfl
  |ok fb=>
   have F:=aOD (by simp) h1
   show (zz k fa fb fun J=>_)=_
   rw [me hk.fu (by omega)]
   dsimp only
   by_cases hf:fa=fb
   ·rw [decide_eq_true hf,if_neg (by simp [hf]),uX,n3]
    by_cases A:a.map (·.f)=b.map (·.f)
    ·rw [decide_eq_true A,if_pos A,ae]
     exact aOS hk I hl (by simpa using congrArg EO A) ha hb a [] b [] k f rfl rfl rfl (by omega)
    ·rw [decide_eq_false A,if_neg A,n3]
     exact aOT hk I hl z ha hb a [] k f rfl (by omega)
   ·rw [decide_eq_false hf,if_pos hf];rfl
end
end
section
def aKx (r:Tm×Bool×Int):Prop:=r.2.1=false/\r.2.2=0
structure Shp (t t':Tm):Prop where
 kd:t'.k=t.k
 nm:t'.name=t.name
 r:t'.r=t.r
 fa:t'.s.map (·.f)=t.s.map (·.f)
 le:t'.c.length=t.c.length
 pl: ∀i∈re t,(xF t' i).k=(xF t i).k
section
variable {t t':Tm} (ft:Fm t) (h:Shp t t')
include ft h
end
noncomputable def hE (defs:List Df) (f:Nat) (t:Tm):Except Int (Tm×Nat):=if bw t≠0 then .error (bw t) else hA defs nH f t
theorem mg {defs:List Df} (hd:IE defs) {f:Nat} {t a:Tm} {r:Nat} (q:pf t) (h:hE defs f t= .ok (a,r)):Fm t/\Fm a/\r<=f/\(r=f->a=t)/\xz (nf defs) re nH a:=by
 unfold hE at h
 split at h
 ·cases h
 rename_i x
 have ft:Fm t:=⟨q,Decidable.not_not.1 x⟩
 obtain ⟨z,q2⟩:=(aF7 (st:=nf defs) (pl:=re) (eF:=220) nH).1 _ _ _ _ h
 exact ⟨ft,((hS hd nH).1 _ _ ft.jt _ _ h).1,z,q2,((aGF nH).1 _ _ _ _ h).1⟩
theorem Sg {defs:List Df} {f:Nat} {t a:Tm} {r:Nat} (h:hE defs f t= .ok (a,r)):r<=f:=by
 unfold hE at h
 split at h
 ·cases h
 ·exact ((aF7 (st:=nf defs) (pl:=re) (eF:=220) nH).1 _ _ _ _ h).1
inductive NF (defs:List Df):Tm->Prop where
 |mk (t:Tm) (q:aKx (nf defs t)) (k: ∀x∈t.c,NF defs x) (s: ∀b∈t.s,∀x∈b.c,NF defs x):NF defs t
variable {S:Type} {k:Nat}

def avp (x:Except Int (Tm×Nat)):Tm×Int×Int:=match x with
 | .ok p=>(p.1,(p.2:Int),0)
 | .error e=>(oe,0,e)
theorem aKL {defs:List Df} {t:Tm} {f:Nat} (hf:f<=100000):Z0 defs t (f:Int)=avp (hE defs f t):=by
 grind [Z0,hE,hdQ,avp]
theorem aKK {defs:List Df} (j:Nat) (f:Nat) (t:Tm):xY 220 j (hE defs f t) (hE defs (f+j) t):=by
 unfold hE
 by_cases q:bw t≠0
 ·rw [if_pos q,if_pos q];exact ⟨fun a r h=>(by cases h),fun e h _ _=>h⟩
 ·rw [if_neg q,if_neg q];exact (aF6 (st:=nf defs) (pl:=re) (eF:=220) (by decide) j nH).1 f t
noncomputable abbrev cv (defs:List Df):=zf (hE defs) ee 220
noncomputable abbrev cl (defs:List Df):=zj (hE defs) ee 220
def k8 (x:Except Int (Bool×Nat)) (R:FD):Prop:=match x with
 | .ok p=>R= .ok (p.1,(p.2:Int))
 | .error e=> ∃c,R= .bD (e,c)
theorem n2 (z:4294970296+nH<k) {defs:List Df} (hd:IE defs) {t:Tm} (jt:JT t) {f:Nat} (hf:f<=100000) (I:pr (Int×Int) (Tm×Int)->OS S):
  c' k t defs (f:Int) I=I (match hE defs f t with
   | .ok p=> .ok (p.1,(p.2:Int))
   | .error e=> .bD (e,0)):=by
 have hk:F3 k:=by unfold F3;omega
 simp only [c',ag hk.fu,ar,aIq z hd (jt.isIn hk),aKL hf,Sh]
 cases x:hE defs f t with
 |ok p=>rfl
 |error e=>
  have he:e≠0:=by
   intro q
   unfold hE at x
   split at x
   ·rename_i c;injection x with x;exact c (by rw [x,q])
   ·rename_i c;exact aAZ hd hf (Fm.jt ⟨jt.1,Decidable.not_not.1 c⟩) (by rw [x,q])
  show ab (!(e==0)) _ _=_
  rw [dj he];rfl
def Sj (i:It):Prop:=(∀a b,i= .ask a b->JT a/\JT b)/\ ∀e,i= .err e->e≠0
theorem Sd {a b:Tm} (ha:JT a) (hb:JT b):Sj (.ask a b):=⟨fun c d h=>by injection h with h1 h2;subst h1;subst h2;exact ⟨ha,hb⟩,fun e h=>by cases h⟩
theorem M7 {e:Int} (he:e≠0):Sj (.err e):=⟨fun c d h=>(by cases h),fun e' h=>by injection h with h;subst h;exact he⟩
theorem aNG:Sj .no:=⟨fun c d h=>(by cases h),fun e h=>by cases h⟩
theorem aNH {kd:Int} {f:LC} {a b:LT} (ha: ∀x∈a,pf x) (hb: ∀x∈b,pf x): ∀i∈Ib kd f a b,Sj i:=by
 intro i q
 obtain ⟨c,_,q⟩:=List.mem_flatMap.1 q
 split at q
 ·obtain ⟨p,hp,rfl⟩:=wD.1 q
  have h1:=ha _ (List.of_mem_zip hp).1
  have h2:=hb _ (List.of_mem_zip hp).2
  unfold Qt
  cases z:L4 p.1 (M9 kd c).1 with
  |error e=>exact M7 (w2 z)
  |ok x=>
   cases q2:L4 p.2 (M9 kd c).1 with
   |error e=>exact M7 (w2 q2)
   |ok y=>exact Sd (aN_ h1 z) (aN_ h2 q2)
 ·rename_i c
  obtain rfl:i=_:=by simpa using q
  exact M7 c
theorem aOI {kd:Int} {a b:LB} (ha: ∀x∈a,∀y∈x.c,pf y) (hb: ∀x∈b,∀y∈x.c,pf y): ∀i∈Mp kd a b,Sj i:=by
 intro i q
 unfold Mp at q
 cases h1:Ht [] a with
 |error e=>
  rw [h1] at q
  obtain rfl:i=_:=by simpa using q
  exact M7 (p4 h1)
 |ok f=>
  cases h2:Ht [] b with
  |error e=>
   rw [h1,h2] at q
   obtain rfl:i=_:=by simpa using q
   exact M7 (p4 h2)
  |ok g=>
   rw [h1,h2] at q
   dsimp only at q
   split at q
   ·obtain rfl:i=_:=by simpa using q
    exact aNG
   split at q
   ·obtain ⟨p,hp,q⟩:=List.mem_flatMap.1 q
    exact aNH (ha _ (List.of_mem_zip hp).1) (hb _ (List.of_mem_zip hp).2) i q
   ·obtain ⟨x,z,q⟩:=List.mem_flatMap.1 q
    obtain ⟨y,A,q⟩:=List.mem_flatMap.1 q
    unfold ln at q
    split at q
    ·exact aNH (ha x z) (hb y A) i q
    ·rename_i c
     obtain rfl:i=_:=by simpa using q
     exact M7 c
theorem aNY {x y:Tm} (fx:Fm x) (fy:Fm y): ∀i∈ee x y,Sj i:=by
 intro i hi
 unfold ee at hi
 split at hi
 ·cases h1:H3 x with
  |error e=>
   rw [h1] at hi
   obtain rfl:i=_:=by simpa using hi
   exact M7 (aNB h1)
  |ok f=>
   cases h2:H3 y with
   |error e=>
    rw [h1,h2] at hi
    obtain rfl:i=_:=by simpa using hi
    exact M7 (aNB h2)
   |ok g=>
    rw [h1,h2] at hi
    obtain rfl:i=_:=by simpa using hi
    exact Sd (aNC fx h1) (aNC fy h2)
 split at hi
 ·rcases xB.1 hi with rfl|hi
  ·exact Sd (ed fx (.inl rfl)) (ed fy (.inl rfl))
  ·obtain rfl:i=_:=by simpa using hi
   exact Sd (ed fx (.inr rfl)) (ed fy (.inr rfl))
 split at hi
 ·rename_i q
  cases h1:KT y x with
  |error e=>
   rw [h1] at hi
   obtain rfl:i=_:=by simpa using hi
   exact M7 (aNV h1)
  |ok g=>
   rw [h1] at hi
   obtain rfl:i=_:=by simpa using hi
   exact Sd (Mq fx 0) (aNW fy fx q h1)
 split at hi
 ·rename_i q
  cases h1:KT x y with
  |error e=>
   rw [h1] at hi
   obtain rfl:i=_:=by simpa using hi
   exact M7 (aNV h1)
  |ok g=>
   rw [h1] at hi
   obtain rfl:i=_:=by simpa using hi
   exact Sd (aNW fx fy q h1) (Mq fy 0)
 split at hi
 ·obtain rfl:i=_:=by simpa using hi
  exact aNG
 split at hi
 ·obtain rfl:i=_:=by simpa using hi
  exact Sd (Mq fx 0) (Mq fy 0)
 rcases xO.1 hi with hi|hi
 ·obtain ⟨p,hp,rfl⟩:=wD.1 hi
  exact Sd (fx.bV (List.of_mem_zip hp).1).jt (fy.bV (List.of_mem_zip hp).2).jt
 ·exact aOI (fun b hb z A=>(fx.brk hb A).ok) (fun b hb z A=>(fy.brk hb A).ok) i hi
theorem aNb {defs:List Df}: ∀n,(∀f a b v r,cv defs n f a b= .ok (v,r)->r<=f)/\ ∀l f v r,cl defs n f l= .ok (v,r)->r<=f:=by
 have mk: ∀n,(∀f a b v r,cv defs n f a b= .ok (v,r)->r<=f)-> ∀l f v r,cl defs n f l= .ok (v,r)->r<=f:=by
  intro n hA l
  induction l with
  |nil=>intro f v r h;change zj (hE defs) ee 220 n f []=_ at h;rw [SQ] at h;injection h with h;injection h with _ h;omega
  |cons i l q=>
   intro f v r h
   change zj (hE defs) ee 220 n f (i::l)=_ at h
   cases i with
   |err e=>rw [SR] at h;cases h
   |no=>rw [qt] at h;injection h with h;injection h with _ h;omega
   |ask a b=>
    rw [SO] at h
    obtain ⟨y,f1,h1,h⟩:=RN h
    have:=hA _ _ _ _ _ h1
    cases y with
    |true=>have:=q _ _ _ h;omega
    |false=>injection h with h;injection h with _ h;omega
 intro n
 induction n with
 |zero=>
  have hA: ∀f a b v r,cv defs 0 f a b= .ok (v,r)->r<=f:=fun f a b v r h=>by change zf (hE defs) ee 220 0 f a b=_ at h;rw [l4] at h;cases h
  exact ⟨hA,mk 0 hA⟩
 |succ n q=>
  have hA: ∀f a b v r,cv defs (n+1) f a b= .ok (v,r)->r<=f:=fun f a b v r h=>by
   change zf (hE defs) ee 220 (n+1) f a b=_ at h
   rw [Sa] at h
   split at h
   ·cases h
   obtain ⟨x,f1,h1,h⟩:=RN h
   obtain ⟨y,f2,h2,h⟩:=RN h
   have:=Sg h1;have:=Sg h2;have:=q.2 _ _ _ _ h
   omega
  exact ⟨hA,mk _ hA⟩
theorem aNx {defs:List Df} (hd:IE defs): ∀n f a b,f<=100000->pf a->pf b->f+1<=n->cv defs n f a b≠ .error 0:=by
 have E: ∀f t,f<=100000->pf t->hE defs f t≠ .error 0:=by
  intro f t hf M A
  unfold hE at A
  split at A
  ·rename_i c;injection A with A;exact c A
  ·rename_i c;exact aAZ hd hf (Fm.jt ⟨M,Decidable.not_not.1 c⟩) A
 intro n
 induction n with
 |zero=>intro f a b _ _ _ h;omega
 |succ n O=>
  intro f a b hf ha hb hn h
  change zf (hE defs) ee 220 (n+1) f a b=_ at h
  rw [Sa] at h
  split at h
  ·injection h with h;cases h
  rename_i hz
  rcases azM h with h|⟨x,f1,h1,h⟩
  ·exact E _ _ (by omega) ha h
  rcases azM h with h|⟨y,f2,h2,h⟩
  ·have:=Sg h1;exact E _ _ (by omega) hb h
  have l1:=Sg h1;have l2:=Sg h2
  have fx:=(mg hd ha h1).2.1
  have fy:=(mg hd hb h2).2.1
  have key: ∀l:List It,(∀i∈l,Sj i)-> ∀B,B+1<=n->B<=100000->zj (hE defs) ee 220 n B l≠ .error 0:=by
   intro l
   induction l with
   |nil=>intro _ B _ _ q;rw [SQ] at q;cases q
   |cons i l I=>
    intro hl B J L q
    have F:=hl i (by simp)
    cases i with
    |err e=>rw [SR] at q;injection q with q;exact F.2 e rfl q
    |no=>rw [qt] at q;cases q
    |ask c d=>
     obtain ⟨T,W⟩:=F.1 c d rfl
     rw [SO] at q
     rcases azM q with q|⟨z,f3,Y,q⟩
     ·exact O B c d L T.1 W.1 J q
     ·have:=(aNb n).1 _ _ _ _ _ Y
      cases z with
      |true=>exact I (fun i F=>hl i (by simp [F])) f3 (by omega) (by omega) q
      |false=>cases q
  exact key _ (aNY fx fy) f2 (by omega) (by omega) h
theorem aOq {hd:xX S} {defs:List Df} {n f0:Nat} (J: ∀f a b,f<=f0->JT a->JT b->cv defs n f a b≠ .error 0-> ∃R,k8 (cv defs n f a b) R/\ ∀g,hd a b defs (f:Int) g=g R):
  ∀ (l:List It) f,f<=f0->(∀i∈l,Sj i)->cl defs n f l≠ .error 0-> ∃R,k8 (cl defs n f l) R/\ ∀I:FD->OS S,xt hd defs I l (f:Int) (fun x=>I (.ok (true,x)))=I R:=by
 intro l
 induction l with
 |nil=>
  intro f _ _ _
  refine ⟨.ok (true,(f:Int)), ?_,fun I=>rfl⟩
  show k8 (zj (hE defs) ee 220 n f []) _
  rw [SQ];rfl
 |cons i l L=>
  intro f hf hl z
  have B:=hl i (by simp)
  cases i with
  |err e=>
   refine ⟨.bD (e,(f:Int)), ?_,fun I=>rfl⟩
   show k8 (zj (hE defs) ee 220 n f (.err e::l)) _
   rw [SR];exact ⟨_,rfl⟩
  |no=>
   refine ⟨.ok (false,(f:Int)), ?_,fun I=>rfl⟩
   show k8 (zj (hE defs) ee 220 n f (.no::l)) _
   rw [qt];rfl
  |ask a b=>
   have eq:cl defs n f (.ask a b::l)=Ic (cv defs n f a b) fun yes x=>if yes then cl defs n x l else .ok (false,x):=SO
   rw [eq] at z ⊢
   obtain ⟨M,O⟩:=B.1 a b rfl
   have E:cv defs n f a b≠ .error 0:=fun q=>z (by rw [q];rfl)
   obtain ⟨R,A,q2⟩:=J f a b hf M O E
   have T: ∀I:FD->OS S,xt hd defs I (.ask a b::l) (f:Int) (fun x=>I (.ok (true,x)))=pr.elim R (fun r=>ab (!r.1) (I (.ok (false,r.2))) (xt hd defs I l r.2 fun x=>I (.ok (true,x)))) fun e=>I (.bD (e.1,e.2)):=fun I=>q2 _
   simp only [T]
   cases F:cv defs n f a b with
   |error e=>
    rw [F] at A
    obtain ⟨c,rfl⟩:=A
    exact ⟨.bD (e,c),⟨c,rfl⟩,fun I=>rfl⟩
   |ok p=>
    obtain ⟨v,r⟩:=p
    rw [F] at A z
    have A:R= .ok (v,(r:Int)):=A
    subst A
    have hle:=(aNb n).1 _ _ _ _ _ F
    rw [q9] at z ⊢
    cases v with
    |false=>exact ⟨.ok (false,(r:Int)),rfl,fun I=>rfl⟩
    |true=>
     rw [if_pos rfl] at z ⊢
     exact L r (by omega) (fun i B=>hl i (by simp [B])) z
theorem aOR (hk:F3 k) {hd:xX S} {defs:List Df} (I:FD->OS S) {x y:Tm×Int} (hl:x.1.c.length<1073741824) (B:x.1.c.length=y.1.c.length) (f0:Int) {K:Int->OS S} (L: ∀f:Int,(e8 hd k x.1.k x.1.s y.1.s defs f fun A=>pr.elim A (fun A=>I (.ok (A.1,A.2))) fun E=>I (.bD (E.1,E.2)))=K f):
  ∀ (r p s q:LT) (m:Nat) (f:Int),x.1.c=p++r->y.1.c=q++s->p.length=q.length->r.length<m->
   fz hd k I defs x y m f (p.length:Int)=xt hd defs I ((r.zip s).map fun p=> .ask p.1 p.2) f K:=by
 intro r
 induction r with
 |nil=>
  intro p s q m f h h' hp J
  obtain ⟨m,rfl,F⟩:=pw J
  simp only [fz,Hg,xu h,n3,List.zip_nil_left,List.map_nil,xt,ag hk.fu,L]
 |cons z r M=>
  intro p s q m f h h' hp J
  obtain ⟨m,rfl,F⟩:=pw J
  cases s with
  |nil=>rw [h,h'] at B;simp at B;omega
  |cons w s=>
  obtain ⟨O,T,W,Y⟩:=qF h (by omega)
  obtain ⟨_,f2,_,f4⟩:=qF h' (by omega)
  rw [<-hp] at f2
  simp only [fz,Hg,O,ae,T,f2,p9,ar,W,List.zip_cons_cons,Fy,M (p++[z]) s (q++[w]) m _ Y f4 (by simp [hp]) F]
  rfl
theorem aNw {n:Int} {t:Tm} (ft:Fm t) (hk:F3 k) (hn:xU t.k=n): ∀b∈t.s,MO k n b:=fun b hb=>
 ⟨(ft.ok.bi hb).1.1,(ft.ok.bi hb).1.2.1,(ft.ok.bi hb).1.2.2,by rw [<-hn];exact ft.parts b hb,fun y q=>(ft.brk hb q).isIn hk⟩
theorem aPb (hF:4334970400<=k) {defs:List Df} (hd:IE defs) {a b x y:Tm} {f f1 f2:Nat} (h0:f≠0) (hf:f<=100000) (ja:JT a) (jb:JT b) (h1:hE defs (f-1) a= .ok (x,f1)) (h2:hE defs f1 b= .ok (y,f2)) (I:FD->OS S):
  BB (k+1) a b defs (f:Int) I=xt (BB k) defs I (ee x y) (f2:Int) fun J=>I (.ok (true,J)):=by
 have hk:F3 k:=by unfold F3;omega
 have bc:4294968296<=k:=hk
 have l1:=Sg h1
 have fx:=(mg hd ja.1 h1).2.1
 have fy:=(mg hd jb.1 h2).2.1
 have hw:oa .i64 ((f:Int)-1)=((f-1:Nat):Int):=by rw [vc (by omega) (by omega)];omega
 simp only [BB,jm,ag hk.fu,ar,hw]
 rw [show ((f:Int)==0)=false from beq_false_of_ne (by omega),n3,n2 (by unfold nH;omega) hd ja (by omega),h1]
 dsimp only [pr.elim]
 rw [n2 (by unfold nH;omega) hd jb (by omega),h2]
 dsimp only [pr.elim]
 simp only [aN4 hk fx,aN4 hk fy,e4 hk fx (.inl rfl),e4 hk fx (.inr rfl),e4 hk fy (.inl rfl),e4 hk fy (.inr rfl)]
 have T:(pr.elim (pE (H3 x)) (fun r8=>pr.elim (pE (H3 y)) (fun az=>BB k r8 az defs (f2:Int) fun r14=>pr.elim r14 (fun r14=>I (.ok (r14.1,r14.2))) fun W=>I (.bD (W.1,W.2))) fun a6=>I (.bD (a6,(f2:Int)))) fun e9=>I (.bD (e9,(f2:Int))))=
   xt (BB k) defs I (match H3 x with
    | .error e=>[.err e]
    | .ok f=>match H3 y with
     | .error e=>[.err e]
     | .ok g=>[.ask f g]) (f2:Int) fun J=>I (.ok (true,J)):=by
  cases q1:H3 x with
  |error e=>rfl
  |ok u=>
   cases q2:H3 y with
   |error e=>rfl
   |ok w=>exact xN.symm
 unfold ee
 by_cases x5:x.k=5
 ·rw [x5,show ((5:Int)==5)=true from rfl,ae,if_pos (.inl rfl)]
  exact T
 rw [beq_false_of_ne x5,n3]
 by_cases y5:y.k=5
 ·rw [y5,show ((5:Int)==5)=true from rfl,ae,if_pos (.inr rfl)]
  exact T
 rw [beq_false_of_ne y5,n3,if_neg (fun q=>q.elim x5 y5)]
 have Y:(BB k (FF x 9) (FF y 9) defs (f2:Int) fun F=>pr.elim F (fun F=>ab F.1 (BB k (FF x 10) (FF y 10) defs F.2 fun L=>pr.elim L (fun L=>I (.ok (L.1,L.2))) fun ad=>I (.bD (ad.1,ad.2))) (I (.ok (false,F.2)))) fun ao=>I (.bD (ao.1,ao.2)))=
   xt (BB k) defs I [.ask (FF x 9) (FF y 9),.ask (FF x 10) (FF y 10)] (f2:Int) fun J=>I (.ok (true,J)):=by
  show _=BB k (FF x 9) (FF y 9) defs (f2:Int) fun r=>pr.elim r (fun r=>ab (!r.1) (I (.ok (false,r.2))) (xt (BB k) defs I [.ask (FF x 10) (FF y 10)] r.2 fun J=>I (.ok (true,J)))) fun e=>I (.bD (e.1,e.2))
  congr 1
  funext r
  cases r with
  |bD e=>rfl
  |ok p=>
   obtain ⟨v,g⟩:=p
   cases v with
   |true=>exact xN.symm
   |false=>rfl
 by_cases x8:x.k=8
 ·rw [x8,show ((8:Int)==8)=true from rfl,ae,if_pos (.inl rfl)]
  exact Y
 rw [beq_false_of_ne x8,n3]
 by_cases y8:y.k=8
 ·rw [y8,show ((8:Int)==8)=true from rfl,ae,if_pos (.inr rfl)]
  exact Y
 rw [beq_false_of_ne y8,n3,if_neg (fun q=>q.elim x8 y8)]
 by_cases B:x.k=12
 ·rw [if_pos B,B,show ((12:Int)==12)=true from rfl,ae,show af x.c 0=some (kd0 x) from (xD (n:=1) (i:=0) (E5 fx B rfl) (by omega)).1,p9,aN6 hk fy fx B]
  cases q1:KT y x with
  |error e=>rfl
  |ok u=>exact xN.symm
 rw [if_neg B,beq_false_of_ne B,n3]
 by_cases z:y.k=12
 ·rw [if_pos z,z,show ((12:Int)==12)=true from rfl,ae,aN6 hk fx fy z]
  cases q1:KT x y with
  |error e=>
   show (nW (af y.c 0) fun _=>_)=_
   rw [show af y.c 0=some (kd0 y) from (xD (n:=1) (i:=0) (E5 fy z rfl) (by omega)).1,p9]
   rfl
  |ok u=>
   show (nW (af y.c 0) fun bf=>_)=_
   rw [show af y.c 0=some (kd0 y) from (xD (n:=1) (i:=0) (E5 fy z rfl) (by omega)).1,p9]
   exact xN.symm
 rw [if_neg z,beq_false_of_ne z,n3]
 by_cases A:x.k=y.k
 case neg=>rw [beq_false_of_ne A,if_pos (.inl A)];rfl
 rw [show (x.k==y.k)=true from by simp [A],uX,n3]
 by_cases hn:x.n=y.n
 case neg=>rw [beq_false_of_ne hn,if_pos (.inr (.inl hn))];rfl
 rw [show (x.n==y.n)=true from by simp [hn],uX,n3,Jq]
 by_cases M:x.name=y.name
 case neg=>rw [decide_eq_false M,if_pos (.inr (.inr (.inl M)))];rfl
 rw [decide_eq_true M,uX,n3,me hk.fu (by have:=fx.ok.no.2.2.2.2.1;omega)]
 by_cases hr:x.r=y.r
 case neg=>rw [decide_eq_false hr,if_pos (.inr (.inr (.inr hr)))];rfl
 rw [decide_eq_true hr,uX,n3,if_neg (fun q=>q.elim (fun q=>q A) fun q=>q.elim (fun q=>q hn) fun q=>q.elim (fun q=>q M) fun q=>q hr)]
 have a7:x.c.length=y.c.length:=by
  have h3:=fx.nk;have h4:=fy.nk
  rw [A] at h3;omega
 by_cases E:x.k=13
 ·have a8:y.k=13:=by rw [<-A];exact E
  rw [if_pos E,E,show ((13:Int)==13)=true from rfl,ae,show af x.c 0=some (kd0 x) from (xD (n:=3) (i:=0) (E5 fx E rfl) (by omega)).1,p9,show af y.c 0=some (kd0 y) from (xD (n:=3) (i:=0) (E5 fy a8 rfl) (by omega)).1,p9]
  exact xN.symm
 rw [if_neg E,beq_false_of_ne E,n3,qv]
 obtain ⟨o1,o2,o3,o4,o5,o6,o7⟩:=fx.ok.no
 obtain ⟨p1,p2,p3,p4,p5,p6,p7⟩:=fy.ok.no
 have hs: ∀g:Int,(e8 (BB k) k x.k x.s y.s defs g fun O=>pr.elim O (fun O=>I (.ok (O.1,O.2))) fun ax=>I (.bD (ax.1,ax.2)))=xt (BB k) defs I (Mp x.k x.s y.s) g fun J=>I (.ok (true,J)):=fun g=>by
  rw [aOA]
  exact aO6 (n:=xU x.k) hk I o7 p7 (aNw fx hk rfl) (aNw fy hk (by rw [A])) g
 have:=aOR (x:=(x,(f1:Int))) (y:=(y,(f2:Int))) hk (hd:=BB k) (defs:=defs) I o6 a7 (f2:Int) (fun g=>hs g) x.c [] y.c [] k (f2:Int) rfl rfl rfl (by omega)
 exact this
theorem aOQ {defs:List Df} (hd:IE defs): ∀n k,4334970400+n<=k-> ∀f a b,f<=100000->JT a->JT b->cv defs n f a b≠ .error 0-> ∃R,k8 (cv defs n f a b) R/\ ∀I:FD->OS S,BB k a b defs (f:Int) I=I R:=by
 intro n
 induction n with
 |zero=>intro k _ f a b _ _ _ h;exact absurd l4 h
 |succ n A=>
  intro k L f a b hf q z h
  obtain ⟨k,rfl⟩: ∃j,k=j+1:=⟨k-1,by omega⟩
  have hk:F3 k:=by unfold F3;omega
  have A:=A k (by omega)
  have eq:cv defs (n+1) f a b=if f=0 then .error 220 else Ic (hE defs (f-1) a) fun x f1=>Ic (hE defs f1 b) fun y f2=>cl defs n f2 (ee x y):=Sa
  rw [eq] at h ⊢
  by_cases B:f=0
  ·subst B
   refine ⟨.bD (220,0), ?_,fun I=> ?_⟩
   ·rw [if_pos rfl];exact ⟨0,rfl⟩
   ·simp only [BB,jm]
    rfl
  rw [if_neg B] at h ⊢
  have F:oa .i64 ((f:Int)-1)=((f-1:Nat):Int):=by rw [vc (by omega) (by omega)];omega
  have J:((f:Int)==0)=false:=beq_false_of_ne (by omega)
  cases h1:hE defs (f-1) a with
  |error e=>
   refine ⟨.bD (e,0),⟨0,rfl⟩,fun I=> ?_⟩
   simp only [BB,jm,ag hk.fu,ar,F]
   rw [J,n3,n2 (by unfold nH;omega) hd q (by omega),h1]
   rfl
  |ok p=>
   obtain ⟨x,f1⟩:=p
   rw [h1,q9] at h
   rw [q9]
   have O:=Sg h1
   cases h2:hE defs f1 b with
   |error e=>
    refine ⟨.bD (e,0),⟨0,rfl⟩,fun I=> ?_⟩
    simp only [BB,jm,ag hk.fu,ar,F]
    rw [J,n3,n2 (by unfold nH;omega) hd q (by omega),h1]
    dsimp only [pr.elim]
    rw [n2 (by unfold nH;omega) hd z (by omega),h2]
   |ok p=>
    obtain ⟨y,f2⟩:=p
    rw [h2,q9] at h
    rw [q9]
    have T:=Sg h2
    have fx:=(mg hd q.1 h1).2.1
    have fy:=(mg hd z.1 h2).2.1
    obtain ⟨R,M,q2⟩:=aOq (hd:=BB (S:=S) k) (n:=n) (f0:=100000) (fun f a b hf q z E=>A f a b hf q z E) (ee x y) f2 (by omega) (aNY fx fy) h
    exact ⟨R,M,fun I=>(aPb (by omega) hd B hf q z h1 h2 I).trans (q2 I)⟩
noncomputable def Z2 (defs:List Df) (a b:Tm) (f:Int):Bool×Int×Int:=
 if bw a≠0 then (false,0,bw a) else if bw b≠0 then (false,0,bw b) else if f<0\/100000<f then (false,0,2) else
 match cv defs 200000 f.toNat a b with
 | .ok p=>(p.1,(p.2:Int),0)
 | .error e=>(false,0,e)
theorem aO5 (B:F5 k) {defs:List Df} (hd:IE defs) {a b:Tm} (z:In k a) (A:In k b) {f:Int} (I:Bool×Int×Int->OS S):SX k defs a b f I=I (Z2 defs a b f):=by
 have F:4500000000<=k:=B
 have hk:=B.f3
 simp only [SX,aNn]
 obtain ⟨m,J⟩: ∃m,k=m+3:=⟨k-3,by omega⟩
 unfold Z2
 have L: ∀g:bw a=0/\bw b=0,MH k I a b defs f (m+1) 2=I (if f<0\/100000<f then (false,0,2) else match cv defs 200000 f.toNat a b with
   | .ok p=>(p.1,(p.2:Int),0)
   | .error e=>(false,0,e)):=fun g=>by
  simp only [MH,sq]
  rw [show decide ((2:Int)<([(ac a),(ac b)].length:Int))=false from rfl,n3]
  by_cases h1:f<0
  ·rw [decide_eq_true h1,ae,if_pos (.inl h1)]
  rw [decide_eq_false h1,n3]
  by_cases h2:100000<f
  ·rw [decide_eq_true (show f>100000 from h2),ae,if_pos (.inr h2)]
  rw [decide_eq_false (show ¬f>100000 from h2),n3,if_neg (by omega)]
  simp only [ar]
  have M:JT a:=Fm.jt ⟨z.1,g.1⟩
  have O:JT b:=Fm.jt ⟨A.1,g.2⟩
  obtain ⟨R,x,q2⟩:=aOQ (S:=S) hd 200000 k (by omega) f.toNat a b (by omega) M O (aNx hd _ _ _ _ (by omega) z.1 A.1 (by omega))
  rw [show ((f.toNat:Nat):Int)=f by omega] at q2
  rw [q2]
  cases E:cv defs 200000 f.toNat a b with
  |ok p=>rw [E] at x;rw [show R= .ok (p.1,(p.2:Int)) from x];rfl
  |error e=>rw [E] at x;obtain ⟨c,x⟩:=x;rw [x];rfl
 have T:bw a=0->MH k I a b defs f (m+2) 1=I (if bw b≠0 then (false,0,bw b) else if f<0\/100000<f then (false,0,2) else match cv defs 200000 f.toNat a b with
   | .ok p=>(p.1,(p.2:Int),0)
   | .error e=>(false,0,e)):=fun g=>by
  rw [MH]
  simp only [sq,ag hk.fu]
  rw [show decide ((1:Int)<([(ac a),(ac b)].length:Int))=true from rfl,ae,show af [(ac a),(ac b)] 1=some (ac b) from rfl,p9,p9,ar,ar,zy A.1 A.2.1 A.dep]
  by_cases q:bw b=0
  ·rw [q,show (!((0:Int)==0))=false from rfl,n3,if_neg (by simp)]
   exact L ⟨g,q⟩
  ·rw [dj q,sQ,ae,if_pos q]
 have W:MH k I a b defs f (m+3) 0=I (if bw a≠0 then (false,0,bw a) else if bw b≠0 then (false,0,bw b) else if f<0\/100000<f then (false,0,2) else match cv defs 200000 f.toNat a b with
   | .ok p=>(p.1,(p.2:Int),0)
   | .error e=>(false,0,e)):=by
  rw [MH]
  simp only [sq,ag hk.fu]
  rw [show decide ((0:Int)<([(ac a),(ac b)].length:Int))=true from rfl,ae,show af [(ac a),(ac b)] 0=some (ac a) from rfl,p9,p9,ar,ar,zy z.1 z.2.1 z.dep]
  by_cases q:bw a=0
  ·rw [q,show (!((0:Int)==0))=false from rfl,n3,if_neg (by simp)]
   exact T q
  ·rw [dj q,sQ,ae,if_pos q]
 have: ∀n,n=m+3->MH k I a b defs f n 0=MH k I a b defs f (m+3) 0:=fun n h=>by rw [h]
 exact (this k J).trans W
theorem aPg {S:Type} (q:Nat) (I:Bool->OS S):ih (q+400) I=I true:=by kernel_rfl
theorem aPa (hk:F3 k) (I:Bool->OS S):ih k I=I true:=by
 have x:4294968296<=k:=hk
 obtain ⟨q,rfl⟩: ∃q,k=q+400:=⟨k-400,by omega⟩
 exact aPg q I
theorem aN5 (hk:F3 k) {t:Tm} (q:In k t) (I:Bool->OS S): ∃c,A' k t I=I c:=by
 simp only [A',ar]
 obtain ⟨w,h1,h2,x,z⟩:=aDd t q.1 60 (by unfold Mo;omega) (fun r1=>I (decide (r1>60))) q.2.1
 exact ⟨_,h1⟩
def foQ (n:Int):Int:=if n<0\/100000<n then n else n.tmod 60
theorem aO_ (n:Int) (I:Int->OS S):et k n I=I (foQ n):=by
 simp only [et]
 unfold foQ
 by_cases h1:n<0
 ·rw [decide_eq_true h1,ae,if_pos (.inl h1)]
 rw [decide_eq_false h1,n3]
 by_cases h2:100000<n
 ·rw [decide_eq_true (show n>100000 from h2),ae,if_pos (.inr h2)]
 ·rw [decide_eq_false (show ¬n>100000 from h2),n3,if_neg (by omega)]
theorem aNl {defs:List Df} (hd:IE defs) {a b:Tm} (z:pf a) (ob:pf b) (f:Int):(∃e,e≠0/\Z2 defs a b f=(false,0,e))\/ ∃ (v:Bool) (r:Nat),Z2 defs a b f=(v,(r:Int),0)/\cv defs 200000 f.toNat a b= .ok (v,r)/\bw a=0/\bw b=0/\0<=f/\f<=100000:=by
 unfold Z2
 by_cases h1:bw a=0
 case neg=>rw [if_pos h1];exact .inl ⟨_,h1,rfl⟩
 by_cases h2:bw b=0
 case neg=>rw [if_neg (by simp [h1]),if_pos h2];exact .inl ⟨_,h2,rfl⟩
 rw [if_neg (by simp [h1]),if_neg (by simp [h2])]
 by_cases x:f<0\/100000<f
 ·rw [if_pos x];exact .inl ⟨2,by decide,rfl⟩
 rw [if_neg x]
 cases A:cv defs 200000 f.toNat a b with
 |error e=>exact .inl ⟨e,fun q=>aNx hd 200000 f.toNat a b (by omega) z ob (by omega) (by rw [A,q]),rfl⟩
 |ok p=>exact .inr ⟨p.1,p.2,rfl,rfl,h1,h2,by omega,by omega⟩
theorem aOG {defs:List Df}: ∀j f t,xY 220 j (hE defs f t) (hE defs (f+j) t):=fun j f t=>aKK j f t
end
section
variable {S:Type} {k:Nat} {defs:List Df}
theorem aS2 {t:Tm} (q:bw t=0) (hs:t.s=[]) (hk:t.k=1\/t.k=5\/t.k=8\/t.k=12\/t.k=23\/t.k=6/\(kd0 t).k≠5):nf defs t=(oe,false,0):=by
 have x:Rs t.s=none:=by rw [hs];rfl
 have hb:Q5 t=(oe,false,0):=by
  unfold Q5 MP Hv
  rw [x]
  rcases hk with h|h|h|h|h|⟨h,h'⟩
  ·simp [q,h]
  ·simp [q,h]
  ·simp [q,h]
  ·simp [q,h]
  ·simp [q,h]
  ·simp only [if_pos h,if_neg h']
   simp [q]
 have he:pP t=(oe,false,0):=by
  unfold pP
  rw [if_neg (by simp [q]),if_neg (by omega)]
 have z:u9 t=(oe,false,0):=by
  unfold u9
  rw [if_neg (by simp [q]),if_pos (by omega)]
 have A:sf t=(oe,false,0):=by
  unfold sf Q7
  rw [if_neg (by simp [q]),if_neg (by omega),if_neg (by simp [q]),if_neg (by omega)]
 have hu:(Is defs t).2=false:=by
  unfold Is
  rw [if_neg (by omega)]
 unfold nf
 rw [if_neg (by simp [q]),hb,he,z,A,hu]
 rfl
theorem aQ1 {t:Tm} (q:bw t=0) (hs:t.s=[]) (hk:t.k=1\/t.k=5\/t.k=8\/t.k=12\/t.k=23) (n f:Nat):hA defs (n+1) f t= .ok (t,f):=by
 have st:=aS2 (defs:=defs) q hs (by omega)
 have hp:re t=[]:=by
  have:Il t<0:=by
   unfold Il hZ
   split
   ·decide
   ·rw [if_neg (by omega),if_neg (by omega),if_neg (by omega)];decide
  unfold re
  rw [if_neg (by omega),if_neg (by omega)];rfl
 show cz (nf defs) re 220 (n+1) f t=_
 rw [cz,st,if_neg (by simp),if_pos ⟨rfl,rfl⟩,hp,eT]
theorem aTe {t:Tm} (hs:t.s=[]) (hk:t.k=1\/t.k=5\/t.k=8\/t.k=12\/t.k=23) {f r:Nat} {x:Tm} (h:hE defs f t= .ok (x,r)):x=t:=by
 unfold hE at h
 split at h
 ·cases h
 rename_i q
 obtain ⟨m,z⟩: ∃m,nH=m+1:=⟨nH-1,by rfl⟩
 rw [z,aQ1 (Decidable.not_not.1 q) hs hk] at h
 injection h with h;injection h with h _;exact h.symm
theorem aQ3 {a:Tm} {f r:Nat} {x:Tm} (h:hE defs f (dS 6 [vN 0,a])= .ok (x,r)):x=dS 6 [vN 0,a]:=by
 unfold hE at h
 split at h
 ·cases h
 rename_i q
 have q:=Decidable.not_not.1 q
 obtain ⟨m,z⟩: ∃m,nH=m+2:=⟨nH-2,by rfl⟩
 have hv:bw (vN 0)=0:=by rfl
 have st:=aS2 (defs:=defs) q rfl (.inr (.inr (.inr (.inr (.inr ⟨rfl,by show (1:Int)≠5;decide⟩)))))
 rw [z] at h
 change cz (nf defs) re 220 (m+1+1) f (dS 6 [vN 0,a])=_ at h
 rw [cz,st,if_neg (by simp),if_pos ⟨rfl,rfl⟩,show re (dS 6 [vN 0,a])=[0] from rfl,eT] at h
 rw [show cz (nf defs) re 220 (m+1) f (xF (dS 6 [vN 0,a]) 0)= .ok (vN 0,f) from aQ1 hv rfl (.inl rfl) m f] at h
 dsimp only at h
 rw [if_pos (by simp [xF,dS,Tm.c]),eT] at h
 injection h with h;injection h with h _;exact h.symm
theorem mh {a b x y:Tm} {n f r:Nat} (E:cv defs n f a b= .ok (true,r)) (O: ∀ {f r:Nat} {z:Tm},hE defs f x= .ok (z,r)->z=x) (T: ∀ {f r:Nat} {z:Tm},hE defs f y= .ok (z,r)->z=y) (L: ∀i∈ee x y,i= .ask a b\/ ∃c,i= .ask c c): ∀A B F,cv defs A B x y≠ .ok (false,F):=by
 intro A B F h
 cases A with
 |zero=>rw [show cv defs 0 B x y= .error 0 from l4] at h;cases h
 |succ A=>
  change zf (hE defs) ee 220 (A+1) B x y=_ at h
  rw [Sa] at h
  split at h
  ·cases h
  obtain ⟨W,f1,h1,h⟩:=RN h
  obtain ⟨Y,f2,h2,h⟩:=RN h
  rw [O h1,T h2] at h
  rcases aPc h with q|⟨c,d,q,g,s,M⟩
  ·rcases L _ q with e|⟨_,e⟩<;>cases e
  ·rcases L _ q with e|⟨z,e⟩
   ·injection e with I J;subst I;subst J
    have:=aTn (hd:=hE defs) (qs:=ee) (eF:=220) aOG ⟨n,f,r,E⟩ ⟨A,g,s,M⟩
    cases this
   ·injection e with I J;subst I;subst J
    exact aNm aOG aNE _ _ _ _ _ (fun f B x y r F a b=>aOF aOG a b) M
theorem aRv (kd:Int):Mp kd [] []=[]:=by
 unfold Mp
 simp [Ht]
def aS7 (k:Nat) (defs:List Df) (p:Pt):Prop:=In k p.a/\In k p.b/\ ∀n f r,cv defs n f p.a p.b≠ .ok (false,r)
theorem aTk (hF:F5 k) (hj:IE defs) {I:Bool->OS S} {z tf r13 r14 A B E F J M O T:Int×Int×BA×LT} {L:List Pt}
  (Y:L=[(Pt.mk (Tm.mk z.1 z.2.1 z.2.2.1 [] z.2.2.2 []) (Tm.mk tf.1 tf.2.1 tf.2.2.1 [] tf.2.2.2 [])),(Pt.mk (Tm.mk r13.1 r13.2.1 r13.2.2.1 [] r13.2.2.2 []) (Tm.mk r14.1 r14.2.1 r14.2.2.1 [] r14.2.2.2 [])),(Pt.mk (Tm.mk A.1 A.2.1 A.2.2.1 [] A.2.2.2 []) (Tm.mk B.1 B.2.1 B.2.2.1 [] B.2.2.2 [])),(Pt.mk (Tm.mk E.1 E.2.1 E.2.2.1 [] E.2.2.2 []) (Tm.mk F.1 F.2.1 F.2.2.1 [] F.2.2.2 [])),(Pt.mk (Tm.mk J.1 J.2.1 J.2.2.1 [] J.2.2.2 []) (Tm.mk M.1 M.2.1 M.2.2.1 [] M.2.2.2 [])),(Pt.mk (Tm.mk O.1 O.2.1 O.2.2.1 [] O.2.2.2 []) (Tm.mk T.1 T.2.1 T.2.2.1 [] T.2.2.2 []))])
  (hg: ∀p∈L,aS7 k defs p): ∀ (r p:List Pt) (m:Nat),L=p++r->r.length<m->qp k I z tf r13 r14 A B E F J M O T defs m (p.length:Int)=I true:=by
 have hk:=hF.f3
 have hlen:L.length=6:=by rw [Y];rfl
 intro r
 induction r with
 |nil=>
  intro p m h hm
  obtain ⟨m,rfl,W⟩:=pw hm
  simp only [qp,r9,<-Y,xu h,n3]
 |cons x r ih=>
  intro p m h hm
  obtain ⟨m,rfl,W⟩:=pw hm
  obtain ⟨e1,e2,e3,e4⟩:=qF h (by omega)
  obtain ⟨i1,i2,i3⟩:=hg x (by rw [h];simp)
  have next:=ih _ m e4 W
  simp only [qp,r9,<-Y,e1,ae,e2,p9,ag hk.fu,ar,e3,yq (show (0:Int)<=0/\(0:Int)<2 by decide),yq (show (0:Int)<=1/\(1:Int)<2 by decide),aO5 hF hj i1 i2,next]
  rcases aNl hj i1.1 i2.1 200 with ⟨e,he,q⟩|⟨v,s,q,hc,_⟩
  ·rw [q];dsimp only;rw [dj he,n3];rfl
  ·rw [q]
   cases v with
   |true=>rfl
   |false=>exact absurd hc (i3 _ _ _)
theorem aTm (T:F5 k) (hd:Ix k defs) {a b c:Tm} (L:In k a) (M:In k b) (F:In k c) {fuel:Int} (h1:aG fuel) (I:Bool->OS S):hR k defs a b c fuel I=I true:=by
 have hk:=T.f3
 have Y:4294968296<=k:=hk
 simp only [hR,bf,ag hk.fu,ar,aPa hk,uX,n3]
 generalize E:(fun J:Bool=>ab J (I true) _)=R
 obtain ⟨v,c1⟩:=aN5 hk L R
 refine c1.trans ?_
 rw [<-E]
 cases v with
 |true=>rfl
 |false=>
 dsimp only
 rw [n3]
 generalize E:(fun J:Bool=>ab J (I true) _)=R
 obtain ⟨v,c1⟩:=aN5 hk M R
 refine c1.trans ?_
 rw [<-E]
 cases v with
 |true=>rfl
 |false=>
 dsimp only
 rw [n3]
 generalize E:(fun J:Bool=>ab J (I true) _)=R
 obtain ⟨v,c1⟩:=aN5 hk F R
 refine c1.trans ?_
 rw [<-E]
 cases v with
 |true=>rfl
 |false=>
 dsimp only
 rw [n3]
 generalize E:(fun r3:Bool=>ab r3 (I true) _)=R
 obtain ⟨v,c1,c2⟩:=aIr hk hd R
 refine c1.trans ?_
 rw [<-E]
 cases v with
 |true=>rfl
 |false=>
 dsimp only
 obtain ⟨_,hj,_⟩:=c2 rfl
 rw [n3,zy F.1 F.2.1 F.dep]
 by_cases g0:bw c=0
 case neg=>rw [dj g0];rfl
 rw [g0,show (!((0:Int)==0))=false from rfl,n3]
 simp only [aH6 hk hd.1,aO_,aO5 T hj L M]
 rcases aNl hj L.1 M.1 (foQ fuel) with ⟨e,he,q⟩|⟨v,r,q,hc,ga,gb,_⟩
 ·rw [q];dsimp only;rw [dj he];rfl
 rw [q]
 cases v with
 |false=>rfl
 |true=>
 dsimp only
 rw [show (!((0:Int)==0))=false from rfl,n3,uX,n3]
 simp only [F6,ag hk.fu]
 have fa:FN a:= .inl ⟨L.1,ga⟩
 have fb:FN b:= .inl ⟨M.1,gb⟩
 have O:FN c:= .inl ⟨F.1,g0⟩
 have fv:=Mi (n:=0) (by omega)
 have mq: ∀ {kd:Int} {x:Tm},0<=kd/\kd<=28->FN x->In k (dS kd [x]):=fun h fx=>(Sk h fx).1.isIn hk (by omega)
 have two: ∀ {kd:Int} {x y:Tm},0<=kd/\kd<=28->FN x->FN y->In k (dS kd [x,y]):=fun h fx fy=>(Ih h (d:=200) fx.sm fy.sm (by omega)).1.isIn hk (by omega)
 have app: ∀ {x:Tm},FN x->In k (dS 6 [vN 0,x]):=fun fx=>(Ih (kd:=6) (by omega) (d:=200) fv fx.sm (by omega)).1.isIn hk (by omega)
 have B: ∀ {kd:Int} {W:LT} {f r:Nat} {z:Tm},(kd=5\/kd=8\/kd=12\/kd=23)->hE defs f (dS kd W)= .ok (z,r)->z=dS kd W:=fun h hz=>aTe (t:=dS _ _) rfl (.inr h) hz
 refine aTk T hj rfl (fun p hp=> ?_) _ [] k rfl (by simp;omega)
 simp only [xB,List.not_mem_nil,or_false] at hp
 rcases hp with rfl|rfl|rfl|rfl|rfl|rfl
 ·exact ⟨mq (kd:=5) (by omega) fa,mq (kd:=5) (by omega) fb,mh hc (B (.inl rfl)) (B (.inl rfl)) fun i A=> .inl (by simpa [ee,H3,dS,Tm.k,Tm.c] using A)⟩
 ·exact ⟨two (kd:=8) (by omega) fa O,two (kd:=8) (by omega) fb O,mh hc (B (.inr (.inl rfl))) (B (.inr (.inl rfl))) fun i A=>by
   have A:i∈[It.ask a b,It.ask c c]:=A
   simp at A
   rcases A with rfl|rfl
   ·exact .inl rfl
   ·exact .inr ⟨c,rfl⟩⟩
 ·exact ⟨two (kd:=8) (by omega) O fa,two (kd:=8) (by omega) O fb,mh hc (B (.inr (.inl rfl))) (B (.inr (.inl rfl))) fun i A=>by
   have A:i∈[It.ask c c,It.ask a b]:=A
   simp at A
   rcases A with rfl|rfl
   ·exact .inr ⟨c,rfl⟩
   ·exact .inl rfl⟩
 ·exact ⟨mq (kd:=12) (by omega) fa,mq (kd:=12) (by omega) fb,mh hc (B (.inr (.inr (.inl rfl)))) (B (.inr (.inr (.inl rfl)))) fun i A=> .inl (by simpa [ee,KT,dS,Tm.k,Tm.c] using A)⟩
 ·exact ⟨app fa,app fb,mh hc aQ3 aQ3 fun i A=>by
   have A:i∈[It.ask (vN 0) (vN 0),It.ask a b]++Mp 6 [] []:=by simpa [ee,dS,vN,Tm.k,Tm.c,Tm.n,Tm.name,Tm.r,Tm.s] using A
   rw [aRv,xG] at A
   simp at A
   rcases A with rfl|rfl
   ·exact .inr ⟨_,rfl⟩
   ·exact .inl rfl⟩
 ·exact ⟨mq (kd:=23) (by omega) fa,mq (kd:=23) (by omega) fb,mh hc (B (.inr (.inr (.inr rfl)))) (B (.inr (.inr (.inr rfl)))) fun i A=>by
   have A:i∈[It.ask a b]++Mp 23 [] []:=by simpa [ee,dS,Tm.k,Tm.c,Tm.n,Tm.name,Tm.r,Tm.s] using A
   rw [aRv,xG] at A
   exact .inl (by simpa using A)⟩
end
section
open Go PI Go.ChangeShapes Go.WideShapes Go.ChangeAt Go.RowKit
section
variable {H:Type} {enc:TypeId×Value->H} {w:World} {base:Nat} {spare:Nat->Bool} {held:Bool} {o:Obj} {N:aN} {g:Gh UU}
def QDf (x:Df) (d:DataW H):Prop:=QT x.body d
theorem aG9 (B: ∀b o,¬N b o) (n:Nat) (cs:List Value) (d:DataW H) (pl:List MemPlace) (h:jG enc w base spare held n 50 cs=some (d,pl)): ∃x:EL ET.G,oM o w N g ET.G x cs/\QDf (show Df from x) d:=by
 have E:Tryz.prog.cellsOf 9=1:=by kernel_rfl
 have cT:Tryz.prog.cellsOf 27=6:=by kernel_rfl
 cases n with
 |zero=>cases h
 |succ n=>
  obtain ⟨xs,m,M,q,hl,hlen,hf⟩:=DataW.trod_struct Tryz.underlying50 h
  obtain rfl:n=m:=by omega
  injection q with q _
  subst q
  have z:cs.length=7:=hl.trans (by kernel_rfl)
  match cs,z,xs,hlen with
  |[a0,a1,a2,a3,a4,a5,O],_,[T,y1],_=>
  have A:=hf 0 _ rfl
  have h1:=hf 1 _ rfl
  simp [E,cT] at A h1
  obtain ⟨s,F,k0,_⟩:=DataW.trod_string Tryz.underlying9 A
  obtain rfl:a0= .string s:=by simpa using F
  obtain ⟨t,I,J⟩:=(ahu (o:=o) (g:=g) B n).1 _ _ _ h1
  refine ⟨(⟨s,show Tm from t⟩:Df),fun k p hp=> ?_, ?_⟩
  ·cases k with
   |zero=>cases hp;exact ⟨_,rfl,.str _⟩
   |succ k=>
    obtain ⟨v,hv,L⟩:=I k p (by
     revert hp
     generalize (show Tm from t)=u
     intro hp
     cases u
     exact hp)
    exact ⟨v,hv,L⟩
  ·obtain ⟨W,q2⟩:=J
   unfold QDf QT
   simp only [Fy,List.map_nil,Rows.uptoBulk,Rows.uptoBulkAll]
   exact ⟨by show au (show Tm from t)<=_;omega,fun hb=>q2 (by omega)⟩
theorem aEV (B: ∀b o,¬N b o) {W:World} {base:Nat} {v:Value} {d:DataW H} {ps:List MemPlace} (hv:Value.okWide Tryz.prog W .any base 22 v) (h:DataW.Trod enc Tryz.prog w 0 spare held 22 v d ps):
  ∃l:List Df,po (LL o) w N g v (su l .none)/\l.length+1<=Rows.uptoBulk d/\ ∀x∈l,au x.body<=Rows.uptoBulk d/\(Rows.uptoBulk d<1073741824->pf x.body):=by
 obtain ⟨a,len,cap,rfl⟩:=okWide_slice Tryz.underlying22 hv
 obtain ⟨n,hn⟩:=h
 cases n with
 |zero=>cases hn
 |succ n=>
  obtain ⟨c,l,q,hc,I,hl,J,hb⟩:=FW (e:=ET.G) (Q:=fun x d=>QDf (show Df from x) d) B Tryz.underlying22 (by kernel_rfl) (fun cs d pl h=>aG9 B n cs d pl h) hn
  obtain rfl:c= .slice a len cap:=by simpa [Value.cells] using hc.symm
  have E:=Dr (l:=q)
  have L: @EO Df l=q.length:=hl
  refine ⟨l,I,by omega,fun x M=> ?_⟩
  obtain ⟨i,F⟩:=List.getElem?_of_mem M
  have z:i<q.length:=by rw [<-hl];exact (Dg.1 F).1
  have A:QT (Df.body x) q[i]:=J i x _ F (zk z)
  obtain ⟨T,q2⟩:=A
  have hle: ∀ (l:List (DataW H)) (i:Nat) (h:i<l.length),Rows.uptoBulk l[i]<=Rows.uptoBulkAll l:=by
   intro l
   induction l with
   |nil=>intro i h;cases h
   |cons y l O=>
    intro i h
    rw [Rows.uptoBulkAll]
    cases i with
    |zero=>simp
    |succ i=>have:=O i (by simpa using h);simp;omega
  have:=hle q i z
  exact ⟨by omega,fun h=>q2 (by omega)⟩
end
set_option maxHeartbeats 4000000
theorem adj {k:Nat} (hk:4296016872<=k) {H:Type} {t:Tm} {d:DataW H} (h:QT t d) (hb:Rows.uptoBulk d<=1048576):In k t:=by
 have h1:=h.1
 have h2:=zG t
 exact ⟨h.2 (by omega),by unfold Fd;omega,by omega⟩
theorem aFb {k:Nat} (hk:4296016872<=k) {H:Type} {l:List Df} {d:DataW H} (h1:l.length+1<=Rows.uptoBulk d) (h: ∀x∈l,au x.body<=Rows.uptoBulk d/\(Rows.uptoBulk d<1073741824->pf x.body)) (hb:Rows.uptoBulk d<=1048576):Ix k l:=
 ⟨by omega,fun x q=>by
  obtain ⟨z,q2⟩:=h x q
  have h2:=zG x.body
  exact ⟨q2 (by omega),by unfold Fd;omega,by omega⟩⟩
theorem nO {H:Type} {enc:TypeId×Value->H} {w:World} {spare:Nat->Bool} {held:Bool} {o:Obj} {N:aN} {g:Gh UU} (E: ∀b o,¬N b o) {W:World} {base:Nat} {v:Value} {d:DataW H} {ps:List MemPlace} (hv:Value.okWide Tryz.prog W .any base 3 v) (h:DataW.Trod enc Tryz.prog w 0 spare held 3 v d ps):
  ∃n:Int,po (LL o) w N g v (.int .i64 n)/\aG n:=by
 obtain ⟨n,rfl⟩:=okWide_int Tryz.underlying3 hv
 obtain ⟨q,x⟩:=h
 obtain ⟨z,A,B⟩:=NT x
 obtain rfl:n=z:=by simpa [Value.cells] using A
 exact ⟨n,.int _ _,B⟩
theorem pA (q:Nat) {t0:List Df} {a1 b1:Int} {c1:ByteArray} {d1:List Cl} {x:List Tm} {f1:List (Br Tm)} {a2 z:Int} {c2:ByteArray} {d2:List Cl} {A:List Tm} {f2:List (Br Tm)} {a3 B:Int} {c3:ByteArray} {d3:List Cl} {E:List Tm} {f3:List (Br Tm)} {t4:Int}:ht (S:=Out UU) q [su t0 .none,.agg (Ah ET.T (Tm.mk a1 b1 c1 d1 x f1)),.agg (Ah ET.T (Tm.mk a2 z c2 d2 A f2)),.agg (Ah ET.T (Tm.mk a3 B c3 d3 E f3)),.int .i64 t4] [] some=aa q (hR q t0 (Tm.mk a1 b1 c1 d1 x f1) (Tm.mk a2 z c2 d2 A f2) (Tm.mk a3 B c3 d3 E f3) t4) fun r=>some (Out.ret (U:=UU) (.bool r) []):=by kernel_rfl
theorem apP {j:Nat} (q:F5 (j+1)) {t0:List Df} (x:Ix (j+1) t0) {t1:Tm} (h1:In (j+1) t1) {t2:Tm} (h2:In (j+1) t2) {t3:Tm} (z:In (j+1) t3) {t4:Int} (A:aG t4):ht (S:=Out UU) (j+1) [su t0 .none,.agg (Ah ET.T t1),.agg (Ah ET.T t2),.agg (Ah ET.T t3),.int .i64 t4] [] some=some (.ret (.bool true) []):=by
 obtain ⟨a1,B,c1,d1,E,f1⟩:=t1
 obtain ⟨a2,F,c2,d2,I,f2⟩:=t2
 obtain ⟨a3,J,c3,d3,L,f3⟩:=t3
 exact (pA (j+1)).trans ((ZV (by omega) _ _).trans (aTm q x h1 h2 z A fun r=>some (Out.ret (U:=UU) (.bool r) [])))
theorem agd {k:Nat} (hk:5000000000<=k) {o:Obj} (ho:ai o) {t0:List Df} (z:Ix k t0) {t1:Tm} (h1:In k t1) {t2:Tm} (h2:In k t2) {t3:Tm} (A:In k t3) {t4:Int} (B:aG t4):
  ci (LL o) 6 [su t0 .none,.agg (Ah ET.T t1),.agg (Ah ET.T t2),.agg (Ah ET.T t3),.int .i64 t4] [] (.ret (.bool true) []):=by
 have E:F5 k:=by unfold F5;omega
 obtain ⟨j,rfl⟩: ∃j,k=j+1:=⟨k-1,by omega⟩
 obtain ⟨out,q,x⟩:=aTr (S:=Out UU) o ho (j+1) [su t0 .none,.agg (Ah ET.T t1),.agg (Ah ET.T t2),.agg (Ah ET.T t3),.int .i64 t4] [] some (.ret (.bool true) []) (apP E z h1 h2 A B)
 injection x with x
 exact x▸q
theorem agc (H:Type) (enc:TypeId×Value->H) (W:World) (base:Nat) (args:Array Value) (ds gs:List (DataW H)) (before:List MemPlace)
  (x: ∀ (j:Nat) t v,Tryz.f6.params[j]? =some t->args[j]? =some v->Value.okWide Tryz.prog W .any base t v)
  (J:DataW.Whole enc Tryz.prog Tryz.f6.params.toList Rows.convMakesSpec.vars false W args.toList ds gs before) (M:laidMetH Tryz.prog Rows.convMakesRow.laid W) (hb:Rows.uptoBulkAll (ds++gs)<=1048576):
  Calls Tryz.prog 6 args W fun e W'=> ∃v,e= .returned v/\Rows.convMakesSpec.post enc Tryz.prog Tryz.f6 false true false false W args v W':=by
 have A:=J
 obtain ⟨p,q,B,hV,rfl,O,T⟩:=J
 have hA:DataW.TrodAll enc Tryz.prog W 0 (fun _=>true) true Tryz.f6.params.toList args.toList ds p:=B
 rw [Tryz.params6] at hA x
 obtain ⟨v0,Y,d0,ad,p0,q0,E,rfl,rfl,h0,r0⟩:=trodAll_cons hA
 obtain ⟨v1,ao,d1,ax,p1,q1,rfl,rfl,rfl,h1,r1⟩:=trodAll_cons r0
 obtain ⟨v2,az,d2,a6,p2,q2,rfl,rfl,rfl,h2,r2⟩:=trodAll_cons r1
 obtain ⟨v3,a7,d3,a8,p3,q3,rfl,rfl,rfl,h3,r3⟩:=trodAll_cons r2
 obtain ⟨v4,bc,d4,bf,p4,q4,rfl,rfl,rfl,h4,r4⟩:=trodAll_cons r3
 obtain ⟨rfl,rfl,rfl⟩:=trodAll_nil r4
 obtain rfl:args= #[v0,v1,v2,v3,v4]:=by cases args;simp_all
 obtain ⟨rfl,rfl⟩:=trodVars_none hV
 obtain ⟨o,ho,hh⟩:=akL M
 simp only [xG,Rows.uptoBulkAll,Nat.add_zero] at hb
 obtain ⟨t0,e0,m0⟩:=aEV (o:=o) (g:=gB UU 0 fun _=>0) uv (x 0 22 v0 rfl rfl) h0
 obtain ⟨t1,e1,k1⟩:=ZG (o:=o) (g:=gB UU 0 fun _=>0) uv h1
 obtain ⟨t2,e2,k2⟩:=ZG (o:=o) (g:=gB UU 0 fun _=>0) uv h2
 obtain ⟨t3,e3,k3⟩:=ZG (o:=o) (g:=gB UU 0 fun _=>0) uv h3
 obtain ⟨t4,e4,k4⟩:=nO (o:=o) (g:=gB UU 0 fun _=>0) uv (x 4 3 v4 rfl rfl) h4
 have hk:(5000000000:Nat)<=5000000000:=xq _
 generalize bh:(5000000000:Nat)=k at hk
 have F:=agd (k:=k) (by omega) ho (aFb (by omega) m0.1 m0.2 (by omega)) (adj (by omega) k1 (by omega)) (adj (by omega) k2 (by omega)) (adj (by omega) k3 (by omega)) k4
 refine (ZW F (adb hh rfl rfl fun j p hj=> ?_)).mono ?_
 ·match j,hj with
  |0,hj=>cases hj;exact e0
  |1,hj=>cases hj;exact e1
  |2,hj=>cases hj;exact e2
  |3,hj=>cases hj;exact e3
  |4,hj=>cases hj;exact e4
  |j+5,hj=>simp at hj
 ·rintro e W' ⟨rfl,z⟩
  refine ⟨_,rfl,ahF rfl rfl (fun t L=> ?_) rfl A z⟩
  rw [Tryz.params6] at L
  have I:t=22\/t=27\/t=27\/t=27\/t=3:=by simpa using L
  rcases I with rfl|rfl|rfl|rfl|rfl<;>exact of_decide_eq_true (by kernel_rfl)
noncomputable def Fb (os:Os):World:=
 {World.holding Tryz.prog os ⟨#[],#[],[]⟩ with heap:=(World.holding Tryz.prog os ⟨#[],#[],[]⟩).heap.modify 0 fun
   | .cells _ t frozen=> .cells (Lib.deBruijn32tab.map fun n:Nat=>Value.int .u8 n).toArray t frozen
   |o=>o}
def alC:Value:= .agg #[.int .i64 0,.int .i64 0,.string oW,.slice none 0 0,.slice none 0 0,.slice none 0 0]
def zr:Array Value:= #[.slice none 0 0,alC,alC,alC,.int .i64 0]
def alA {H:Type}:DataW H:= .agg [.lit (.int .i64 0),.lit (.int .i64 0),.lit (.string []),.nil,.nil,.nil]
theorem af_ (os:Os):laidMet Tryz.prog Rows.convMakesRow.laid ((Fb os).forCall (fun _ _=>0) ⟨#[],zr,[]⟩).memory:=
 laidMet_of_run' 8 (by kernel_rfl) (by kernel_rfl)
theorem aim (os:Os) {H:Type} (enc:TypeId×Value->H): ∃places,DataW.whole enc Tryz.prog ((Fb os).forCall (fun _ _=>0) ⟨#[],zr,[]⟩).memory Tryz.f6.params.toList Rows.convMakesSpec.vars false zr.toList 8=some ([.nil,alA,alA,alA,.lit (.int .i64 0)],[],places):=
 ⟨[],by kernel_rfl⟩
theorem agw (os:Os) (started:os.Started) (H:Type) (enc:TypeId×Value->H) (F:Stop.Interp):
  ReturnsInHanded {} Tryz.checked os 6 .any ((Rows.OpenSpec.upto Rows.convMakesSpec).preRow enc Tryz.prog Tryz.f6 Rows.convMakesUptoRow.domain false Rows.convMakesUptoRow.laid) (((Rows.OpenSpec.upto Rows.convMakesSpec).at F).post enc Tryz.prog Tryz.f6 false true false false):=by
 obtain ⟨places,z⟩:=aim os enc
 refine returnsInHanded_of_row (C:=Tryz.checked) (s:=Rows.OpenSpec.upto Rows.convMakesSpec) own started (by kernel_rfl) Tryz.func6
  (witness_row_at (enc:=enc) (C:=Tryz.checked) false (Fb os) zr rfl (by kernel_rfl) (by kernel_rfl) (by kernel_rfl)
   (OpenSpec.preRow_of_cond 8 z (by kernel_rfl) (fun k hk=>by cases hk;kernel_rfl) (by kernel_rfl) (af_ os))) ?_
 intro W base args A gs before x B _ q _ E _ _
 exact agc H enc W base args A gs before x B E (of_decide_eq_true (q _ rfl))
theorem aj3:Rows.ConvMakesUptoSaid:=
 OpenClaim.holds_of_cond 6 Tryz.f6 rfl rfl rfl rfl rfl rfl rfl ⟨rfl,rfl,rfl,rfl,rfl⟩ rfl rfl rfl rfl rfl (by as_aux_lemma=>kernel_rfl) Tryz.func6 adt
  (of_decide_eq_true (by as_aux_lemma=>kernel_rfl)) (by unfold Func.isWrapper;first|(rw [if_pos (by decide+kernel)];kernel_rfl)|(rw [if_neg (by decide+kernel)];exact ⟨rfl,rfl⟩))
  (fun os started H enc _ F=>by rw [OpenClaim.pre_eq_preRow];exact agw os started H enc F)
theorem plain (f:FuncId) (fn:Func) (hf:Tryz.pinned.checked.prog.funcNamed "hypercube/hypercubelaw24.ConvMakes" =some f) (q:Tryz.pinned.checked.prog.funcs[f]? =some fn):
  true=Tryz.pinned.checked.prog.looks []/\ ∀ (j:Nat) t,fn.params[j]? =some t->Tryz.pinned.checked.prog.wantsStandIn t=false:=by
 obtain rfl:f=6:=Option.some.inj ((show Tryz.prog.funcNamed "hypercube/hypercubelaw24.ConvMakes" =some 6 by kernel_rfl).symm.trans hf)|>.symm
 obtain rfl:fn=Tryz.f6:=(Option.some.inj (Tryz.func6.symm.trans q)).symm
 refine ⟨by kernel_rfl,fun j t z=> ?_⟩
 rw [Tryz.params6] at z
 have x:t=22\/t=27\/t=27\/t=27\/t=3:=by simpa using Array.mem_of_getElem? z
 rcases x with rfl|rfl|rfl|rfl|rfl
 ·exact (show Tryz.prog.wantsStandIn 22=false by kernel_rfl)
 ·exact (show Tryz.prog.wantsStandIn 27=false by kernel_rfl)
 ·exact (show Tryz.prog.wantsStandIn 27=false by kernel_rfl)
 ·exact (show Tryz.prog.wantsStandIn 27=false by kernel_rfl)
 ·exact (show Tryz.prog.wantsStandIn 3=false by kernel_rfl)
theorem convMakes_holds:Rows.ConvMakesUptoCardSaid:=
 Claim7.holds_tied_plain_at .later [] _ _ _ _ aj3 (fun _ h=>by cases h) (by as_aux_lemma=>kernel_rfl) (fun _ h=>by cases h) convMakesUpto_row_tie rfl ⟨rfl,rfl⟩ (by as_aux_lemma=>kernel_rfl) rfl plain (by as_aux_lemma=>kernel_rfl)
#print axioms convMakes_holds
end
end Go.Proofs.YtfffkmcpnggkdaaGreatDoor
