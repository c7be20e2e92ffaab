/- hypercubelaw22.HeadMay returns true for all definitions, every term, any two numbers and any fuel: a head of a term that may be may be, too; the card with an upper bound of the input's bulk. -/
import Derived.Test.YtgmmefmmnakbpaaGreatDoorX5
import Derived.KernelRfl
open Bool renaming and_eq_true→qC,not_false→ub,not_true→xJ
open ByteArray renaming empty→qw
open Eq renaming trans→qy
open Go.IntKind renaming wrap→p5
open Int renaming add_zero→xm,le_refl→BF
open List renaming all_cons→EZ,append_nil→zr,getElem?_eq_getElem→Bw,getElem?_eq_some_iff→E8,length_append→Is,length_cons→uL,map_cons→HW,mem_append→zx,mem_map→xq,nil_append→An
open Nat renaming le_refl→zk,le_trans→zj,mul_le_mul_right→Iq,zero_add→FF
open Option renaming bind_some→rf
set_option linter.unusedVariables false
set_option linter.unusedSimpArgs false
namespace Go.Proofs.YtgmmefmmnakbpaaGreatDoor
set_option maxRecDepth 100000
open Go PI
section
variable {S:Type} {k:Nat}
def Ns (t:Tm):Tm×Bool×Int:=
 if t.k=6 then (if (kd0 t).k=5 then ((tE (ri 0 (kd0 (kd0 t)) (LA t))).1,true,(tE (ri 0 (kd0 (kd0 t)) (LA t))).2) else H5 t) else
 if t.k=9 then (if (kd0 t).k=8 then (kd0 (kd0 t),true,0) else H5 t) else
 if t.k=10 then (if (kd0 t).k=8 then (LA (kd0 t),true,0) else H5 t) else
 if t.k=13 then sc t else
 if t.k=21 then ((Sg t).1,(Sg t).2,0) else
 if t.k=26 then ((Sg t).1,(Sg t).2,0) else
 if t.k=22 then ((S3 t).1,(S3 t).2,0) else
 if t.k=27 then ((Sw t).1,(Sw t).2,0) else
 if t.k=28 then (kd0 t,true,0) else
 if t.k=14 then (LA t,NX t.r==1,0) else
 if t.k=18 then (if (H5 t).2.1=true then ((H5 t).1,true,(H5 t).2.2) else if (kd0 t).k=17 then (kd0 (kd0 t),true,(H5 t).2.2) else H5 t) else H5 t
theorem aEW {t:Tm} (h:t.k=18):(H5 t).2.2=0:=by
 grind [H5]
theorem aHY (B:F4 k) {t:Tm} (ft:Fm t) (I:Tm×Bool×Int->OS S):cD k t 0 I=I (Ns t):=by
 have hk:=B.f3
 have W: ∀g:Tm×Bool×Int->OS S,aJ k t 0 g=g (H5 t):=fun g=>aH0 hk ft g
 simp only [cD,ag hk.fu,ar,W]
 unfold Ns
 by_cases E:t.k=6
 ·have hl:=E5 ft E (n:=2) rfl
  obtain ⟨g0,m0⟩:=zh hl (i:=0) (by omega)
  obtain ⟨g1,m1⟩:=zh hl (i:=1) (by omega)
  have g0:af t.c 0=some (kd0 t):=g0
  have g1:af t.c 1=some (LA t):=g1
  rw [if_pos E,E,show ((6:Int)==6)=true from rfl,ae,g0,rf]
  by_cases Y:(kd0 t).k=5
  ·have h:=E5 (ft.bD m0) Y (n:=1) rfl
   obtain ⟨g,m⟩:=zh h (i:=0) (by omega)
   have g:af (kd0 t).c 0=some (kd0 (kd0 t)):=g
   rw [if_pos Y,Y,show ((5:Int)==5)=true from rfl,ae,rf,g,rf,g1,rf,Hf B (fun _=>⟨((ft.bD m0).bD m).isIn hk,(ft.bD m1).isIn hk⟩)]
   rfl
  grind [n3]
 rw [if_neg E,beq_false_of_ne E,n3]
 by_cases F:t.k=9
 ·have hl:=E5 ft F (n:=1) rfl
  obtain ⟨g0,m0⟩:=zh hl (i:=0) (by omega)
  have g0:af t.c 0=some (kd0 t):=g0
  rw [if_pos F,F,show ((9:Int)==9)=true from rfl,ae,g0,rf]
  by_cases x:(kd0 t).k=8
  ·have h:=E5 (ft.bD m0) x (n:=2) rfl
   obtain ⟨g,_⟩:=zh h (i:=0) (by omega)
   have g:af (kd0 t).c 0=some (kd0 (kd0 t)):=g
   rw [if_pos x,x,show ((8:Int)==8)=true from rfl,ae,rf,show p5 .i64 ((9:Int)-9)=0 from rfl,g,rf]
  grind [n3]
 rw [if_neg F,beq_false_of_ne F,n3]
 by_cases j:t.k=10
 ·have hl:=E5 ft j (n:=1) rfl
  obtain ⟨g0,m0⟩:=zh hl (i:=0) (by omega)
  have g0:af t.c 0=some (kd0 t):=g0
  rw [if_pos j,j,show ((10:Int)==10)=true from rfl,ae,g0,rf]
  by_cases x:(kd0 t).k=8
  ·have h:=E5 (ft.bD m0) x (n:=2) rfl
   obtain ⟨g,_⟩:=zh h (i:=1) (by omega)
   have g:af (kd0 t).c 1=some (LA (kd0 t)):=g
   rw [if_pos x,x,show ((8:Int)==8)=true from rfl,ae,rf,show p5 .i64 ((10:Int)-9)=1 from rfl,g,rf]
  grind [n3]
 rw [if_neg j,beq_false_of_ne j,n3]
 by_cases J:t.k=13
 ·grind [ae,aHX]
 rw [if_neg J,beq_false_of_ne J,n3]
 by_cases L:t.k=21
 ·grind [ae,aC7]
 rw [if_neg L,beq_false_of_ne L,n3]
 by_cases M:t.k=26
 ·grind [ae,aC7]
 rw [if_neg M,beq_false_of_ne M,n3]
 by_cases O:t.k=22
 ·grind [ae,aHW]
 rw [if_neg O,beq_false_of_ne O,n3]
 by_cases T:t.k=27
 ·grind [ae,aHZ]
 rw [if_neg T,beq_false_of_ne T,n3]
 by_cases z:t.k=28
 ·have hl:=E5 ft z (n:=2) rfl
  grind [af,ae]
 rw [if_neg z,beq_false_of_ne z,n3]
 by_cases A:t.k=14
 ·have hl:=E5 ft A (n:=2) rfl
  grind [af,ae,azS]
 rw [if_neg A,beq_false_of_ne A,n3]
 by_cases q:t.k=18
 ·have hl:=E5 ft q (n:=1) rfl
  obtain ⟨g0,m0⟩:=zh hl (i:=0) (by omega)
  have g0:af t.c 0=some (kd0 t):=g0
  rw [if_pos q,q,show ((18:Int)==18)=true from rfl,ae,aEW q]
  by_cases hb:(H5 t).2.1=true
  ·grind [ae]
  ·have ad:(H5 t).2.1=false:=by grind
   rw [if_neg hb,ad,n3,g0,rf]
   by_cases ao:(kd0 t).k=17
   ·have h:=E5 (ft.bD m0) ao (n:=1) rfl
    grind [af,ae]
   grind [n3]
 grind [n3]
def Ob (x:Tm):Prop:=p9 x/\am x<=300
theorem Fm.ob {x:Tm} (h:Fm x):Ob x:=⟨h.ok,by have:=h.dep;omega⟩
theorem Q2.ob {x:Tm} (h:Q2 x):Ob x:=⟨h.1.ok,by have:=h.2;omega⟩
theorem S9:Ob pX:=Mh.ob
theorem azs {t:Tm} (ft:Fm t) (i:Nat):FN (t.c.getD i pX):=by
 by_cases h:i<t.c.length
 ·exact .inl (ft.bD (zh (t:=t) rfl h).2)
 ·rw [List.getD_eq_getElem?_getD,List.getElem?_eq_none (by omega)];exact .inr rfl
theorem FN.ob {x:Tm} (h:FN x):Ob x:=h.elim Fm.ob fun e=>by rw [e];exact S9
theorem aGG {t:Tm} (ft:FN t) (i:Nat):FN (t.c.getD i pX):=by
 rcases ft with h|h
 ·exact azs h i
 ·rw [h];exact .inr (by rfl)
theorem b3 {x:Except Int Tm} (h: ∀t,x= .ok t->Q2 t):Ob (tE x).1:=by
 cases x with
 |error e=>exact S9
 |ok t=>exact (h t rfl).ob
theorem a7 (n:Int) (h:0<=n/\n<=28):Ob (dS n []):=by
 unfold dS
 refine ⟨?_, ?_⟩
 ·rw [p9,aZ,ba];exact ⟨⟨by unfold aG;omega,by unfold aG;omega,by decide,(fun c hc=>by cases hc),by simp,by simp,by simp⟩,trivial,trivial⟩
 grind [am,aH,aO]
theorem aEX {t:Tm} (ft:Fm t):Ob (H5 t).1:=by
 unfold H5
 split
 ·exact S9
 rename_i b hb
 have j:=qT hb
 have fb:FN (AK b):=by
  unfold AK
  cases hk:b.c with
  |nil=>exact .inr rfl
  |cons x r=>exact .inl (ft.brk j (by grind))
 split
 ·exact b3 fun t h=>Sx fb.sm.1.ok h
 split
 ·have q:=MO (kd:=9) (by omega) fb.sm (by omega)
  have z:=(azs ft 0).sm
  have:=Mr (kd:=6) (by omega) (d:=201) q ⟨z.1,by omega⟩ (by omega)
  exact ⟨this.1.ok,zj this.2 (by omega)⟩
 split
 ·exact fb.ob
 ·exact S9
theorem aCC {r:LC} (q:aq r/\r.length<1073741824) {x y z:Tm} {n:Nat} (A:Sm n x/\am x<=201) (h:FN y) (j:FN z):Ob (pap r x y z):=by
 have:=ht q (d:=201) A ⟨h.sm.1,by have:=h.sm.2;omega⟩ ⟨j.sm.1,by have:=j.sm.2;omega⟩ (by omega)
 exact ⟨this.1.ok,by omega⟩
theorem aA9 {x:Tm} (h:FN x):aq x.r/\x.r.length<1073741824:=⟨h.sm.1.ok.no.2.2.2.1,h.sm.1.ok.no.2.2.2.2.1⟩
theorem Il {c:Prop} [Decidable c] {a b:Tm×Bool×Int} (ha:Ob a.1) (hb:Ob b.1):Ob (if c then a else b).1:=by
 grind
theorem Tb {c:Prop} [Decidable c] {a b:Tm×Bool} (ha:Ob a.1) (hb:Ob b.1):Ob (if c then a else b).1:=by
 grind
theorem aAJ {t:Tm} (ft:Fm t):Ob (Ns t).1:=by
 have q:=aEX ft
 have c:=azs ft
 have cc:=fun i j=>aGG (c i) j
 have z:Ob (sc t).1:=Il (c 1).ob (Il (c 2).ob (Il (b3 fun y h=>Sx (cc 0 0).sm.1.ok h) S9))
 have x:Ob (Sg t).1:=Tb S9 (Tb (a7 20 (by omega)) (Tb (a7 24 (by omega)) (a7 25 (by omega))))
 have A:Ob (S3 t).1:=Tb (c 1).ob (Tb (aCC (aA9 (c 3)) ⟨(c 2).sm.1,zj (c 2).sm.2 (by omega)⟩ (c 1) (c 1)) S9)
 have B:Ob (Sw t).1:=Tb (c 1).ob (Tb (c 2).ob (Tb (aCC (aA9 (c 4)) (Mr (kd:=6) (by omega) (c 3).sm (cc 4 0).sm (by omega)) (c 1) (c 2)) S9))
 unfold Ns
 exact Il (Il (b3 fun y h=>azK (cc 0 0).sm.1.ok (c 1).sm.1.ok h) q) (Il (Il (cc 0 0).ob q) (Il (Il (cc 0 1).ob q) (Il z (Il x (Il x (Il A (Il B (Il (c 0).ob (Il (c 1).ob (Il (Il q (Il (cc 0 0).ob q)) q))))))))))
def TD (t:Tm):Tm×Bool×Int:=
 if bw t≠0 then (pX,false,bw t) else
 if (Ns t).2.1=true then Mz ((Ns t).1,(Ns t).2.2) else (pX,false,0)
theorem aH3 (j:F4 k) {t:Tm} (h:In k t) (I:Tm×Bool×Int->OS S):u3 k t I=I (TD t):=by
 have hk:=j.f3
 simp only [u3,ag hk.fu,ar,E9 h.1 h.2.1 h.dep]
 unfold TD
 by_cases q:bw t=0
 case neg=>rw [dj q,ub,ae,if_pos q];rfl
 rw [q,show (!((0:Int)==0))=false from rfl,n3,if_neg (by simp),vU t h.1 _ h.2.1]
 have ft:Fm t:=⟨h.1,q⟩
 rw [aHY j ft]
 have ob:=aAJ ft
 by_cases hb:(Ns t).2.1=true
 ·rw [if_pos hb,hb,xJ,n3]
  exact azT hk ob.1 (by have:=ob.2;omega) _
 ·have x:(Ns t).2.1=false:=by grind
  rw [if_neg hb,x,ub,ae];rfl
theorem SI (hk:F3 k) {c a b:Int} {t:Tm} (ha:0<=a/\a<1000) (hb:0<=b/\b<1000) (h:In k t) (I:Tm×Int->OS S):Dh k t a b c I=I (mM c (wA a b t)):=by
 by_cases hc:c=0
 ·subst hc
  simp only [Dh,ag hk.fu,de,ar,rI,if_true]
  rw [show ((0:Int)==0)=true from rfl,xJ,n3,aiH hk h (vb:=a) (db:=b) (by omega) (by omega)]
  rfl
 grind [Hh,n9]
def MK (c:Int) (t a f y:Tm):Tm×Int:=
 (dS 7 [t,dS 11 [(mM c (wA 1 1 a)).1,(mM (mM c (wA 1 1 a)).2 (wA 1 0 y)).1,dS 6 [(mM (mM (mM c (wA 1 1 a)).2 (wA 1 0 y)).2 (wA 1 0 f)).1,vN 0]]],(mM (mM (mM c (wA 1 1 a)).2 (wA 1 0 y)).2 (wA 1 0 f)).2)
theorem aIb (hk:F3 k) {c:Int} {t a f y:Tm} (ha:In k a) (hf:In k f) (h:In k y) (I:Int×Int×BA×LT×Int->OS S):
  Uu k t a f y c I=I (7,0,qw,(MK c t a f y).1.c,(MK c t a f y).2):=by
 simp only [Uu,ag hk.fu,ar,KX,xH]
 rw [SI hk (by omega) (by omega) ha,SI hk (by omega) (by omega) h,SI hk (by omega) (by omega) hf]
 rfl
def M8 (c:Int) (t:Tm):Tm×Int:=(dS 7 [t,dS 4 [(mM c (wA 1 0 t)).1,dS 11 [(mM (mM c (wA 1 0 t)).2 (wA 2 1 t)).1,vN 1,vN 0]]],(mM (mM c (wA 1 0 t)).2 (wA 2 1 t)).2)
theorem aH5 (hk:F3 k) {c:Int} {t:Tm} (h:In k t) (I:Int×Int×BA×LT×Int->OS S):
  p3 k t c I=I (7,0,qw,(M8 c t).1.c,(M8 c t).2):=by
 simp only [p3,ag hk.fu,ar,KX,xH]
 rw [SI hk (by omega) (by omega) h,SI hk (by omega) (by omega) h]
 rfl
def Sh (c:Int) (t a:Tm):Tm×Int:=
 let h:=mM c (wA 1 0 a)
 let j:=mM h.2 (wA 1 0 a)
 let q:=mM j.2 (wA 2 0 t)
 let x:=mM q.2 (wA 2 0 a)
 let z:=MK x.2 q.1 x.1 (vN 1) (vN 0)
 let A:=M8 z.2 z.1
 (dS 7 [dS 4 [t,h.1],dS 4 [j.1,A.1]],A.2)
def Nr (t a:Tm):Except Int Tm:=FJ (Mf (Sh (xV [t,a]) t a))
theorem aDl {kd:Int} (h:0<=kd/\kd<=28) {n m j d:Nat} {x y z:Tm} (q:Sm n x/\am x<=d) (A:Sm m y/\am y<=d) (B:Sm j z/\am z<=d) (hd:d<=290):Sm (n+m+j+1) (dS kd [x,y,z])/\am (dS kd [x,y,z])<=d+1:=by
 unfold dS
 refine ⟨(Hn (kd:=kd) h (r:=[]) ⟨(fun c hc=>by cases hc),by simp⟩ (ks:=[x,y,z]) (sys:=[]) (n:=n+m+j) (m:=0) (fun w E=>by
  simp at E
  rcases E with rfl|rfl|rfl
  ·exact ⟨q.1.ok,by omega⟩
  ·exact ⟨A.1.ok,by omega⟩
  ·exact ⟨B.1.ok,by omega⟩) (by simp) (by rw [ay,ay,ay,ay];have:=q.1.eO;have:=A.1.eO;have:=B.1.eO;omega) (by rw [ba];trivial) (by simp) (by rw [aO];omega) (by rw [aI];omega)).mono (by omega), ?_⟩
 grind [am,aH,aO]
theorem Hd {c:Int} {t a f y:Tm} (q:Sm 20000 t/\am t<=200) (ha:p9 a) (hf:p9 f) (x:p9 y):Sm 150000 (MK c t a f y).1/\am (MK c t a f y).1<=204:=by
 have fa:=Ft (c:=c) (a:=1) (b:=1) (by omega) (by omega) ha
 have fy:=Ft (c:=(mM c (wA 1 1 a)).2) (a:=1) (b:=0) (by omega) (by omega) x
 have ff:=Ft (c:=(mM (mM c (wA 1 1 a)).2 (wA 1 0 y)).2) (a:=1) (b:=0) (by omega) (by omega) hf
 have v0:=KV (n:=0) (by omega)
 have z:=Mr (kd:=6) (by omega) (d:=200) ff.sm v0 (by omega)
 have h:=aDl (kd:=11) (by omega) (d:=201) ⟨fa.sm.1,by have:=fa.sm.2;omega⟩ ⟨fy.sm.1,by have:=fy.sm.2;omega⟩ z (by omega)
 have j:=Mr (kd:=7) (by omega) (d:=202) ⟨q.1,by omega⟩ h (by omega)
 exact ⟨j.1.mono (by omega),zj j.2 (by omega)⟩
theorem aE9 {c:Int} {t:Tm} {n d:Nat} (h:Sm n t/\am t<=d) (hd:200<=d/\d<=280):Sm (n+100000) (M8 c t).1/\am (M8 c t).1<=d+3:=by
 have f1:=Ft (c:=c) (a:=1) (b:=0) (by omega) (by omega) h.1.ok
 have f2:=Ft (c:=(mM c (wA 1 0 t)).2) (a:=2) (b:=1) (by omega) (by omega) h.1.ok
 have v0:=KV (n:=0) (by omega)
 have v1:=KV (n:=1) (by omega)
 have j:=aDl (kd:=11) (by omega) (d:=200) f2.sm v1 v0 (by omega)
 have x:=Mr (kd:=4) (by omega) (d:=201) ⟨f1.sm.1,by have:=f1.sm.2;omega⟩ j (by omega)
 have q:=Mr (kd:=7) (by omega) (d:=d+2) ⟨h.1,by omega⟩ ⟨x.1,by omega⟩ (by omega)
 exact ⟨q.1.mono (by omega),zj q.2 (by omega)⟩
theorem aA0 {c:Int} {t a:Tm} {n d:Nat} (q:Sm n t/\am t<=d) (hd:200<=d/\d<=270) (ha:p9 a):Sm (n+400000) (Sh c t a).1/\am (Sh c t a).1<=d+10:=by
 have f1:=Ft (c:=c) (a:=1) (b:=0) (by omega) (by omega) ha
 have f2:=Ft (c:=(mM c (wA 1 0 a)).2) (a:=1) (b:=0) (by omega) (by omega) ha
 have f3:=Ft (c:=(mM (mM c (wA 1 0 a)).2 (wA 1 0 a)).2) (a:=2) (b:=0) (by omega) (by omega) q.1.ok
 have f4:=Ft (c:=(mM (mM (mM c (wA 1 0 a)).2 (wA 1 0 a)).2 (wA 2 0 t)).2) (a:=2) (b:=0) (by omega) (by omega) ha
 unfold Sh
 dsimp only
 generalize mM (mM (mM (mM c (wA 1 0 a)).2 (wA 1 0 a)).2 (wA 2 0 t)).2 (wA 2 0 a)=h at f4 ⊢
 generalize mM (mM (mM c (wA 1 0 a)).2 (wA 1 0 a)).2 (wA 2 0 t)=x at f3 ⊢
 have z:=Hd (c:=h.2) (t:=x.1) (a:=h.1) (f:=vN 1) (y:=vN 0) f3.sm f4.sm.1.ok (KV (by omega)).1.ok (KV (by omega)).1.ok
 generalize MK h.2 x.1 h.1 (vN 1) (vN 0)=j at z ⊢
 have A:=aE9 (c:=j.2) z (by omega)
 generalize M8 j.2 j.1=E at A ⊢
 have a1:=Mr (kd:=4) (by omega) (d:=d+7) ⟨q.1,by omega⟩ ⟨f1.sm.1,by have:=f1.sm.2;omega⟩ (by omega)
 have a2:=Mr (kd:=4) (by omega) (d:=d+7) ⟨f2.sm.1,by have:=f2.sm.2;omega⟩ ⟨A.1,by omega⟩ (by omega)
 have B:=Mr (kd:=7) (by omega) (d:=d+8) a1 a2 (by omega)
 exact ⟨B.1.mono (by omega),by omega⟩
theorem aHS (hk:F3 k) {t a:Tm} (j:Q2 t) (ha:Q2 a) (I:Tm×Int->OS S):Md k t a I=I (tE (Nr t a)):=by
 have it:=j.isIn hk
 have q:=ha.isIn hk
 have z: ∀x∈[t,a],In k x:=fun x L=>by
  grind
 have A:Tm.mk 1 0 qw [] [] []=vN 0:=rfl
 have B:Tm.mk 1 1 qw [] [] []=vN 1:=rfl
 have i0:=(KV (n:=0) (by omega)).isIn hk
 have i1:=(KV (n:=1) (by omega)).isIn hk
 simp only [Md,ag hk.fu,ar,Re hk z (by simp),vU t it.1 _ it.2.1,xH,KX]
 unfold Nr
 have h:=aA0 (c:=xV [t,a]) (t:=t) (a:=a) (n:=20000) (d:=200) j (by omega) ha.1.ok
 generalize xV [t,a]=c at h ⊢
 have f3:=Ft (c:=(mM (mM c (wA 1 0 a)).2 (wA 1 0 a)).2) (a:=2) (b:=0) (by omega) (by omega) j.1.ok
 have f4:=Ft (c:=(mM (mM (mM c (wA 1 0 a)).2 (wA 1 0 a)).2 (wA 2 0 t)).2) (a:=2) (b:=0) (by omega) (by omega) ha.1.ok
 have E:=Hd (c:=(mM (mM (mM (mM c (wA 1 0 a)).2 (wA 1 0 a)).2 (wA 2 0 t)).2 (wA 2 0 a)).2) (t:=(mM (mM (mM c (wA 1 0 a)).2 (wA 1 0 a)).2 (wA 2 0 t)).1) (a:=(mM (mM (mM (mM c (wA 1 0 a)).2 (wA 1 0 a)).2 (wA 2 0 t)).2 (wA 2 0 a)).1) (f:=vN 1) (y:=vN 0) f3.sm f4.sm.1.ok (KV (by omega)).1.ok (KV (by omega)).1.ok
 rw [SI hk (by omega) (by omega) q,SI hk (by omega) (by omega) q,SI hk (by omega) (by omega) it,SI hk (by omega) (by omega) q,A,B,aIb hk (f4.sm.1.isIn hk (by omega)) i1 i0]
 have F: ∀c t a f y,Tm.mk 7 0 qw [] (MK c t a f y).1.c []=(MK c t a f y).1:=fun _ _ _ _ _=>rfl
 have J: ∀c t,Tm.mk 7 0 qw [] (M8 c t).1.c []=(M8 c t).1:=fun _ _=>rfl
 dsimp only
 rw [F,aH5 hk (E.1.isIn hk (by omega))]
 dsimp only
 rw [J]
 exact Rk (t:=(Sh c t a).1) (c:=(Sh c t a).2) hk (fun _=>h.1.isIn hk (by omega)) I
theorem J1 {t a:Tm} {e:Int} (h:Nr t a= .error e):e≠0:=by
 grind [Nr,FJ,Mf,aD,lk]
theorem aIv (hk:F3 k) {t a:Tm} {c:Int} (j:Q2 t) (ha:Q2 a) (I:Tm×Int->OS S):eu k t a c I=I (mM c (Nr t a)):=by
 simp only [eu,ag hk.fu,dG,ar,rJ]
 exact Az c (fun h g=>aHS hk j ha g) (fun e h=>J1 h) I
theorem aFM {t a y:Tm} (x:Q2 t) (ha:p9 a) (h:Nr t a= .ok y):Fm y:=by
 have j:=aA0 (c:=xV [t,a]) (t:=t) (a:=a) (n:=20000) (d:=200) x (by omega) ha
 unfold Nr FJ Mf at h
 by_cases q:(Sh (xV [t,a]) t a).2=0
 ·rw [if_pos q,aD] at h
  split at h
  ·rename_i hf
   injection h with h;subst h
   exact ⟨j.1.ok,hf⟩
  ·cases h
 ·rw [if_neg q,lk] at h;cases h
def Ig (a:Tm) (c:Int) (x:Br Tm):Br Tm×Int:=
 let E:=mM c (sI 0 [⟨0,0⟩] (AK x))
 let A:=mM E.2 (wA 0 1 a)
 let Q:=mM A.2 (Nr (AK x) A.1)
 (⟨x.f,[E.1,dS 14 [Q.1,j4]]⟩,Q.2)
section
variable {x1 x2:Int} {x3:BA} {x4:LC} {x5:LT} {x6 sys:LB}
theorem aIo (hk:F3 k) (fa:Fm (Tm.mk x1 x2 x3 x4 x5 x6)) (sy: ∀b∈sys,b.c=[AK b]/\Fm (AK b)/\RX true b.f) (A:sys.length<=20000) (I:Int×Int×BA×LT×LB×Int->OS S):
  W3 k 0 x1 x2 x3 x4 x5 x6 sys I=(fun l:LB×Int=>I (16,0,qw,[Tm.mk x1 x2 x3 x4 x5 x6],l.1,l.2)) (ue (Ig (Tm.mk x1 x2 x3 x4 x5 x6)) 0 sys):=by
 have B:4294968296<=k:=hk
 obtain ⟨q,E⟩: ∃q,k=q+100:=⟨k-100,by omega⟩
 have j: ∀g:Int×Int×BA×LT->OS S,k4 k g=g (8,0,qw,Tu):=fun g=>by rw [E];exact aF9 q g
 generalize ha:Tm.mk x1 x2 x3 x4 x5 x6=a at fa
 simp only [W3,ag hk.fu,iv,aAg,ha,JM]
 have:=fun RET=>hL (S:=S) (l:=sys) (L:=fun m c i acc=>zs k RET x1 x2 x3 x4 x5 x6 sys m c i acc) (F:=Ig a) (I:=RET)
  (fun m c acc _=>by
   have:=zt (l:=sys) (p:=sys) (by simp)
   simp only [zs,hG,this,n3])
  (fun m c x p r acc h z=>by
   obtain ⟨J,M,O,_⟩:=sX h (by omega)
   have hlen:p.length<sys.length:=by rw [h];simp
   obtain ⟨T,q2,_⟩:=sy x (by rw [h];simp)
   have W:af x.c 0=some (AK x):=ED (n:=0) rfl (by rw [T];rfl)
   have Y:=Ft (c:=(mM c (sI 0 [⟨0,0⟩] (AK x))).2) (a:=0) (b:=1) (by omega) (by omega) fa.ok
   simp only [zs,hG,J,ae,M,rf,W,ag hk.fu,ar,azb,ha,xF,zc,O,j]
   rw [vZ hk (fun _=>q2.isIn hk),IG hk (fun _=>fa.isIn hk) (by omega) (by omega),aIv hk q2.q2 Y.sm,J5 (by simp;omega)]
   rfl)
  sys [] [] k 0 rfl (by omega) rfl
 refine (this _).trans ?_
 rw [An]
end
theorem aDr {a:Tm} (fa:Fm a) {x:Br Tm} (h:Fm (AK x)/\RX true x.f) (c:Int):eg (Ig a c x).1:=by
 have z:Q2 (mM c (sI 0 [⟨0,0⟩] (AK x))).1:=LX fun t q=>Sx h.1.ok q
 have A:=Ft (c:=(mM c (sI 0 [⟨0,0⟩] (AK x))).2) (a:=0) (b:=1) (by omega) (by omega) fa.ok
 have B:FN (mM (mM (mM c (sI 0 [⟨0,0⟩] (AK x))).2 (wA 0 1 a)).2 (Nr (AK x) (mM (mM c (sI 0 [⟨0,0⟩] (AK x))).2 (wA 0 1 a)).1)).1:=EJ fun t q=>aFM h.1.q2 A.sm.1.ok q
 have j:=Mr (kd:=14) (by omega) (d:=200) B.sm ⟨SZ.sm,SZ.dep⟩ (by omega)
 have r:=G9 h.2
 exact ⟨_,_,rfl,z.1,j.1.mono (by omega),z.2,j.2,r.1,r.2⟩
def Nq (t:Tm):Tm×Bool×Int:=
 if bw t≠0 then (pX,false,bw t) else
 if t.k=15/\(t.c.getD 0 pX).k=3 then Mz (.mk 16 0 qw [] [t.c.getD 1 pX] (ue (Ig (t.c.getD 1 pX)) 0 t.s).1,(ue (Ig (t.c.getD 1 pX)) 0 t.s).2)
 else TN t
theorem aIn (M:F4 k) {t:Tm} (F:In k t) (ad:(t.c.getD 0 pX).k≠3) (I:Tm×Bool×Int->OS S):cG k t I=I (TN t):=by
 have hk:=M.f3
 simp only [cG,ag hk.fu,ar,E9 F.1 F.2.1 F.dep]
 unfold TN
 by_cases T:bw t=0
 case neg=>rw [dj T,ub,ae,if_pos T];rfl
 rw [T,show (!((0:Int)==0))=false from rfl,n3,if_neg (by simp)]
 have ft:Fm t:=⟨F.1,T⟩
 by_cases x:t.k=15
 case neg=>rw [beq_false_of_ne x,ub,ae,if_neg (fun h=>x h.1)];rfl
 rw [x,show (!((15:Int)==15))=false from rfl,n3,vU t F.1 _ F.2.1]
 obtain ⟨k0,a,O⟩:=I8 (E5 ft x (n:=2) rfl)
 obtain ⟨g0,g1⟩:=KQ O
 obtain ⟨d0,d1⟩:=EC O
 have A:Fm k0:=ft.bD (by grind)
 have fa:Fm a:=ft.bD (by grind)
 obtain ⟨sy,B⟩:=ft.sy x
 have W:Tm.mk a.k a.n a.name a.r a.c a.s=a:=by cases a;rfl
 have E:Fm (Tm.mk a.k a.n a.name a.r a.c a.s):=by grind
 simp only [g0,g1,rf]
 unfold p2
 rw [d0,d1]
 dsimp only
 by_cases J:k0.k=4
 ·obtain ⟨p,b,hb⟩:=I8 (E5 A J (n:=2) rfl)
  obtain ⟨w1,i1,i2,i3,i4,i5⟩:=aC_ hk hb (A.bD (by grind)) E sy B (fun j=>ly k (Tm.mk j.1 j.2.1 j.2.2.1 [] j.2.2.2.1 []) j.2.2.2.2 fun z=>I (z.1,z.2.1,z.2.2.1))
  rw [if_pos ⟨trivial,.inl J⟩,if_pos J,J,show ((4:Int)==4)=true from rfl,ae]
  refine i2.trans ?_
  refine (Ry hk i3 _).trans ?_
  rw [(EC hb).2]
  rw [W] at i4 i5
  exact aAu i4 i5 I
 rw [if_neg J,beq_false_of_ne J,n3]
 by_cases L:k0.k=7
 ·obtain ⟨p,b,hb⟩:=I8 (E5 A L (n:=2) rfl)
  obtain ⟨w1,i1,i2,i3,i4,i5⟩:=aDa M hb (A.bD (by grind)) (A.bD (by grind)) E sy B (fun j=>ly k (Tm.mk j.1 j.2.1 j.2.2.1 [] j.2.2.2.1 []) j.2.2.2.2 fun z=>I (z.1,z.2.1,z.2.2.1))
  rw [if_pos ⟨trivial,.inr (.inl L)⟩,if_pos L,L,show ((7:Int)==7)=true from rfl,ae]
  refine i2.trans ?_
  refine (Ry hk i3 _).trans ?_
  rw [(EC hb).1,(EC hb).2]
  rw [W] at i4 i5
  exact aAu i4 i5 I
 rw [if_neg L,beq_false_of_ne L,n3]
 by_cases q:k0.k=11
 ·obtain ⟨p,l,r,hb⟩: ∃p l r,k0.c=[p,l,r]:=by
   have:=E5 A q (n:=3) rfl
   match h:k0.c,this with
   |[p,l,r],_=>simp
  obtain ⟨w1,i1,i2,i3,i4,i5⟩:=aC9 hk hb (A.bD (by grind)) (A.bD (by grind)) (A.bD (by grind)) E sy B (fun j=>ly k (Tm.mk j.1 j.2.1 j.2.2.1 [] j.2.2.2.1 []) j.2.2.2.2 fun z=>I (z.1,z.2.1,z.2.2.1))
  rw [if_pos ⟨trivial,.inr (.inr (.inl q))⟩,if_pos q,q,show ((11:Int)==11)=true from rfl,ae]
  refine i2.trans ?_
  refine (Ry hk i3 _).trans ?_
  rw [hb]
  rw [W] at i4 i5
  exact aAu i4 i5 I
 rw [if_neg q,beq_false_of_ne q,n3]
 by_cases h3:k0.k=3
 ·grind
 rw [if_neg h3,beq_false_of_ne h3,n3]
 by_cases Y:k0.k=16
 ·grind [ae,aIf,azI]
 ·rw [beq_false_of_ne Y,n3,if_neg (fun h=>by omega)];rfl
theorem aIm (E:F4 k) {t:Tm} (q:In k t) (I:Tm×Bool×Int->OS S):cG k t I=I (Nq t):=by
 have hk:=E.f3
 by_cases hc:bw t=0/\t.k=15/\(t.c.getD 0 pX).k=3
 case neg=>
  have e:Nq t=TN t:=by
   grind [Nq,TN]
  rw [e]
  by_cases B:(t.c.getD 0 pX).k=3
  case neg=>grind [aIn]
  simp only [cG,ag hk.fu,ar,E9 q.1 q.2.1 q.dep]
  unfold TN
  by_cases z:bw t=0
  case neg=>rw [dj z,ub,ae,if_pos z];rfl
  rw [z,show (!((0:Int)==0))=false from rfl,n3,if_neg (by simp)]
  have j:t.k≠15:=fun h=>hc ⟨z,h,B⟩
  rw [beq_false_of_ne j,ub,ae,if_neg (fun h=>j h.1)];rfl
 obtain ⟨z,j,B⟩:=hc
 have ft:Fm t:=⟨q.1,z⟩
 have e:Nq t=Mz (.mk 16 0 qw [] [t.c.getD 1 pX] (ue (Ig (t.c.getD 1 pX)) 0 t.s).1,(ue (Ig (t.c.getD 1 pX)) 0 t.s).2):=by
  grind [Nq]
 rw [e]
 obtain ⟨k0,a,A⟩:=I8 (E5 ft j (n:=2) rfl)
 obtain ⟨g0,g1⟩:=KQ A
 obtain ⟨d0,d1⟩:=EC A
 rw [d0] at B
 rw [d1]
 have fa:Fm a:=ft.bD (by grind)
 obtain ⟨sy,J⟩:=ft.sy j
 simp only [cG,ag hk.fu,ar,E9 q.1 q.2.1 q.dep,z,j,vU t q.1 _ q.2.1,g0,g1,rf,B]
 rw [show (!((0:Int)==0))=false from rfl,n3,show (!((15:Int)==15))=false from rfl,n3,show ((3:Int)==4)=false from rfl,n3,show ((3:Int)==7)=false from rfl,n3,show ((3:Int)==11)=false from rfl,n3,show ((3:Int)==3)=true from rfl,ae]
 obtain ⟨x1,x2,x3,x4,x5,x6⟩:=a
 simp only [pj x1 x2 x3 x4 x5 x6]
 rw [aIo hk fa sy J]
 dsimp only
 have M:=TW (F:=Ig (Tm.mk x1 x2 x3 x4 x5 x6)) (Q:=eg) (l:=t.s) (c:=0) fun x L c=>aDr fa ⟨(sy x L).2.1,(sy x L).2.2⟩ c
 have hl:(ue (Ig (Tm.mk x1 x2 x3 x4 x5 x6)) 0 t.s).1.length=t.s.length:=R6
 obtain ⟨O,T,W⟩:=aAN M
 refine azT hk ?_ ?_ _
 ·rw [p9,aZ,aZ]
  exact ⟨⟨by unfold aG;omega,by unfold aG;omega,by decide,(fun c hc=>by cases hc),by simp,by simp,by omega⟩,⟨fa.ok,trivial⟩,O⟩
 ·rw [am,aH,aH];have:=fa.dep;omega
def IA (defs:List Df) (t:Tm):Tm×Bool:=
 if t.k=2 then (match defs.find? fun d=>decide (d.name=t.name) with
  |none=>(pX,false)
  |some d=>(d.body,MC d.body 0 0==0)) else (pX,false)
def H4 (k:Nat) (defs:List Df):Prop:=defs.length<1073741824/\ ∀d∈defs,In k d.body
theorem aGZ (hk:F3 k) (I:Tm×Bool->OS S) {t:Tm} {defs:List Df} (hd:H4 k defs):
  ∀ (r p:List Df) (m:Nat),defs=p++r->r.length<m->bM k I t defs m (p.length:Int)=I (match r.find? fun d=>decide (d.name=t.name) with
   |none=>(pX,false)
   |some d=>(d.body,MC d.body 0 0==0)):=by
 intro r
 induction r with
 |nil=>
  intro p m h j
  obtain ⟨m,rfl,q⟩:=qI j
  simp only [bM,cr,zt h,n3,List.find?_nil]
  rfl
 |cons x r J=>
  intro p m h j
  obtain ⟨m,rfl,q⟩:=qI j
  have hl:=hd.1
  obtain ⟨A,B,E,L⟩:=sX h (by omega)
  have z:=hd.2 x (by grind)
  simp only [bM,cr,A,ae,B,rf,ag hk.fu,ar,Jq,E]
  by_cases F:x.name=t.name
  ·rw [decide_eq_true F,ae,vU x.body z.1 _ z.2.1,nK z hk (by omega) (by omega),List.find?_cons_of_pos (by grind)]
  grind [n3]
theorem aII (hk:F3 k) {t:Tm} {defs:List Df} (hd:H4 k defs) (I:Tm×Bool->OS S):cR k defs t I=I (IA defs t):=by
 have j:4294968296<=k:=hk
 simp only [cR,aAq]
 unfold IA
 by_cases h:t.k=2
 ·rw [h,show (!((2:Int)==2))=false from rfl,n3,if_pos rfl]
  exact aGZ hk I hd defs [] k rfl (by have:=hd.1;omega)
 ·rw [beq_false_of_ne h,ub,ae,if_neg h];rfl
def aux (r:Tm×Bool×Int) (s:Tm×Bool×Int):Tm×Bool×Int:=if r.2.1=true\/r.2.2≠0 then r else s
def nf (defs:List Df) (t:Tm):Tm×Bool×Int:=
 if bw t≠0 then (pX,false,bw t) else
 aux (TD t) (aux (pP t) (aux (Ss t) (aux (Nq t) (if (IA defs t).2=true then ((IA defs t).1,true,0) else (pX,false,0)))))
theorem pick (I:Tm×Bool×Int->OS S) (r s:Tm×Bool×Int) {J N:OS S} (h:r.2.1=false->r.2.2=0->N=I s):
  ab r.2.1 (ab r.2.1 (I (r.1,r.2.1,r.2.2)) (ab (!(r.2.2==0)) (I (r.1,r.2.1,r.2.2)) J)) (ab (!(r.2.2==0)) (ab r.2.1 (I (r.1,r.2.1,r.2.2)) (ab (!(r.2.2==0)) (I (r.1,r.2.1,r.2.2)) J)) N)=I (aux r s):=by
 obtain ⟨x,b,e⟩:=r
 unfold aux
 dsimp only
 cases b<;>grind [ae,n3]
theorem aIA (F:F4 k) {t:Tm} {defs:List Df} (hd:H4 k defs) (L:In k t) (I:Tm×Bool×Int->OS S):a_ k defs t I=I (nf defs t):=by
 have hk:=F.f3
 have O:4294968296<=k:=hk
 simp only [a_,bc,ag hk.fu,ar,E9 L.1 L.2.1 L.dep]
 unfold nf
 by_cases M:bw t=0
 case neg=>rw [dj M,ub,ae,if_pos M];rfl
 rw [M,show (!((0:Int)==0))=false from rfl,n3,if_neg (by simp)]
 obtain ⟨m,T⟩: ∃m,k=m+5:=⟨k-5,by omega⟩
 have last: ∀q x z A B E,bH k I t defs (m+1) q x z A B E 0 4 false=I (if (IA defs t).2=true then ((IA defs t).1,true,0) else (pX,false,0)):=fun q x z A B E=>by
  simp only [bH,Tn]
  rw [show decide ((4:Int)<4)=false from rfl,n3,n3,show (!((0:Int)==0))=false from rfl,n3]
  obtain ⟨j,hj⟩: ∃j,k=j+1:=⟨k-1,by omega⟩
  have:bK k I t defs k=co k I t defs:=by
   conv=>lhs;rw [hj]
   rw [hj];rfl
  rw [this]
  simp only [co,ag hk.fu,ar,aII hk hd]
  cases (IA defs t).2 with
  |true=>rfl
  |false=>rfl
 have rd: ∀ {n:Nat} {v:Int} (o s:Tm×Bool×Int),(∀q x z A B E,bH k I t defs n q x z A B E 0 (v+1) false=I s)->p5 .i64 (v+1)=v+1-> ∀J,ab o.2.1 (ab o.2.1 (I (o.1,o.2.1,o.2.2)) (ab (!(o.2.2==0)) (I (o.1,o.2.1,o.2.2)) J)) (ab (!(o.2.2==0)) (ab o.2.1 (I (o.1,o.2.1,o.2.2)) (ab (!(o.2.2==0)) (I (o.1,o.2.1,o.2.2)) J)) (bH k I t defs n o.1.k o.1.n o.1.name o.1.r o.1.c o.1.s o.2.2 (p5 .i64 (v+1)) o.2.1))=I (aux o s):=fun {n v} o s h hw J=>
  pick I o s fun h1 h2=>by grind
 have W: ∀q x z A B E,bH k I t defs (m+2) q x z A B E 0 3 false=I _:=fun q x z A B E=>by
  rw [bH]
  simp only [Tn,ag hk.fu,ar,aIm F L]
  rw [show decide ((3:Int)<4)=true from rfl,ae,show ((3:Int)==0)=false from rfl,n3,show ((3:Int)==1)=false from rfl,n3,show ((3:Int)==2)=false from rfl,n3,show ((3:Int)==3)=true from rfl,ae]
  exact rd (v:=3) (Nq t) _ last rfl _
 have Y: ∀q x z A B E,bH k I t defs (m+3) q x z A B E 0 2 false=I _:=fun q x z A B E=>by
  rw [bH]
  simp only [Tn,ag hk.fu,ar,aIE F L]
  rw [show decide ((2:Int)<4)=true from rfl,ae,show ((2:Int)==0)=false from rfl,n3,show ((2:Int)==1)=false from rfl,n3,show ((2:Int)==2)=true from rfl,ae]
  exact rd (v:=2) (Ss t) _ W rfl _
 have r1: ∀q x z A B E,bH k I t defs (m+4) q x z A B E 0 1 false=I _:=fun q x z A B E=>by
  rw [bH]
  simp only [Tn,ag hk.fu,ar,ajh F L]
  rw [show decide ((1:Int)<4)=true from rfl,ae,show ((1:Int)==0)=false from rfl,n3,show ((1:Int)==1)=true from rfl,ae]
  exact rd (v:=1) (pP t) _ Y rfl _
 have e: ∀q x z A B E,bH k I t defs k q x z A B E 0 0 false=bH k I t defs (m+5) q x z A B E 0 0 false:=fun q x z A B E=>congrArg (fun n=>bH k I t defs n q x z A B E 0 0 false) T
 rw [e,bH]
 simp only [Tn,ag hk.fu,ar,aH3 F L]
 rw [show decide ((0:Int)<4)=true from rfl,ae,show ((0:Int)==0)=true from rfl,ae]
 exact rd (v:=0) (TD t) _ r1 rfl _
end
section
def atR (t:Tm) (i:Nat) (u:Tm):Tm:= .mk t.k t.n t.name t.r (t.c.set i u) t.s
def zw (t:Tm) (i:Nat):Tm:=t.c.getD i pX
section
variable (st:Tm->Tm×Bool×Int) (pl:Tm->List Nat) (eF:Int)
mutual
noncomputable def ox:Nat->Nat->Tm->Except Int (Tm×Nat)
 |0,_,_=> .error 0
 |n+1,f,t=>
  if (st t).2.2≠0/\f≠0 then .error (st t).2.2
  else if (st t).2.1=false/\(st t).2.2=0 then Mk n f t (pl t)
  else if f=0 then .error eF else ox n (f-1) (st t).1
termination_by n=>(n,0)
noncomputable def Mk:Nat->Nat->Tm->List Nat->Except Int (Tm×Nat)
 |_,f,t,[]=> .ok (t,f)
 |n,f,t,i::l=>match ox n f (zw t i) with
  | .error e=> .error e
  | .ok (k,h)=>if @decide (k=zw t i) (Classical.propDecidable _) then Mk n h t l else ox n h (atR t i k)
termination_by n _ _ l=>(n,l.length+1)
end
end
variable {st:Tm->Tm×Bool×Int} {pl:Tm->List Nat} {eF:Int}
def Iv (st:Tm->Tm×Bool×Int) (pl:Tm->List Nat):Nat->Tm->Prop
 |0,_=>False
 |n+1,t=>(st t).2.1=false/\(st t).2.2=0/\ ∀i∈pl t,Iv st pl n (zw t i)
theorem Iv.mono {n m:Nat} (h:n<=m): ∀ {t:Tm},Iv st pl n t->Iv st pl m t:=by
 induction n generalizing m with
 |zero=>intro t h;exact h.elim
 |succ n x=>
  intro t q
  obtain ⟨m,rfl⟩: ∃j,m=j+1:=⟨m-1,by omega⟩
  exact ⟨q.1,q.2.1,fun i z=>x (by omega) (q.2.2 i z)⟩
variable {S:Type} {k:Nat}
def Sa (defs:List Df) (t:Tm) (f:Int):sH (Int×Int) (Tm×Bool×Int):=
 if (nf defs t).2.2≠0/\0<f then .gF ((nf defs t).2.2,f)
 else if (nf defs t).2.1=false/\(nf defs t).2.2=0 then .ok (t,false,f)
 else if f=0 then .gF (220,f) else .ok ((nf defs t).1,true,f-1)
theorem aIB (q:F4 k) {t:Tm} {defs:List Df} (hd:H4 k defs) (z:In k t) {f:Int} (hf:0<=f/\f<=100000) (I:sH (Int×Int) (Tm×Bool×Int)->OS S):
  hE k t defs f I=I (Sa defs t f):=by
 have hk:=q.f3
 have A:4294968296<=k:=hk
 obtain ⟨j,hj⟩: ∃j,k=j+1:=⟨k-1,by omega⟩
 have h1: ∀r1,c' k I defs f r1 k=fT k I defs f r1:=fun r1=>by
  conv=>lhs;rw [hj]
  rfl
 have B: ∀r1,azv k I defs f t r1 k=eU k I defs f t r1 (fT k I defs f r1):=fun r1=>by
  rw [<-h1]
  conv=>lhs;rw [hj]
  rw [hj];rfl
 have E:p5 .i64 (f-1)=f-1:=xi (by omega) (by omega)
 simp only [hE,aAi,ag hk.fu,ar,aIA q hd z,B,eU,fT,E]
 unfold Sa
 generalize nf defs t=r
 obtain ⟨x,b,e⟩:=r
 dsimp only
 by_cases he:e=0
 ·grind [n3,ae]
 ·rw [beq_false_of_ne he,ub,ae]
  by_cases F:f=0
  ·subst F
   rw [show decide ((0:Int)>0)=false from rfl,n3,if_neg (fun h=>by omega),if_neg (fun h=>he h.2),if_pos rfl]
   cases b<;>grind [ae,n3]
  grind [ae]
def HE (kd:Int):Int:=if kd=6\/kd=9\/kd=10\/kd=13\/kd=18\/kd=15\/kd=14 then 0 else if kd=22 then 3 else if kd=27 then 4 else-1
def L0 (t:Tm):Int:=if (t.c.length:Int)<ct t.k then-1 else HE t.k
theorem aIs (hk:F3 k) (t:Tm) (I:Int->OS S):aU k t I=I (L0 t):=by
 have F:4294968296<=k:=hk
 obtain ⟨j,hj⟩: ∃j,k=j+1:=⟨k-1,by omega⟩
 have J: ∀v,aV k I t k v=I (if (t.c.length:Int)<ct t.k then-1 else v):=fun v=>by
  grind [aV,bo,aiR,ag,ae,n3]
 simp only [aU,o7,J]
 unfold L0 HE
 by_cases L:t.k=6
 ·rw [L];rfl
 by_cases M:t.k=9
 ·rw [M];rfl
 by_cases h:t.k=10
 ·rw [h];rfl
 by_cases q:t.k=13
 ·rw [q];rfl
 by_cases x:t.k=18
 ·rw [x];rfl
 by_cases z:t.k=15
 ·rw [z];rfl
 by_cases A:t.k=14
 ·rw [A];rfl
 by_cases B:t.k=22
 ·rw [B];rfl
 by_cases E:t.k=27
 ·rw [E];rfl
 grind [n3]
theorem Lx {t:Tm} (h:2<=t.c.length):t.c=[t.c.getD 0 pX]++(xR t++[xZ t])/\t.c.take (t.c.length-1)=t.c.getD 0 pX::xR t:=by
 unfold xR xZ
 match t.c,h with
 |a::b::l,_=>
  have q:(a::b::l).length-1=(b::l).length:=by simp
  have hj:(b::l).length=((b::l).length-1)+1:=by simp
  have x:(a::b::l).take ((b::l).length)=a::(b::l).take ((b::l).length-1):=by rw [hj,List.take_succ_cons];rfl
  have z:(a::b::l).getD ((b::l).length) pX=(b::l).getD ((b::l).length-1) pX:=by rw [hj];rfl
  rw [q,x,z]
  refine ⟨?_,rfl⟩
  have A:(b::l).drop ((b::l).length-1)=[(b::l).getD ((b::l).length-1) pX]:=by
   have j:(b::l).length-1<(b::l).length:=by simp
   rw [List.drop_eq_getElem_cons j,List.getD_eq_getElem?_getD,Bw j,show (b::l).length-1+1=(b::l).length by simp,List.drop_length];rfl
  show a::(b::l)=a::((b::l).take ((b::l).length-1)++[(b::l).getD ((b::l).length-1) pX])
  rw [<-A,List.take_append_drop]
theorem ZT {n:Nat} {l:LB} (h:Mb n l) {f:LC} (hf:aq f/\f.length<1073741824) {t:Tm} (j:Sm n t):Mb n (⟨f,[t]⟩::l):=by
 refine ⟨?_, ?_, ?_⟩
 ·rw [ba,fc,aZ,aZ];exact ⟨⟨⟨hf.1,hf.2,by simp⟩,j.ok,trivial⟩,h.ok⟩
 ·rw [aI,Ho,ay,ay,uL,Nat.succ_mul]
  have:=h.eO;have:=j.eO;omega
 ·rw [aO,Fy,aH,aH]
  have:=h.dep;have:=j.dep;omega
theorem acF {kd:Int} (q:kd=22\/kd=27) {b:Tm} {j:LT} (fb:Fm b) (fm: ∀y∈j,Fm y) (F:j.length<=3): ∀ {r l:LB},(∀b∈r,b.c=[AK b]/\Fm (AK b)/\RX true b.f)->MU kd b j r= .ok l->Mb 110000 l/\aO l<=299/\l.length=r.length/\l.map (·.f)=r.map (·.f):=by
 intro r
 induction r with
 |nil=>intro l _ h;rw [MU] at h;injection h with h;subst h;exact ⟨Dp _,by rw [aO];omega,rfl,rfl⟩
 |cons y r B=>
  intro l A h
  rw [MU] at h
  obtain ⟨ms,h1,h⟩:=i8 h
  obtain ⟨I,h2,h⟩:=i8 h
  injection h with h;subst h
  obtain ⟨i1,i2,i3,i4⟩:=B (fun b hb=>A b (by simp [hb])) h2
  obtain ⟨_,x,z⟩:=A y (by simp)
  obtain ⟨f1,f2⟩:=I_ fm h1
  obtain ⟨E,q2⟩:=pO q fb x f1 (by omega)
  refine ⟨ZT i1 (G9 z) (E.mono (by omega)), ?_,by simp [i3],by simp [i4]⟩
  rw [aO,Fy,aH,aH];omega
structure Ts (k:Nat) (t:Tm) (f b line:Tm) (l:LB) (y:Tm):Prop where
 so:xV [(xZ t).c.getD 0 pX,(xZ t).c.getD 1 pX,J4 (xZ t).s]=0
 fill:FI ((xZ t).c.getD 0 pX) ((xZ t).c.getD 1 pX) (xZ t).s= .ok f
 up:J6 0 1 (t.c.getD 0 pX)= .ok b
 plug:Jn 0 b f= .ok line
 brs:MU t.k b (xR t) (xZ t).s= .ok l
 so2:xV [line,ig t.k (t.c.getD 0 pX) (xR t) ((xZ t).c.getD 1 pX),J4 l]=0
 comp:dF line (ig t.k (t.c.getD 0 pX) (xR t) ((xZ t).c.getD 1 pX)) l= .ok y
 fy:bw y=0
 ff:Fm f
 fb:Fm b
 fl:Fm line
 fa:Fm (ig t.k (t.c.getD 0 pX) (xR t) ((xZ t).c.getD 1 pX))
 fw:Fm (J4 l)
 bs:l.map (·.f)=(xZ t).s.map (·.f)
 yin:In k y
theorem KC (hk:F3 k) {t y:Tm} (ft:Fm t) (j:t.k=22\/t.k=27) (z:(xZ t).k=15) (h:Te t.k (t.c.getD 0 pX) (xR t) (xZ t)= .ok y): ∃f b line l,Ts k t f b line l y:=by
 unfold Te at h
 obtain ⟨f,h1,h⟩:=i8 h
 obtain ⟨b,h2,h⟩:=i8 h
 obtain ⟨line,J,h⟩:=i8 h
 obtain ⟨l,L,h⟩:=i8 h
 obtain ⟨so2,fy,hc⟩:=BI h
 obtain ⟨so,ff,A⟩:=BI h1
 have hlen:2<=t.c.length/\t.c.length<=5:=by
  have:=ft.nk
  rcases j with h|h<;>rw [h] at this
  ·have e:ct 22=4:=rfl
   omega
  ·have e:ct 27=5:=rfl
   omega
 obtain ⟨gl,O⟩:=nw hlen.1
 have fx:=ft.bD O
 obtain ⟨u,a,q⟩:=I8 (E5 fx z (n:=2) rfl)
 obtain ⟨B,x⟩:=EC q
 have fu:Fm u:=fx.bD (by rw [q];simp)
 have fa:Fm a:=fx.bD (by rw [q];simp)
 obtain ⟨sy,T⟩:=fx.sy z
 have fp:Fm (t.c.getD 0 pX):=ft.bD (by
  match h:t.c,hlen.1 with
  |a::l,_=>simp)
 have I:=Jc hk fx
 have fm: ∀y∈xR t,Fm y:=fun y W=>ft.bD (kv W)
 have E:(xR t).length<=3:=by unfold xR;rw [List.length_drop,List.length_take];omega
 have M:Fm f:=⟨(ux hk (B▸fu) (x▸fa) (iQ (wg (B▸fu).ok (x▸fa).ok I.1 so).2.2) A).1.1,ff⟩
 have fb:=mD (by omega) fp h2
 have fl:=qU (by omega) fb M J
 obtain ⟨Y,b2,b3,b4⟩:=acF j fb fm E sy L
 have F:=Jb hk (by omega) Y (by omega) b2
 obtain ⟨q1,q2⟩:=pO j fp (a:=(xZ t).c.getD 1 pX) (x▸fa) fm E
 obtain ⟨f1,f2,f3⟩:=wg fl.ok q1.ok F.1 so2
 exact ⟨f,b,line,l,so,A,h2,J,L,so2,hc,fy,M,fb,fl,f2,f3,b4,(yu hk f1 f2 (iQ f3) hc).1⟩
theorem acE (hk:F3 k) {t:Tm} (j:In k t):In k (pP t).1:=by
 unfold pP
 by_cases h:bw t=0
 case neg=>rw [if_pos h];exact gQ hk
 rw [if_neg (by simp [h])]
 have ft:Fm t:=⟨j.1,h⟩
 split
 case isTrue hc=>
  cases q:Te t.k (t.c.getD 0 pX) (xR t) (xZ t) with
  |error e=>exact gQ hk
  |ok y=>
   obtain ⟨f,b,line,l,hp⟩:=KC hk ft hc.1 hc.2 q
   show In k (if bw y=0 then (y,true,(0:Int)) else (pX,false,bw y)).1
   split
   ·exact hp.yin
   ·exact gQ hk
 case isFalse hc=>exact gQ hk
end
section
section
variable {n kd:Int} {u:Tm}
end
section
variable {f g:Int->LC->Except Int (LC)} {kd:Int}
end
mutual
def dH:Tm->Int
 | .mk kd _ _ _ h sys=>dU kd 0 h+Ia sys
def dU (kd:Int) (i:Nat):LT->Int
 |[]=>0
 |t::l=>bJ kd i+dH t+dU kd (i+1) l
def Ia:LB->Int
 |[]=>0
 |b::l=>l8 b+Ia l
def l8:Br Tm->Int
 | .mk _ h=>KU h
def KU:LT->Int
 |[]=>0
 |t::l=>1+dH t+KU l
end
theorem jb (t:Tm):iP t<=dH t/\dH t+1<=(au t:Int)*2:=by
 induction t using gq with
 |h kd n I r q sys z A=>
  have hk: ∀ {l:LT} {i:Nat},(∀x∈l,iP x<=dH x/\dH x+1<=(au x:Int)*2)->0<=dU kd i l/\dI kd i l<=dU kd i l/\dU kd i l<=(ay l:Int)*2:=by
   intro l
   induction l with
   |nil=>intro i _;rw [dU,dI,ay];omega
   |cons t l j=>
    intro i h
    rw [dU,dI,ay]
    have h1:=h t (by simp)
    have h2:=j (i:=i+1) fun x B=>h x (by simp [B])
    have J:=gr kd i
    have E:=e1 t
    omega
  have F: ∀ {l:LT},(∀x∈l,iP x<=dH x/\dH x+1<=(au x:Int)*2)->0<=KU l/\cX l<=KU l/\KU l<=(ay l:Int)*2:=by
   intro l
   induction l with
   |nil=>intro _;rw [KU,cX,ay];omega
   |cons t l j=>
    intro h
    rw [KU,cX,ay]
    have h1:=h t (by simp)
    have h2:=j fun x B=>h x (by simp [B])
    have E:=e1 t
    omega
  have hs: ∀ {l:LB},(∀b∈l,∀x∈b.c,iP x<=dH x/\dH x+1<=(au x:Int)*2)->0<=Ia l/\cx l<=Ia l/\Ia l<=(aI l:Int)*2:=by
   intro l
   induction l with
   |nil=>intro _;rw [Ia,cx,aI];omega
   |cons b l j=>
    intro h
    obtain ⟨f,q⟩:=b
    have h1:=F (h ⟨f,q⟩ (by simp))
    have h2:=j fun b hb=>h b (by simp [hb])
    rw [Ia,cx,aI,l8,h7,Ho]
    have e:(Br.mk f q).c=q:=rfl
    rw [e] at h1
    omega
  have h1:=hk (i:=0) z
  have h2:=hs A
  rw [iP,dH,au]
  omega
theorem hN (t:Tm):0<=dH t:=by have:=jb t;have:=e1 t;omega
theorem mu (kd:Int): ∀ (l:LT) (i:Nat),0<=dU kd i l:=by
 intro l
 induction l with
 |nil=>intro i;rw [dU];omega
 |cons t l h=>intro i;rw [dU];have:=h (i+1);have:=hN t;have:=gr kd i;omega
theorem aon: ∀ (l:LT),0<=KU l:=by
 intro l
 induction l with
 |nil=>rw [KU];omega
 |cons t l h=>rw [KU];have:=hN t;omega
theorem l9: ∀ (l:LB),0<=Ia l:=by
 intro l
 induction l with
 |nil=>rw [Ia];omega
 |cons b l j=>obtain ⟨f,h⟩:=b;rw [Ia,l8];have:=aon h;omega
variable {S:Type} {k:Nat}
theorem mh {bd:Bool} {V D kd:Int}: ∀ {a b:LT} {i:Nat},bO bd V D kd i (a++b)=true↔bO bd V D kd i a=true/\bO bd V D kd (i+a.length) b=true:=by
 intro a
 induction a with
 |nil=>intro b i;rw [An,bO];simp
 |cons t a h=>intro b i;rw [List.cons_append,bO,bO,qC,qC,h,uL,show i+1+a.length=i+(a.length+1) by omega,and_assoc]
theorem Tp {kd:Int} (h:kd=22\/kd=27) (i:Nat):tZ kd ((i+1:Nat):Int)=0/\bJ kd (i:Int)=0/\tZ kd ((0:Nat):Int)=1:=by
 have j:tZ kd ((i+1:Nat):Int)=0:=by unfold tZ;rw [if_neg (by omega)]
 have q:bJ kd (i:Int)=0:=by unfold bJ;rw [if_neg (by omega)]
 have x:tZ kd ((0:Nat):Int)=1:=by unfold tZ;rw [if_pos (by omega)]
 exact ⟨j,q,x⟩

section
variable {hd:Tm->(Int->OS S)->OS S} {t:Tm}
abbrev ja (hd:Tm->(Int->OS S)->OS S) (y:Tm):Prop:= ∀g,hd y g=g (dH y)
theorem nP (b:Br Tm) (l:LB):Ia (b::l)=KU b.c+Ia l:=by cases b;rw [Ia,l8]
end
theorem ao6 {kd D E:Int} (h:D<=E): ∀ {l:LB},ba l->l.all (bX kd D)=true->l.all (bX kd E)=true:=by
 intro l
 induction l with
 |nil=>intro _ _;rfl
 |cons b l j=>
  intro ho hb
  obtain ⟨f,q⟩:=b
  rw [ba,fc] at ho
  rw [EZ,qC] at hb ⊢
  refine ⟨?_,j ho.2 hb.2⟩
  have h1:=hb.1
  unfold bX at h1 ⊢
  simp only [qC,decide_eq_true_eq] at h1 ⊢
  exact ⟨h1.1,h1.2.1,Nf ((oB ho.1.1.1).1 h1.2.1).1 h1.2.2 h⟩
theorem aRb (t:Tm):p9 t-> ∀ {V W D E:Int},rP false V D t=true->(W= -1\/0<=V/\V<=W)->D<=E->rP false W E t=true:=by
 induction t using gq with
 |h kd n Y r ks sys I J=>
  intro A V W D E h M z
  rw [p9] at A
  obtain ⟨o1,o2,o3,O,o5,o6,o7⟩:=A.1
  have hk: ∀ {l:LT} {i:Nat},(∀x∈l,p9 x-> ∀ {V W D E:Int},rP false V D x=true->(W= -1\/0<=V/\V<=W)->D<=E->rP false W E x=true)->aZ l->bO false V D kd i l=true->bO false W E kd i l=true:=by
   intro l
   induction l with
   |nil=>intro i _ _ _;rw [bO]
   |cons t l B=>
    intro i h hl ha
    rw [aZ] at hl
    rw [bO,qC] at ha ⊢
    have hb:=g7 kd i
    exact ⟨h t (by simp) hl.1 ha.1 (M.imp (fun q=>by rw [q];rfl) fun q=>by unfold cQ;rw [if_neg (by omega),if_neg (by omega)];omega) (by omega),B (fun x L=>h x (by simp [L])) hl.2 ha.2⟩
  have T: ∀ {l:LT},(∀x∈l,p9 x-> ∀ {V W D E:Int},rP false V D x=true->(W= -1\/0<=V/\V<=W)->D<=E->rP false W E x=true)->aZ l->ca false V D kd l=true->ca false W E kd l=true:=by
   intro l
   induction l with
   |nil=>intro _ _ _;rw [ca]
   |cons t l B=>
    intro h hl ha
    rw [aZ] at hl
    rw [ca,qC] at ha ⊢
    exact ⟨h t (by simp) hl.1 ha.1 M (by omega),B (fun x L=>h x (by simp [L])) hl.2 ha.2⟩
  have hs: ∀ {l:LB},(∀b∈l,∀x∈b.c,p9 x-> ∀ {V W D E:Int},rP false V D x=true->(W= -1\/0<=V/\V<=W)->D<=E->rP false W E x=true)->ba l->ck false V D kd l=true->ck false W E kd l=true:=by
   intro l
   induction l with
   |nil=>intro _ _ _;rw [ck]
   |cons b l B=>
    intro h hl ha
    obtain ⟨f,F⟩:=b
    rw [ba,fc] at hl
    rw [ck,jT,qC] at ha ⊢
    exact ⟨T (l:=F) (h ⟨f,F⟩ (by simp)) hl.1.2 ha.1,B (fun b hb=>h b (by simp [hb])) hl.2 ha.2⟩
  rw [rP,qC,qC,qC] at h ⊢
  refine ⟨rfl, ?_,hk I A.2.1 h.2.2.1,hs J A.2.2 h.2.2.2⟩
  have h2:=h.2.1
  unfold cL at h2 ⊢
  simp only [qC] at h2 ⊢
  refine ⟨h2.1, ?_⟩
  have j:=h2.2
  split
  ·rename_i c
   rw [if_pos c] at j
   simp only [qC,decide_eq_true_eq] at j ⊢
   exact ⟨j.1,j.2.1,by omega⟩
  ·rename_i c
   rw [if_neg c] at j
   split
   ·rename_i c
    rw [if_pos c] at j;exact j
   ·rename_i c
    rw [if_neg c] at j
    split
    ·rename_i c
     rw [if_pos c,qC] at j
     rw [qC]
     exact ⟨j.1,Nf ((M9 O).1 j.1) j.2 z⟩
    ·rename_i c
     rw [if_neg c] at j
     split
     ·rename_i c
      rw [if_pos c,qC] at j
      rw [qC]
      exact ⟨j.1,Nf ((oB O).1 j.1).1 j.2 z⟩
     ·rename_i c
      rw [if_neg c,qC] at j
      rw [qC]
      exact ⟨ao6 z A.2.2 j.1,j.2⟩
theorem aqc (t:Tm) (q:p9 t) {V D E:Int} (h:rP false V D t=true) (j:D<=E):rP false (-1) E t=true:=aRb t q h (.inl rfl) j
theorem apu {t:Tm} (h:In k t) {V D:Int} (j:MC t V D=0):Fm t:=by
 have q:=j
 unfold MC at j
 split at j
 ·cases j
 split at j
 ·cases j
 split at j
 ·cases j
 obtain ⟨_,_,hs⟩:=aoN q
 exact ⟨h.1,pS (by omega) (by omega) (aqc t h.1 (aoD t hs) (aoS hs))⟩
structure MayR (k:Nat) (x t:Tm) (V D:Int) (r:Tm×Bool×Int):Prop where
 ins:In k r.1
 no:r.2.1=false->r.1=pX
 ok:r.2.1=true->r.2.2=0/\MC r.1 V D=0/\r.1.k=x.k/\(x.k=15->r.1.s.map (·.f)=x.s.map (·.f))
def I2 (r:Tm×Bool×Int):Prop:=r.2.1=true->bw r.1=0/\r.2.2=0
theorem Ij (e:Int):I2 (pX,false,e):=fun h=>by cases h
theorem aAR (q:Tm×Int):(∃e,Mz q=(pX,false,e))\/q.2=0/\bw q.1=0/\Mz q=(q.1,true,0):=by
 grind [Mz,dM]
theorem TE (q:Tm×Int):I2 (Mz q):=by
 rcases aAR q with ⟨e,he⟩|⟨_,h,he⟩
 ·rw [he];exact Ij e
 ·rw [he];exact fun _=>⟨h,rfl⟩
theorem ad (x:Except Int Tm):I2 (Hu x):=by
 cases x with
 |error e=>exact Ij e
 |ok t=>
  by_cases h:bw t=0
  ·rw [show Hu (.ok t)=(t,true,0) from if_pos h];exact fun _=>⟨h,rfl⟩
  grind [Hu,Ij]
theorem Ht {c:Prop} [Decidable c] {a b:Tm×Bool×Int} (ha:I2 a) (hb:I2 b):I2 (if c then a else b):=by
 grind
theorem hg {r s:Tm×Bool×Int} (h:I2 r) (hs:I2 s):I2 (aux r s):=Ht h hs
theorem aI5 (t:Tm):I2 (z' t):=Ht (Ij _) (Ht (TE _) (Ij _))
theorem aI3 (t:Tm):I2 (h_ t):=Ht (Ij _) (Ht (ad _) (Ij _))
theorem aI4 (t:Tm):I2 (pP t):=Ht (Ij _) (Ht (ad _) (Ij _))
theorem aI7 (t:Tm):I2 (Ss t):=Ht (Ij _) (Ht (Ij _) (Ht (TE _) (Ht (TE _) (Ht (TE _) (Ht (TE _) (Ht (aI3 t) (Ht (aI5 t) (Ij _))))))))
theorem aI2 (t:Tm):I2 (TD t):=Ht (Ij _) (Ht (TE _) (Ij _))
theorem aI6 (t:Tm):I2 (Nq t):=Ht (Ij _) (Ht (TE _) (Ht (Ij _) (Ht (ad _) (Ij _))))
theorem aI8 {defs:List Df} (hd:H4 k defs) (t:Tm):I2 (if (IA defs t).2=true then ((IA defs t).1,true,0) else (pX,false,0)):=by
 by_cases h:(IA defs t).2=true
 ·rw [if_pos h]
  refine fun _=>⟨?_,rfl⟩
  unfold IA at h ⊢
  by_cases h2:t.k=2
  ·rw [if_pos h2] at h ⊢
   cases hf:defs.find? fun d=>decide (d.name=t.name) with
   |none=>grind
   |some d=>
    rw [hf] at h
    have h:(MC d.body 0 0==0)=true:=h
    exact (apu (hd.2 d (List.mem_of_find?_eq_some hf)) (by simpa using h)).2
  grind
 grind [Ij]
theorem aDp {defs:List Df} (hd:H4 k defs) (t:Tm):I2 (nf defs t):=Ht (Ij _) (hg (aI2 t) (hg (aI4 t) (hg (aI7 t) (hg (aI6 t) (aI8 hd t)))))
theorem Sn {kd D:Int} {f:LC} {ks:LT} (h:(ks.length:Int)=Ah kd) (h1:cV f=true) (h2:dg f D=true):bX kd D ⟨f,ks⟩=true:=by
 show (decide ((ks.length:Int)=Ah kd)&&(cV f&&dg f D))=true
 grind
theorem aQz {D:Int} (h:2<=D):dg [⟨2,0⟩] D=true:=(L5 (gS ⟨⟨by decide,by decide⟩,by decide,by decide⟩)).2 (xG.2 fun j hj=>by
 rcases hj with hj|hj
 ·have:=(lN j).2.1.1 hj;omega
 grind [a8])
section
variable {V D:Int} {a y k0:Tm} {sys:LB}
end
theorem aQ7 {D:Int} (h:2<=D):dg [⟨3,0⟩] D=true:=Nf (d:=2) (gS ⟨⟨by decide,by decide⟩,by decide,by decide⟩) (by decide) h
section
variable {V D:Int} {a y:Tm} {sys:LB}
end
theorem Ey {bd:Bool} {V D kd:Int} {i:Nat} {t:Tm}:bO bd V D kd i [t]=true↔rP bd (cQ V (tZ kd i)) (D+bJ kd i) t=true:=by
 grind [bO]
theorem Ej {bd:Bool} {V D kd:Int} {i:Nat} {t u:Tm}:bO bd V D kd i [t,u]=true↔rP bd (cQ V (tZ kd i)) (D+bJ kd i) t=true/\rP bd (cQ V (tZ kd (i+1:Nat))) (D+bJ kd (i+1:Nat)) u=true:=by
 grind [bO]
theorem Ml {bd:Bool} {V D kd:Int} {i:Nat} {t u w:Tm}:bO bd V D kd i [t,u,w]=true↔rP bd (cQ V (tZ kd i)) (D+bJ kd i) t=true/\rP bd (cQ V (tZ kd (i+1:Nat))) (D+bJ kd (i+1:Nat)) u=true/\rP bd (cQ V (tZ kd (i+1+1:Nat))) (D+bJ kd (i+1+1:Nat)) w=true:=by
 grind [bO]
theorem Tk {V D kd n:Int} {nm:BA} {r:LC} {ks:LT} {sys:LB} (ho:cL V D (.mk kd n nm r ks sys)=true) (hk:bO false V D kd 0 ks=true) (hs:ck false V D kd sys=true):fz V D (.mk kd n nm r ks sys):=by
 grind [rP]
theorem RB {V D kd:Int} {l:LT} (h1:kd≠1/\kd≠2) (hk:ct kd=l.length) (ha:bO false V D kd 0 l=true):fz V D (dS kd l):=by
 unfold dS
 refine Tk ?_ ha (by rw [ck])
 unfold cL
 simp only [qC,decide_eq_true_eq]
 refine ⟨⟨hk,by simp,by simp,fun _=>rfl⟩, ?_⟩
 rw [if_neg h1.1,if_neg h1.2]
 have hl:dg [] D=true:=Fk D [] rfl
 split
 ·rfl
 ·split
  all_goals rfl
theorem MI {V D n:Int} (hn:0<=n) (h:n<V):fz V D (vN n):=by
 unfold vN
 refine Tk ?_ (by rw [bO]) (by rw [ck])
 unfold cL
 simp only [qC,decide_eq_true_eq]
 exact ⟨⟨rfl,by simp,by simp,fun _=>rfl⟩,by grind⟩
theorem MW {bd:Bool} {V D:Int} {t:Tm} (h:rP bd V D t=true):bO bd V D t.k 0 t.c=true/\ck bd V D t.k t.s=true/\cL V D t=true:=by
 obtain ⟨kd,n,j,r,q,sys⟩:=t
 rw [rP,qC,qC,qC] at h
 exact ⟨h.2.2.1,h.2.2.2,h.2.1⟩
theorem SR {V D:Int} {r:LC} {l a:Tm} (j:cV r=true) (h:dg r D=true) (hl:fz V (D+1) l) (ha:fz V D a):fz V D (xW r l a):=by
 refine Tk ?_ ?_ (by rw [ck])
 ·show (true&&(cV r&&dg r D))=true
  grind
 ·rw [Ej]
  show rP false (cQ V 0) (D+1) l=true/\rP false (cQ V 0) (D+0) a=true
  grind [Dj]
theorem k5 {V D:Int} {t:Tm} (h:fz V D t) (hk:t.k=14) {l a:Tm} (j:t.c=[l,a]):cV t.r=true/\dg t.r D=true/\fz V (D+1) l/\fz V D a:=by
 obtain ⟨h1,_,q⟩:=MW h
 rw [hk,j,Ej] at h1
 have x:tZ 14 ((0:Nat):Int)=0:=rfl
 have z:bJ 14 ((0:Nat):Int)=1:=rfl
 have A:tZ 14 ((0+1:Nat):Int)=0:=rfl
 have B:bJ 14 ((0+1:Nat):Int)=0:=rfl
 rw [x,z,A,B,Dj,xm] at h1
 obtain ⟨kd,n,E,r,F,sys⟩:=t
 have hk:kd=14:=hk
 subst hk
 have:(_&&(cV r&&dg r D))=true:=q
 simp only [qC] at this
 exact ⟨this.2.1,this.2.2,h1.1,h1.2⟩
theorem SO {V D:Int} {l a:Tm} {sys:LB} (hl:fz V D l) (ha:fz V D a) (hb:sys.all (bX 15 D)=true) (hs:ck false V D 15 sys=true):fz V D (.mk 15 0 qw [] [l,a] sys):=by
 refine Tk ?_ ?_ hs
 ·show (true&&(sys.all (bX 15 D)&&true))=true
  grind
 ·rw [Ej]
  show rP false (cQ V 0) (D+0) l=true/\rP false (cQ V 0) (D+0) a=true
  grind [Dj]
theorem iK {V D:Int} {x:Tm} (h:fz V D x) (hk:x.k=15):x.s.all (bX 15 D)=true/\ck false V D 15 x.s=true/\ ∀ {u a:Tm},x.c=[u,a]->fz V D u/\fz V D a:=by
 obtain ⟨h1,h2,j⟩:=MW h
 rw [hk] at h1 h2
 refine ⟨?_,h2,fun q=> ?_⟩
 ·obtain ⟨kd,n,z,r,A,sys⟩:=x
  have hk:kd=15:=hk
  subst hk
  have:(_&&(sys.all (bX 15 D)&&_))=true:=j
  simp only [qC] at this
  exact this.2.1
 grind [Ej,tZ,bJ,Dj]
theorem aQR {V D:Int}:fz V D zm:=RB (kd:=3) (l:=[]) (by decide) rfl (by rw [bO])
theorem SN {kd V D:Int} (h:kd=9\/kd=10) {a:Tm} (ha:fz V D a):fz V D (dS kd [a]):=by
 have j:tZ kd ((0:Nat):Int)=0:=by grind [tZ]
 have q:bJ kd ((0:Nat):Int)=0:=by grind [bJ]
 refine RB (by omega) (by rcases h with rfl|rfl<;>rfl) (Ey.2 ?_)
 grind [Dj]
theorem MY {kd V D:Int} (h:kd=6\/kd=8) {a b:Tm} (ha:fz V D a) (hb:fz V D b):fz V D (dS kd [a,b]):=by
 have j:tZ kd ((0:Nat):Int)=0:=by grind [tZ]
 have q:bJ kd ((0:Nat):Int)=0:=by grind [bJ]
 have x:tZ kd ((0+1:Nat):Int)=0:=by grind [tZ]
 have z:bJ kd ((0+1:Nat):Int)=0:=by rfl
 refine RB (by omega) (by rcases h with rfl|rfl<;>rfl) (Ej.2 ⟨?_, ?_⟩)
 all_goals grind [Dj]
theorem k9 {kd V D:Int} (h:kd=16\/kd=17\/kd=18) {a:Tm} {sys:LB} (ha:fz V D a) (hb:sys.all (bX kd D)=true) (hs:ck false V D kd sys=true):fz V D (.mk kd 0 qw [] [a] sys):=by
 have j:tZ kd ((0:Nat):Int)=0:=by grind [tZ]
 have q:bJ kd ((0:Nat):Int)=0:=by grind [bJ]
 refine Tk ?_ (Ey.2 (by grind [Dj])) hs
 rcases h with rfl|rfl|rfl
 ·show (true&&(sys.all (bX 16 D)&&true))=true
  grind
 ·show (true&&(sys.all (bX 17 D)&&true))=true
  grind
 ·show (true&&(sys.all (bX 18 D)&&true))=true
  grind
theorem G0 {V D:Int} {r:LC} {u lo h:Tm} (j:xP r=true) (hl:dg r D=true) (h1:fz V D u) (h2:fz V D lo) (q:fz V D h):fz V D (pap r u lo h):=by
 refine Tk ?_ ?_ (by rw [ck])
 ·show (true&&(xP r&&dg r D))=true
  grind
 grind [tZ,bJ,Ml,Dj]
theorem Hi {V D:Int} (j:0<=V) {x:Tm} (h:fz (V+1) D x):fz V D (dS 5 [x]):=by
 refine RB (kd:=5) (by decide) rfl (Ey.2 ?_)
 show fz (cQ V 1) (D+0) _
 grind [fk]
theorem uu {V D:Int} {x:Tm} (h:fz V (D+1) x):fz V D (dS 12 [x]):=by
 refine RB (kd:=12) (by decide) rfl (Ey.2 ?_)
 show fz (cQ V 0) (D+1) _
 rw [Dj];exact h
theorem aSS {V D:Int} {r:LC} {a:Tm} (j:xP r=true) (h:dg r D=true) (ha:fz V D a):fz V D (.mk 26 0 qw r [a] []):=by
 refine Tk ?_ (Ey.2 ?_) (by rw [ck])
 ·show (true&&(xP r&&dg r D))=true
  grind
 ·show rP false (cQ V 0) (D+0) a=true
  grind [Dj]
theorem aRs {V D:Int} {r:LC} (j:2<=V) (h:xP r=true) (hl:dg r D=true):fz V D (k3 r):=
 G0 h hl (SN (.inr rfl) (MI (by decide) (by omega))) (MI (by decide) (by omega)) (SN (.inl rfl) (MI (by decide) (by omega)))
theorem aSV {V D:Int} (h:0<=V) (j:0<=D):fz V D j4:=by
 unfold j4 Tu
 refine MY (.inr rfl) (Hi h (MI (by decide) (by omega))) (Hi h (MY (.inr rfl) (MY (.inr rfl) (MI (by decide) (by omega)) (uu (MI (by decide) (by omega)))) ?_))
 refine Hi (by omega) (uu (MY (.inr rfl) (aRs (by omega) (by decide) (u_ (by omega))) (uu (aRs (by omega) (by decide) (aQ7 (by omega))))))
theorem Xc {V D kd:Int}: ∀ {l:LB},(∀y∈l,bX kd D y=true/\ca false V D kd y.c=true)->l.all (bX kd D)=true/\ck false V D kd l=true:=by
 intro l
 induction l with
 |nil=>grind [ck]
 |cons x l j=>
  intro h
  obtain ⟨z,q2⟩:=h x (by simp)
  obtain ⟨i1,i2⟩:=j fun y q=>h y (by simp [q])
  obtain ⟨f,A⟩:=x
  grind [ck,jT]
theorem aRq {V D kd:Int} {F:Br Tm->Except Int (Br Tm)}: ∀ {l l':LB},(∀x∈l,∀b,F x= .ok b->bX kd D b=true/\ca false V D kd b.c=true)->Ih F l= .ok l'->l'.all (bX kd D)=true/\ck false V D kd l'=true:=by
 intro l
 induction l with
 |nil=>grind [Ih,ck]
 |cons x l q=>
  intro l' j h
  rw [Ih] at h
  obtain ⟨b,h1,h⟩:=i8 h
  obtain ⟨m,h2,h⟩:=i8 h
  injection h with h;subst h
  obtain ⟨A,q2⟩:=j x (by simp) b h1
  obtain ⟨i1,i2⟩:=q (fun x z=>j x (by simp [z])) h2
  obtain ⟨f,B⟩:=b
  grind [ck,jT]
theorem fC {V D kd:Int} {sys:LB} (h1:sys.all (bX kd D)=true) (h2:ck false V D kd sys=true): ∀x∈sys,cV x.f=true/\dg x.f D=true/\ ∀y∈x.c,fz V (D+av kd) y:=fun x h=>by
 grind [wH,bX]
theorem Sr {V D kd:Int} {t:Tm}:ca false V D kd [t]=true↔fz V (D+av kd) t:=by grind [ca]
theorem Xb {V D kd:Int} {a b:LB} (ha:a.all (bX kd D)=true/\ck false V D kd a=true) (hb:b.all (bX kd D)=true/\ck false V D kd b=true):(a++b).all (bX kd D)=true/\ck false V D kd (a++b)=true:=by
 grind [wH]
theorem j3 {V D kd:Int} {f:LC} {z:Tm} (hp:Ah kd=1) (h1:cV f=true) (h2:dg f D=true) (h:fz V (D+av kd) z):[(⟨f,[z]⟩:Br Tm)].all (bX kd D)=true/\ck false V D kd [⟨f,[z]⟩]=true:=
 Xc fun y j=>by grind [Sn,Sr]
theorem ds {V D:Int} {r:LC} {t t':Tm} (hf:Fm t) (q:0<=D) (j:0<=V) (x:RF r) (hl:dg r (D+2)=true) (hs:fz V (D+1) t) (h:di r t= .ok t'):fz V (D+2) t':=by
 unfold di at h
 obtain ⟨m,h1,h⟩:=i8 h
 have fm:=jr (by omega) hf h1
 have s1:=q8 (BF 0) (by omega) (by omega) j hf hs h1
 grind [me]
theorem aQ5 {D:Int} (h:0<=D):dg [⟨1,0⟩,⟨2,0⟩] (D+2)=true:=Nf (d:=2) QA (by decide) (by omega)
theorem aRc:RF [⟨0,1⟩,⟨2,0⟩]:=aC4
theorem aSt {D:Int} (h:0<=D):dg [⟨0,1⟩,⟨2,0⟩] (D+2)=true:=Nf (d:=2) aRc (by decide) (by omega)
theorem fU {V D:Int} {t t':Tm} (hf:Fm t) (j:0<=D) (hs:fz V (D+1) t) (h:Ao 0 [⟨0,0⟩] t= .ok t'):fz V D t':=me hf j Qz (Nf (d:=0) Qz (by decide) j) hs h
theorem aQN {V D:Int} {line a x:Tm} {sys:LB} (hl:Fm line) (q:0<=D) (B:0<=V) (s1:fz V (D+1) line) (s2:fz V D a) (E:sys.all (bX 15 D)=true) (F:ck false V D 15 sys=true) (sy: ∀b∈sys,b.c=[AK b]) (h:dF line a sys= .ok x):fz V D x:=by
 unfold dF at h
 obtain ⟨l1,I,h⟩:=i8 h
 obtain ⟨l,J,h⟩:=i8 h
 injection h with h;subst h
 have m15:av 15=1:=rfl
 have key: ∀ {r l:LB},(∀x∈r,x∈sys)->g_ line r= .ok l->l.all (bX 15 D)=true/\ck false V D 15 l=true:=by
  intro r
  induction r with
  |nil=>grind [g_,ck]
  |cons b r L=>
   intro l A h
   rw [g_] at h
   obtain ⟨u,M,h⟩:=i8 h
   obtain ⟨m,q2,h⟩:=i8 h
   injection h with h;subst h
   obtain ⟨O,T,W⟩:=fC E F b (A b (by simp))
   have j:=W (AK b) (by grind)
   have hu:=ds hl q B QA (aQ5 q) s1 M
   rw [m15] at j
   exact Xb (j3 (kd:=15) rfl O T (by grind [SR,apt,u_])) (L (fun x z=>A x (by simp [z])) q2)
 obtain ⟨k1,Y⟩:=key (fun x z=>z) J
 exact SO (fU hl q s1 I) (SR (by decide) (Fk _ _ rfl) s1 s2) k1 Y
theorem cy {D:Int} {f g:LC} (hf:aq f) (h1:cV f=true) (h2:dg f D=true) (h:NF (ua f 0 1)= .ok g):cV g=true/\dg g (D+1)=true:=by
 have j:Dc 0 1 f= .ok g:=by grind [Dc]
 exact ⟨QF j hf h1,f' ((oB hf).1 h1).1 (by decide) (by decide) h2 j⟩
theorem uK {V D:Int} {t a x:Tm} {sys:LB} (E:Fm t) (ha:Fm a) (F:0<=D) (q:0<=V) (s1:fz V D t) (s2:fz V D a) (I:sys.all (bX 15 D)=true) (J:ck false V D 15 sys=true) (sy:SyF sys) (h:FI t a sys= .ok x):fz V (D+1) x:=by
 unfold FI at h
 obtain ⟨t',L,h⟩:=i8 h
 obtain ⟨a',M,h⟩:=i8 h
 obtain ⟨l,O,h⟩:=i8 h
 obtain ⟨a2,T,h⟩:=i8 h
 injection h with h;subst h
 have m15:av 15=1:=rfl
 have key: ∀ {r l:LB},(∀x∈r,x∈sys)->gK r= .ok l->l.all (bX 15 (D+1))=true/\ck false V (D+1) 15 l=true:=by
  intro r
  induction r with
  |nil=>grind [gK,ck]
  |cons b r W=>
   intro l A h
   rw [gK] at h
   obtain ⟨f,Y,h⟩:=i8 h
   obtain ⟨u,q1,h⟩:=i8 h
   obtain ⟨m,q2,h⟩:=i8 h
   injection h with h;subst h
   obtain ⟨y1,y2,y3,_⟩:=sy.bD b (A b (by simp))
   obtain ⟨p1,p2,p3⟩:=fC I J b (A b (by simp))
   have j:=p3 (AK b) (by grind)
   rw [m15] at j
   obtain ⟨r1,r2⟩:=cy y3 p1 p2 Y
   have hu:=ds y2 F q QD (aQ7 (by omega)) j q1
   exact Xb (j3 (kd:=15) rfl r1 r2 (by grind)) (W (fun x B=>A x (by simp [B])) q2)
 have u1:=FA E (by omega) (by omega) q s1 L
 have u2:=FA ha (by omega) (by omega) q s2 M
 have u3:=FA ha (by omega) (by omega) q s2 T
 rw [xm] at u1 u2 u3
 obtain ⟨k1,k2⟩:=Xb (key (fun x B=>B) O) (j3 (V:=V) (D:=D+1) (kd:=15) (f:=[⟨0,1⟩]) (z:=a2) rfl (by decide) (aQy (by omega)) (by grind))
 grind [SO]
theorem aST {V D:Int} {line a x:Tm} {pz r:LC} {en:Cl} (hl:Fm line) (ha:Fm a) (hp:cV pz=true) (A:aq pz) (q:dg pz D=true) (F:aX en) (I:u9 (fun j=>j=0) [en]) (Y:RF r) (J:dg r (D+2)=true) (hD:0<=D) (L:0<=V) (s1:fz V (D+1) line) (s2:fz V D a) (h:RR line pz a en r= .ok x):fz V (D+1) x:=by
 unfold RR at h
 obtain ⟨f1,e1,h⟩:=i8 h
 obtain ⟨f,M,h⟩:=i8 h
 obtain ⟨l,e3,h⟩:=i8 h
 obtain ⟨a',O,h⟩:=i8 h
 injection h with h;subst h
 have B:=(oB A).1 hp
 have z:Dc 0 1 pz= .ok f1:=by grind [Dc]
 have r1:=GY B.1 z
 have l1:=f' B.1 (by decide) (by decide) q z
 obtain ⟨T,rfl⟩:=rR M
 have W:aq [en]:=fun c hc=>by grind
 have E:=aGh r1.2 W T
 have u:=FA ha (by omega) (by omega) L s2 O
 rw [xm] at u
 refine SR (BE.right E) ?_ ?_ u
 ·rw [L5 E.1]
  grind [L5,aSq,Rj]
 grind [ds]
theorem aSU {V D:Int} {t a f y x:Tm} (ha:Fm a) (hf:Fm f) (q:Fm y) (j:0<=V) (s1:fz V D t) (s2:fz V D a) (z:fz V D f) (A:fz V D y) (h:ID t a f y= .ok x):fz V D x:=by
 unfold ID at h
 obtain ⟨a',B,h⟩:=i8 h
 obtain ⟨E,F,h⟩:=i8 h
 obtain ⟨O,I,h⟩:=i8 h
 injection h with h;subst h
 have J:=FA ha (by omega) (by omega) j s2 B
 have L:=FA q (by omega) (by omega) j A F
 have M:=FA hf (by omega) (by omega) j z I
 rw [xm] at L M
 refine RB (by decide) rfl (Ej.2 ⟨?_, ?_⟩)
 ·show rP false (cQ V 0) (D+0) t=true
  grind [Dj]
 ·show fz (cQ V 1) (D+0) _
  rw [fk j,xm]
  refine RB (by decide) rfl (Ml.2 ⟨?_, ?_, ?_⟩)
  ·show rP false (cQ (V+1) 0) (D+1) a'=true
   rw [Dj];exact J
  ·show rP false (cQ (V+1) 0) (D+0) E=true
   grind [Dj]
  ·show fz (cQ (V+1) 0) (D+0) _
   grind [Dj,MY,MI]
def Wb (n V D:Int) (t:Tm):Prop:=fz V D t/\True
theorem Wb.mono {n m V D:Int} {t:Tm} (h:Wb n V D t) (hn:n<=m):Wb m V D t:=h
def WB (n kd V D:Int) (l:LB):Prop:=(l.all (bX kd D)=true/\ck false V D kd l=true)/\True
theorem WB.app {n kd V D:Int} {a b:LB} (ha:WB n kd V D a) (hb:WB n kd V D b):WB n kd V D (a++b):=⟨Xb ha.1 hb.1,trivial⟩
theorem WB.nil {n kd V D:Int}:WB n kd V D []:=⟨Xc (fun y h=>by cases h),trivial⟩
theorem WB.of {n kd V D:Int} (hp:Ah kd=1) {l:LB} (h: ∀b∈l,∃z,b.c=[z]/\cV b.f=true/\dg b.f D=true/\Wb n V (D+av kd) z):WB n kd V D l:=by
 refine ⟨Xc fun b hb=> ?_,trivial⟩
 obtain ⟨z,j,q2,q,x⟩:=h b hb
 obtain ⟨f,A⟩:=b
 have j:A=[z]:=j
 subst j
 exact ⟨Sn (by grind) q2 q,Sr.2 x.1⟩
variable {n V D:Int}
theorem aRf (hn:0<=n) {l a:Tm} {sys:LB} (hl:Wb n V D l) (ha:Wb n V D a) (hs:WB n 15 V D sys):Wb (n+1) V D (.mk 15 0 qw [] [l,a] sys):=⟨SO hl.1 ha.1 hs.1.1 hs.1.2,trivial⟩
theorem aRk {kd:Int} (hn:0<=n) (h:kd=16\/kd=17\/kd=18) {a:Tm} {sys:LB} (ha:Wb n V D a) (hs:WB n kd V D sys):Wb (n+1) V D (.mk kd 0 qw [] [a] sys):=⟨k9 h ha.1 hs.1.1 hs.1.2,trivial⟩
theorem Ni {kd:Int} (hn:0<=n) (h:kd=9\/kd=10) {a:Tm} (ha:Wb n V D a):Wb (n+1) V D (dS kd [a]):=⟨SN h ha.1,trivial⟩
theorem W4 {kd:Int} (hn:0<=n) (h:kd=6\/kd=8) {a b:Tm} (ha:Wb n V D a) (hb:Wb n V D b):Wb (n+1) V D (dS kd [a,b]):=⟨MY h ha.1 hb.1,trivial⟩
theorem aQK (hn:0<=n) {r:LC} {u lo h:Tm} (j:xP r=true) (hl:dg r D=true) (h1:Wb n V D u) (h2:Wb n V D lo) (q:Wb n V D h):Wb (n+1) V D (pap r u lo h):=⟨G0 j hl h1.1 h2.1 q.1,trivial⟩
theorem aRe (hn:0<=n) {x:Tm} (h:Wb n V (D+1) x):Wb (n+1) V D (dS 12 [x]):=⟨uu h.1,trivial⟩
theorem aSQ (hn:0<=n) (j:0<=V) {x:Tm} (h:Wb n (V+1) D x):Wb (n+1) V D (dS 5 [x]):=⟨Hi j h.1,trivial⟩
theorem h5 (hn:0<=n) {r:LC} {l a:Tm} (j:cV r=true) (h:dg r D=true) (hl:Wb n V (D+1) l) (ha:Wb n V D a):Wb (n+1) V D (xW r l a):=⟨SR j h hl.1 ha.1,trivial⟩
theorem aQL {a b:Int} (ha:0<=a/\a<=1000000000) (hb:0<=b) (j:0<=V) {t t':Tm} (hf:Fm t) (hs:Wb n V D t) (h:J6 a b t= .ok t'):Wb n (V+a) (D+b) t':=⟨FA hf ha hb j hs.1 h,trivial⟩
theorem WZ {r:LC} {t t':Tm} (hf:Fm t) (j:0<=D) (q:RF r) (hl:dg r D=true) (hs:Wb n V (D+1) t) (h:Ao 0 r t= .ok t'):Wb n V D t':=⟨me hf j q hl hs.1 h,trivial⟩
theorem hy (hn:0<=n) {line a x:Tm} {pz r:LC} {en:Cl} (hl:Fm line) (ha:Fm a) (hp:cV pz=true) (z:aq pz) (q:dg pz D=true) (A:aX en) (B:u9 (fun j=>j=0) [en]) (F:RF r) (E:dg r (D+2)=true) (I:0<=D) (J:0<=V) (s1:Wb n V (D+1) line) (s2:Wb n V D a) (h:RR line pz a en r= .ok x):Wb (n+1) V (D+1) x:=
 ⟨aST hl ha hp z q A B F E I J s1.1 s2.1 h,trivial⟩
theorem aRi (hn:0<=n) {line a x:Tm} {sys:LB} (hl:Fm line) (j:0<=D) (q:0<=V) (s1:Wb n V (D+1) line) (s2:Wb n V D a) (hs:WB n 15 V D sys) (sy: ∀b∈sys,b.c=[AK b]) (h:dF line a sys= .ok x):Wb (n+2) V D x:=
 ⟨aQN hl j q s1.1 s2.1 hs.1.1 hs.1.2 sy h,trivial⟩
theorem W6 {c:Int} {x:Except Int Tm} (j: ∀e,x= .error e->e≠0) (h:(mM c x).2=0):c=0/\ ∃y,x= .ok y/\(mM c x).1=y:=by
 by_cases hc:c=0
 ·subst hc
  rw [kR] at h ⊢
  cases x with
  |error e=>exact absurd h (j e rfl)
  |ok y=>exact ⟨rfl,y,rfl,rfl⟩
 grind [n9]
theorem aQ4:u9 (fun j=>j=0) [⟨0,1⟩]:=xG.2 fun j hj=>hj.elim (fun h=>by simp [hp] at h) fun h=>(lN j).1.1 h
theorem aSp:u9 (fun j=>j=0) [⟨1,0⟩]:=xG.2 fun j hj=>hj.elim (fun h=>(lN j).1.1 h) fun h=>absurd h (a8 _ _)
theorem aQ6 {D:Int} (h:2<=D):dg [⟨3,0⟩] D=true:=Nf (d:=2) (gS ⟨⟨by decide,by decide⟩,by decide,by decide⟩) (by decide) h
theorem hI {n V D:Int} {x:Tm} (fx:Fm x) (hk:x.k=16) (h:Wb n V D x):(∀b∈x.s,cV b.f=true/\dg b.f D=true/\Wb n V D (AK b)/\Wb n V D (k1 b))/\Wb n V D (Mj x):=by
 obtain ⟨h1,h2,z⟩:=MW h.1
 obtain ⟨A,_,a,ha,fa⟩:=fx.gl hk
 rw [hk] at h1 h2
 have B:x.s.all (bX 16 D)=true:=by
  obtain ⟨kd,I,J,r,L,sys⟩:=x
  have hk:kd=16:=hk
  subst hk
  have:(_&&(sys.all (bX 16 D)&&_))=true:=z
  simp only [qC] at this
  exact this.2.1
 have m16:av 16=0:=rfl
 refine ⟨fun b hb=> ?_, ?_⟩
 ·obtain ⟨E,F,j⟩:=fC B h2 b hb
  rw [m16,xm] at j
  have q:=(A b hb).1
  have m0:AK b∈b.c:=by grind
  have m1:k1 b∈b.c:=by grind
  exact ⟨E,F,⟨j _ m0,trivial⟩,⟨j _ m1,trivial⟩⟩
 ·have hd:Mj x=a:=by grind [Mj]
  rw [hd]
  rw [ha,Ey] at h1
  have h1:rP false (cQ V 0) (D+0) a=true:=h1
  rw [Dj,xm] at h1
  refine ⟨h1, ?_⟩
  simp
theorem aRl {n V D:Int} (hn:0<=n) {T a:Tm} (j:Fm T) (hT:T.k=16) (h:Wb n V D T) (ha:Wb n V D a):Wb (n+1) V D (zg a (eh T)):=
 aRk hn (.inr (.inr rfl)) ha (WB.of rfl fun b hb=>by
  obtain ⟨x,q,rfl⟩:=xq.1 hb
  obtain ⟨z,A,_,B⟩:=(hI j hT h).1 x q
  grind [av])
theorem aQT {c D:Int} {f:LC} (h:RX true f) (A:0<=D) (hl:dg f (D+1)=true) (j:(Ic c f).2=0):c=0/\cV (Ic c f).1=true/\dg (Ic c f).1 D=true:=by
 unfold Ic at j ⊢
 by_cases hc:c=0
 case neg=>grind
 rw [if_pos hc] at j ⊢
 refine ⟨hc, ?_⟩
 obtain ⟨_,a1,a2⟩:=aAD h
 have ok:=(MP (G9 a1) yt.1 yt.1 (by have:=yt.2;omega) (by have:=yt.2;omega)).ok
 cases q:sI 0 [] (xW (MA f).1 zm zm) with
 |error e=>
  rw [q] at j
  have:=Nd e q
  have:e=0:=j
  omega
 |ok y=>
  obtain ⟨ft,x⟩:=Nl ok q
  have fy:=aN8 ft x
  have B:y.k=14:=TZ x
  have s:fz 0 (D+1) (xW (MA f).1 zm zm):=SR (BE.right ⟨a1.1,a1.2 rfl⟩) ((L5 a1.1).2 (a2 _ ((L5 h.1).1 hl))) aQR aQR
  have sy:=me ft A rA (Sp A) s x
  obtain ⟨l,a,z⟩:=I8 (E5 fy B (n:=2) rfl)
  obtain ⟨E,q2,_⟩:=k5 sy B z
  exact ⟨E,q2⟩
theorem aRd {D:Int} (q:0<=D): ∀ {l:LB} {c:Int},(∀b∈l,RX true b.f/\dg b.f (D+1)=true)->(B1 c l).2=0->c=0/\ ∀b∈(B1 c l).1,∃x∈l,b.c=x.c/\cV b.f=true/\dg b.f D=true:=by
 intro l
 induction l with
 |nil=>intro c _ h;exact ⟨h,fun b hb=>by cases hb⟩
 |cons x l z=>
  intro c j h
  rw [B1] at h ⊢
  obtain ⟨r1,A⟩:=j x (by simp)
  by_cases B:(Ic c x.f).1.length=0
  ·rw [if_pos B] at h ⊢
   obtain ⟨i1,i2⟩:=z (fun b hb=>j b (by simp [hb])) h
   obtain ⟨hc,_⟩:=aQT r1 q A i1
   grind
  ·rw [if_neg B] at h ⊢
   obtain ⟨i1,i2⟩:=z (fun b hb=>j b (by simp [hb])) h
   obtain ⟨hc,E,q2⟩:=aQT r1 q A i1
   grind
section
variable {pz:LC} {V D n:Int}
theorem ih {F:Int->Tm×Int} (h1:cV pz=true) (h2:dg pz D=true) (j: ∀c,(F c).2=0->c=0/\Wb n V (D+1) (F c).1) {c:Int} (h:(Ab pz F c).2=0):c=0/\WB n 15 V D (Ab pz F c).1:=by
 unfold Ab at h ⊢
 split at h
 ·grind [WB.nil]
 ·rename_i hl
  rw [if_neg hl]
  obtain ⟨q,q2⟩:=j c h
  exact ⟨q,WB.of rfl fun b hb=>by
   rw [List.mem_singleton] at hb;subst hb
   exact ⟨_,rfl,h1,h2,q2⟩⟩
theorem RD {a b c:Int} (ha:0<=a/\a<=1000) (hb:0<=b/\b<=1000) (j:0<=V) {t:Tm} (q:p9 t) (s:Wb n V D t) (h:(mM c (wA a b t)).2=0):c=0/\Fm t/\Fm (mM c (wA a b t)).1/\Wb n (V+a) (D+b) (mM c (wA a b t)).1:=by
 obtain ⟨hc,y,x,e⟩:=lf Hy h
 grind [Mp,mD,aQL]
theorem aSz (hn:0<=n) {a:Tm} (fa:Fm a) (hp:RX true pz) (h1:cV pz=true) (h2:dg pz D=true) (A:0<=D) (B:0<=V) (E:Wb n V D a) {st:LB} (hs: ∀b∈st,K5 b/\cV b.f=true/\dg b.f D=true/\Wb n V (D+1) (AK b)/\Wb n V (D+1) (k1 b)) {c:Int} (h:(ue (RU pz a) c st).2=0):c=0/\WB (n+2) 15 V D (ue (RU pz a) c st).1:=by
 have en: ∀b:Br Tm,∀e,Fs (AK b) pz a ⟨0,1⟩ [⟨3,0⟩]= .error e->e≠0:=fun b e h=>eG h
 have z: ∀c x,(RU pz a c x).2=0->c=0:=fun c x h=>(W6 (en x) h).1
 obtain ⟨hc,F⟩:=To z h
 refine ⟨hc, ?_⟩
 rw [sx z h]
 refine WB.of rfl fun b hb=> ?_
 obtain ⟨x,j,rfl⟩:=xq.1 hb
 obtain ⟨⟨T,q2,W,Y,q5⟩,I,J,L,M⟩:=hs x j
 obtain ⟨_,y,O,e⟩:=W6 (en x) (F x j).1
 obtain ⟨_,_,_,q,_⟩:=aQu O
 have w:=hy hn q2 fa h1 hp.1.2 h2 sL aQ4 QD (aQ6 (by omega)) A B L E q
 refine ⟨_,rfl,I,J, ?_⟩
 rw [show av 15=1 from rfl,e]
 have:=W4 (kd:=6) (n:=n+1) (by omega) (.inl rfl) (Ni hn (.inl rfl) M) w
 grind
def n' (n V D:Int) (b:Br Tm):Prop:=K5 b/\cV b.f=true/\dg b.f D=true/\Wb n V (D+1) (AK b)/\Wb n V (D+1) (k1 b)
theorem aRS (hk:F3 k) (hn:0<=n) {g a:Tm} (B:Fm g) (L:g.k=16) (fa:Fm a) (hp:RX true pz) (h1:cV pz=true) (h2:dg pz D=true) (J:0<=D) (O:0<=V) (sg:Wb n V (D+1) g) (sa:Wb n V D a) (h:(Mq g pz a).c=0):
  Fm (Mq g pz a).a1/\Wb (n+4) V D (Mq g pz a).a1/\ ∀b∈(Mq g pz a).st,n' n V D b:=by
 obtain ⟨fB,sB,lB⟩:=II hk B L fa hp
 obtain ⟨hx,_,b0,W,Y⟩:=B.gl L
 obtain ⟨g1,g2⟩:=hI B L sg
 have h:(LV g pz a (zg a (eh (mM 0 (sI 0 [] g)).1)) (B1 (mM 0 (sI 0 [] g)).2 g.s).1 (B1 (mM 0 (sI 0 [] g)).2 g.s).2).2=0:=h
 have E:(Mq g pz a).st=(B1 (mM 0 (sI 0 [] g)).2 g.s).1:=rfl
 have ad:(Mq g pz a).a1=(LV g pz a (zg a (eh (mM 0 (sI 0 [] g)).1)) (B1 (mM 0 (sI 0 [] g)).2 g.s).1 (B1 (mM 0 (sI 0 [] g)).2 g.s).2).1:=rfl
 rw [E] at sB lB ⊢
 rw [ad] at fB ⊢
 have gT:GN (mM 0 (sI 0 [] g)).1:=k6 B L rA (Sp (by decide))
 have o0:=(gT.un fa).1.ok
 have i0:=(gT.un fa).1.isIn hk (by omega)
 have ao:=qE hk fa o0 hp sB lB (B1 (mM 0 (sI 0 [] g)).2 g.s).2
 unfold LV at h fB ⊢
 obtain ⟨hc,y,hy,e⟩:=lf (fun e h=>BH (fun e h=>o_ h) h) h
 obtain ⟨so,fy,q⟩:=BI hy
 have fb:=wg (a:=Mj g) (b:=zg a (eh (mM 0 (sI 0 [] g)).1)) (by unfold Mj;rw [W];exact Y.ok) o0 ao.1 so
 have ax:(B1 (mM 0 (sI 0 [] g)).2 g.s).2=0/\WB (n+2) 15 V D (SH pz a (zg a (eh (mM 0 (sI 0 [] g)).1)) (B1 (mM 0 (sI 0 [] g)).2 g.s).1 (B1 (mM 0 (sI 0 [] g)).2 g.s).2).1/\ ∀b∈(B1 (mM 0 (sI 0 [] g)).2 g.s).1,n' n V D b:=by
  have z:(Ab pz (fun c=>mM c (wA 0 1 (zg a (eh (mM 0 (sI 0 [] g)).1)))) (B1 (mM 0 (sI 0 [] g)).2 g.s).2).2=0:=(To (F:=RU pz a) (fun c x h=>(W6 (x:=Fs (AK x) pz a ⟨0,1⟩ [⟨3,0⟩]) (fun e h=>eG h) h).1) hc).1
  have j:(B1 (mM 0 (sI 0 [] g)).2 g.s).2=0:=by
   unfold Ab at z
   split at z
   ·exact z
   ·exact (lf Hy z).1
  obtain ⟨I,E⟩:=aRd J (fun b hb=>⟨(hx b hb).2.2.2,(g1 b hb).2.1⟩) j
  have A: ∀b∈(B1 (mM 0 (sI 0 [] g)).2 g.s).1,n' n V D b:=fun b hb=>by
   obtain ⟨x,az,M,q2,q3⟩:=E b hb
   obtain ⟨_,_,p3,p4⟩:=g1 x az
   have e0:AK b=AK x:=by unfold AK;rw [M]
   have e1:k1 b=k1 x:=by unfold k1;rw [M]
   exact ⟨sB b hb,q2,q3,by grind,by grind⟩
  obtain ⟨_,T,hT,eT⟩:=lf (c:=0) Nd I
  obtain ⟨_,hT⟩:=Nl B.ok hT
  have fT:=aN8 B hT
  have kT:T.k=16:=(TZ hT).trans L
  have sT:=WZ B J rA (Sp J) sg hT
  have s0:Wb (n+1) V D (zg a (eh (mM 0 (sI 0 [] g)).1)):=by grind [aRl]
  have hw:=(ih (n:=n+2) (V:=V) h1 h2 (fun c h=>by
   obtain ⟨M,_,_,q4⟩:=RD (a:=0) (b:=1) (by omega) (by omega) O o0 s0 h
   rw [xm] at q4
   exact ⟨M,q4.mono (by omega)⟩) z).2
  exact ⟨j,hw.app (aSz hn fa hp h1 h2 J O sa A hc).2,A⟩
 obtain ⟨j,a6,A⟩:=ax
 rw [e]
 refine ⟨⟨(yu hk fb.1 fb.2.1 (iQ fb.2.2) q).1.1,fy⟩, ?_,A⟩
 have I:=(aRd J (fun b hb=>⟨(hx b hb).2.2.2,(g1 b hb).2.1⟩) j).1
 obtain ⟨_,T,hT,eT⟩:=lf (c:=0) Nd I
 obtain ⟨_,hT⟩:=Nl B.ok hT
 have s0:Wb (n+1) V D (zg a (eh (mM 0 (sI 0 [] g)).1)):=by grind [aRl,aN8,TZ,WZ,rA,Sp]
 have:=aRi (n:=n+2) (by omega) fb.1 J O (g2.mono (by omega)) (s0.mono (by omega)) a6 (fun b hb=>((iQ fb.2.2).bD b hb).1) q
 grind
end
section
variable {pz:LC} {V D n:Int}
theorem aQ_ (hn:0<=n) (j:0<=V) (T:0<=D) {a1 cen x:Tm} {c:Int} (B:p9 a1) (E:p9 cen) (F:p9 x) (s1:Wb (n+4) V D a1) (s2:Wb (n+5) V D cen) (I:Wb (n+1) V D x) (h:(IC a1 cen x c).2=0):c=0/\Wb (n+8) V (D+1) (IC a1 cen x c).1:=by
 have h:(mM (mM (mM c (wA 0 1 cen)).2 (wA 0 1 x)).2 (wA 0 2 a1)).2=0:=h
 obtain ⟨h2,_,_,z⟩:=RD (by omega) (by omega) j B s1 h
 obtain ⟨J,_,_,w⟩:=RD (by omega) (by omega) j F I h2
 obtain ⟨L,_,_,u⟩:=RD (by omega) (by omega) j E s2 J
 rw [xm] at z w u
 refine ⟨L, ?_⟩
 rw [show D+2=D+1+1 by omega] at z
 have z12:=aRe (by omega) z
 have A:=W4 (kd:=8) (n:=n+5) (by omega) (.inr rfl) (w.mono (by omega)) (z12.mono (by omega))
 have q:=Ni (kd:=10) (by omega) (.inr rfl) u
 have M:=Ni (kd:=9) (by omega) (.inl rfl) u
 have O:=W4 (kd:=6) (n:=n+6) (by omega) (.inl rfl) (q.mono (by omega)) (A.mono (by omega))
 have:=aQK (n:=n+7) (r:=[⟨1,0⟩]) (by omega) (by decide) (u_ (by omega)) (O.mono (by omega)) (M.mono (by omega)) (A.mono (by omega))
 exact this.mono (by omega)
theorem aQB {a1 cen x:Tm} {c:Int} (h:(IC a1 cen x c).2=0):c=0:=by
 have h:(mM (mM (mM c (wA 0 1 cen)).2 (wA 0 1 x)).2 (wA 0 2 a1)).2=0:=h
 exact (lf Hy (lf Hy (lf Hy h).1).1).1
theorem aQw {a a1 t1 t e:Tm} {st:LB} {c:Int} (h:(Tx pz a a1 t1 st t e c).2=0):c=0/\(mM c (c6 [t,t1,dS 9 [e],a1] (ID t t1 (dS 9 [e]) a1))).2=0:=by
 have h:(ue (RP pz a a1 (I0 e a1)) (Ab pz (IC a1 (I0 e a1) a) (mM c (c6 [t,t1,dS 9 [e],a1] (ID t t1 (dS 9 [e]) a1))).2).2 st).2=0:=h
 grind [To,RP,aQB,mM,Ab]
theorem aR_ (hn:0<=n) {a a1 t1 t e:Tm} (fa:Fm a) (f1:Fm a1) (E:p9 t1) (ft:Fm t) (T:Fm e) (hp:RX true pz) (h1:cV pz=true) (h2:dg pz D=true) (W:0<=D) (F:0<=V) (Y:Wb n V D a) (s1:Wb (n+4) V D a1) (st1:Wb n V D t1) (st:Wb n V D t) (se:Wb n V D e) {l:LB} (hs: ∀b∈l,n' n V D b) {c:Int} (h:(Tx pz a a1 t1 l t e c).2=0):c=0/\Wb (n+9) V D (Tx pz a a1 t1 l t e c).1:=by
 obtain ⟨hc,I⟩:=aQw h
 refine ⟨hc, ?_⟩
 have o9:=(MO (kd:=9) (by omega) (FN.sm (.inl T)) (by omega)).1.ok
 have j:=(Fq (.inl T) (.inl f1)).1.ok
 obtain ⟨_,y,hy,ey⟩:=lf (fun e h=>BH (fun e h=>aFT h) h) I
 obtain ⟨so,fy,q⟩:=BI hy
 have z:=R0 (l:=[t,t1,dS 9 [e],a1]) (fun x B=>by
  simp at B
  rcases B with rfl|rfl|rfl|rfl
  ·exact ft.ok
  ·exact E
  ·exact o9
  ·exact f1.ok) so
 have e9:=Ni (kd:=9) hn (.inl rfl) se
 have J:=Ni (kd:=10) hn (.inr rfl) se
 have sf:Wb (n+4) V D y:=by
  refine ⟨aSU (z t1 (by simp)) (z _ (by simp)) f1 F st.1 st1.1 e9.1 s1.1 q,trivial⟩
 have L:Wb (n+5) V D (I0 e a1):=by
  have:=W4 (kd:=6) (n:=n+4) (by omega) (.inl rfl) (J.mono (by omega)) s1
  grind [I0]
 have c9:=Ni (kd:=9) (by omega) (.inl rfl) L
 have he:(ue (RP pz a a1 (I0 e a1)) (Ab pz (IC a1 (I0 e a1) a) (mM c (c6 [t,t1,dS 9 [e],a1] (ID t t1 (dS 9 [e]) a1))).2).2 l).2=0:=h
 have hF: ∀c x,(RP pz a a1 (I0 e a1) c x).2=0->c=0:=fun c x h=>aQB h
 obtain ⟨M,B⟩:=To hF he
 have hw:=(ih (n:=n+8) (V:=V) h1 h2 (fun c h=>aQ_ hn F W f1.ok j fa.ok s1 L (Y.mono (by omega)) h) M).2
 have hb:WB (n+8) 15 V D (ue (RP pz a a1 (I0 e a1)) (Ab pz (IC a1 (I0 e a1) a) (mM c (c6 [t,t1,dS 9 [e],a1] (ID t t1 (dS 9 [e]) a1))).2).2 l).1:=by
  rw [sx hF he]
  refine WB.of rfl fun b hb=> ?_
  obtain ⟨x,A,rfl⟩:=xq.1 hb
  obtain ⟨⟨q1,q2,q3,q4,q5⟩,p1,p2,p3,p4⟩:=hs x A
  have O:=(MP (G9 hp) q2.sm fa.sm (by have:=q2.dep;omega) (by have:=fa.dep;omega)).ok
  have:=(aQ_ hn F W f1.ok j O s1 L (h5 hn h1 h2 p3 Y) (B x A).1).2
  exact ⟨_,rfl,p1,p2,this⟩
 have:=aRf (n:=n+8) (by omega) (sf.mono (by omega)) (c9.mono (by omega)) (hw.app hb)
 rw [<-ey] at this
 exact this.mono (by omega)
theorem aSa (hn:0<=n) (j:0<=V) (W:0<=D) {a1:Tm} {q:Br Tm×Tm} {c:Int} (E:p9 a1) (F:p9 q.2) (I:p9 (k1 q.1)) (s1:Wb (n+4) V D a1) (sw:Wb (n+9) V D q.2) (se:Wb n V D (k1 q.1)) (h:(IK a1 c q).2=0):c=0/\ ∃z,(IK a1 c q).1.c=[z]/\(IK a1 c q).1.f=q.1.f/\Wb (n+12) V (D+1) z:=by
 have h:(mM (mM (mM c (wA 0 1 q.2)).2 (wA 0 1 a1)).2 (wA 0 1 (k1 q.1))).2=0:=h
 obtain ⟨h2,_,_,e⟩:=RD (by omega) (by omega) j I se h
 obtain ⟨J,_,_,B⟩:=RD (by omega) (by omega) j E s1 h2
 obtain ⟨L,_,_,x⟩:=RD (by omega) (by omega) j F sw J
 rw [xm] at e B x
 refine ⟨L,_,rfl,rfl, ?_⟩
 have A:=Ni (kd:=10) (by omega) (.inr rfl) x
 have M:=Ni (kd:=9) (by omega) (.inl rfl) x
 have O:=Ni (kd:=9) hn (.inl rfl) e
 have T:=W4 (kd:=6) (n:=n+10) (by omega) (.inl rfl) (O.mono (by omega)) (M.mono (by omega))
 have:=aQK (n:=n+11) (r:=[⟨1,0⟩]) (by omega) (by decide) (u_ (by omega)) (A.mono (by omega)) (B.mono (by omega)) (T.mono (by omega))
 grind
theorem aQZ {a1:Tm} {q:Br Tm×Tm} {c:Int} (h:(IK a1 c q).2=0):c=0:=by
 have h:(mM (mM (mM c (wA 0 1 q.2)).2 (wA 0 1 a1)).2 (wA 0 1 (k1 q.1))).2=0:=h
 exact (lf Hy (lf Hy (lf Hy h).1).1).1
end
theorem aS3: ∀ {l:LB} {w:LT},w.length=l.length->((l.zip w).map TB).map (·.f)=l.map (·.f):=by
 intro l
 induction l with
 |nil=>simp
 |cons x l j=>
  intro w h
  cases w with
  |nil=>simp at h
  |cons y w=>rw [List.zip_cons_cons,HW,HW,HW,j (by grind)];rfl
theorem aSd (hk:F3 k) {pz:LC} {V D n:Int} (hn:0<=n) {g a:Tm} (L:Fm g) (hg:g.k=16) (fa:Fm a) (hp:RX true pz) (h1:cV pz=true) (h2:dg pz D=true) (O:0<=D) (hV:0<=V) (sg:Wb n V (D+1) g) (sa:Wb n V D a) (h:(M5 pz g a).2=0):
  Wb (n+14) V D (M5 pz g a).1/\(M5 pz g a).1.k=17/\(∃z,(M5 pz g a).1.c=[z]/\z.k=15)/\ ∃G,Ao 0 [⟨0,0⟩] g= .ok G/\(M5 pz g a).1.s.map (·.f)=G.s.map (·.f):=by
 obtain ⟨fB,sB,lB⟩:=II hk L hg fa hp
 have bs:=fun hc=>aRS hk hn L hg fa hp h1 h2 O hV sg sa hc
 unfold M5 at h ⊢
 dsimp only at h ⊢
 generalize Mq g pz a=B at fB sB lB bs h ⊢
 obtain ⟨st,a1,c0⟩:=B
 dsimp only at fB sB lB bs h ⊢
 have gG:GN (mM c0 (sI 0 [⟨0,0⟩] g)).1:=k6 L hg Qz (kC (by decide))
 obtain ⟨j,hz⟩:=To (F:=IK a1) (fun c q h=>aQZ h) h
 have x:(ue (H0 pz a a1 (EI (mM c0 (sI 0 [⟨0,0⟩] g)).1.c) st) (mM c0 (sI 0 [⟨0,0⟩] g)).2 (mM c0 (sI 0 [⟨0,0⟩] g)).1.s).2=0:=by
  unfold Ab at j
  split at j
  ·exact j
  ·exact (lf Hy j).1
 obtain ⟨ao,hx⟩:=To (F:=H0 pz a a1 (EI (mM c0 (sI 0 [⟨0,0⟩] g)).1.c) st) (fun c b h=>(aQw h).1) x
 obtain ⟨ax,G,M,eG⟩:=lf Nd ao
 obtain ⟨f1,s1,az⟩:=bs ax
 obtain ⟨_,M⟩:=Nl L.ok M
 have fG:=aN9 L M
 have kG:G.k=16:=(TZ M).trans hg
 have sG:=WZ L O Qz (kC O) sg M
 obtain ⟨gb,gk⟩:=hI fG kG sG
 obtain ⟨T,_,t1,a6,a7⟩:=fG.gl kG
 have W:EI G.c=t1:=by rw [a6];rfl
 have hd:Mj G=t1:=by grind [Mj]
 rw [hd] at gk
 have Y:=sx (F:=H0 pz a a1 (EI (mM c0 (sI 0 [⟨0,0⟩] g)).1.c) st) (fun c b h=>(aQw h).1) x
 have E:(ue (H0 pz a a1 (EI (mM c0 (sI 0 [⟨0,0⟩] g)).1.c) st) (mM c0 (sI 0 [⟨0,0⟩] g)).2 (mM c0 (sI 0 [⟨0,0⟩] g)).1.s).1.length=(mM c0 (sI 0 [⟨0,0⟩] g)).1.s.length:=R6
 have ad:=bh (pz:=pz) (st:=st) (a1:=a1) (t1:=EI (mM c0 (sI 0 [⟨0,0⟩] g)).1.c) (c:=(mM c0 (sI 0 [⟨0,0⟩] g)).2) hk fa fB (e9 gG).1 hp sB lB (e9 gG).2.1
 have I: ∀w∈(ue (H0 pz a a1 (EI (mM c0 (sI 0 [⟨0,0⟩] g)).1.c) st) (mM c0 (sI 0 [⟨0,0⟩] g)).2 (mM c0 (sI 0 [⟨0,0⟩] g)).1.s).1,Wb (n+9) V D w:=fun w hw=>by
  rw [Y] at hw
  obtain ⟨b,hb,rfl⟩:=xq.1 hw
  have:=(hx b hb).1
  rw [eG] at hb
  rw [eG,W] at this ⊢
  obtain ⟨_,p2,p3,_⟩:=T b hb
  obtain ⟨_,_,q3,q4⟩:=gb b hb
  exact (aR_ hn fa f1 a7.ok p2 p3 hp h1 h2 O hV sa s1 gk q3 q4 az this).2
 generalize ue (H0 pz a a1 (EI (mM c0 (sI 0 [⟨0,0⟩] g)).1.c) st) (mM c0 (sI 0 [⟨0,0⟩] g)).2 (mM c0 (sI 0 [⟨0,0⟩] g)).1.s=ws at E ad I h j hz ⊢
 rw [eG] at E h hz ⊢
 rw [W]
 have hW:=(ih (n:=n+12) (V:=V) h1 h2 (fun c h=>by
  obtain ⟨q1,_,_,q4⟩:=RD (a:=0) (b:=1) (by omega) (by omega) hV f1.ok s1 h
  rw [xm] at q4
  exact ⟨q1,q4.mono (by omega)⟩) j).2
 have A: ∀q∈G.s.zip ws.1,q.1∈G.s/\q.2∈ws.1:=fun q J=>⟨(List.of_mem_zip J).1,(List.of_mem_zip J).2⟩
 have hZ:WB (n+12) 15 V D (ue (IK a1) (Ab pz (fun c=>mM c (wA 0 1 a1)) ws.2).2 (G.s.zip ws.1)).1:=by
  rw [sx (F:=IK a1) (fun c q h=>aQZ h) h]
  refine WB.of rfl fun b hb=> ?_
  obtain ⟨q,J,rfl⟩:=xq.1 hb
  obtain ⟨m1,m2⟩:=A q J
  obtain ⟨p1,p2,_,p4⟩:=gb q.1 m1
  obtain ⟨_,z,z1,z2,z3⟩:=aSa hn hV O f1.ok (ad q.2 m2).1.ok (T q.1 m1).2.2.1.ok s1 (I q.2 m2) p4 (hz q J).1
  exact ⟨z,z1,by grind,by grind,z3⟩
 have hP:WB (n+13) 17 V D ((G.s.zip ws.1).map TB):=by
  refine WB.of rfl fun b hb=> ?_
  obtain ⟨q,J,rfl⟩:=xq.1 hb
  obtain ⟨m1,m2⟩:=A q J
  obtain ⟨p1,p2,_,_⟩:=gb q.1 m1
  refine ⟨_,rfl,p1,p2, ?_⟩
  rw [show av 17=0 from rfl,xm]
  exact (Ni (n:=n+9) (by omega) (.inl rfl) (I q.2 m2)).mono (by omega)
 refine ⟨?_,rfl,⟨_,rfl,rfl⟩,G,M,aS3 E⟩
 have a8:=aRf (n:=n+12) (by omega) (gk.mono (by omega)) (s1.mono (by omega)) (hW.app hZ)
 exact (aRk (n:=n+13) (by omega) (.inr (.inl rfl)) (a8.mono (by omega)) hP).mono (by omega)

section
variable {t g b a:Tm}
theorem aF_ (q:Fm g) (z:g.k=16): ∀ {l l':LB},(∀b∈l,b.c=[AK b]/\Fm (AK b)/\RX true b.f)->Iy (eh g) l= .ok l'->cv 50000 l'/\l'.length=l.length:=by
 intro l
 induction l with
 |nil=>grind [Iy,Na]
 |cons x l A=>
  intro l' j h
  rw [Iy] at h
  obtain ⟨u,g1,h⟩:=i8 h
  obtain ⟨m,g2,h⟩:=i8 h
  injection h with h;subst h
  obtain ⟨i1,i2⟩:=A (fun b hb=>j b (by simp [hb])) g2
  obtain ⟨B,q2,E⟩:=j x (by simp)
  have:=azZ (u:=u) (.inl (mD (by omega) (sf q z) g1)) q2
  grind [Qs,G9]
theorem aGb (hk:F3 k) (ft:Fm t) (fb:Fm b): ∀ {l l':LB},(∀b∈l,b.c=[AK b,k1 b]/\Fm (AK b)/\Fm (k1 b)/\RX true b.f)->IJ b t.s l= .ok l'->cv 500000 l'/\l'.length=l.length:=by
 intro l
 induction l with
 |nil=>grind [IJ,Na]
 |cons x l B=>
  intro l' j h
  rw [IJ] at h
  obtain ⟨f,g1,h⟩:=i8 h
  obtain ⟨w,g2,h⟩:=i8 h
  obtain ⟨m,g3,h⟩:=i8 h
  injection h with h;subst h
  obtain ⟨i1,i2⟩:=B (fun b hb=>j b (by simp [hb])) g3
  obtain ⟨L,q2,E,F⟩:=j x (by simp)
  have ff:=mD (by omega) E g1
  obtain ⟨so,q,z⟩:=BI g2
  have A:=Jc hk ft
  have fw:Fm w:=⟨(ux hk q2 fb (iQ (wg q2.ok fb.ok A.1 so).2.2) z).1.1,q⟩
  have I:=Qt (kd:=9) (by omega) (n:=20000) (ks:=[f]) (fun x j=>by simp at j;subst j;exact ⟨ff.sm,by have:=ff.dep;omega⟩) (by simp)
  have J:=Qt (kd:=6) (by omega) (n:=80001) (ks:=[dS 9 [f],w]) (fun x j=>by
   simp at j
   rcases j with rfl|rfl
   ·refine ⟨I.1, ?_⟩
    unfold dS;rw [am,aH,aH,aO];have:=ff.dep;omega
   ·exact ⟨fw.sm.mono (by omega),by have:=fw.dep;omega⟩) (by simp)
  exact ⟨Qs (G9 F) (J.1.mono (by omega)) (by omega) i1,by grind⟩
end
theorem aG5 (hk:F3 k) {t y:Tm} (ft:Fm t) (q:t.k=15) (j:(t.c.getD 0 pX).k=16) (h:TC t= .ok y):In k y/\y.k=17:=by
 obtain ⟨g,b,x⟩:=I8 (E5 ft q (n:=2) rfl)
 obtain ⟨d0,d1⟩:=EC x
 have z:Fm g:=ft.bD (by grind)
 have fb:Fm b:=ft.bD (by grind)
 obtain ⟨sy,A⟩:=ft.sy q
 rw [d0] at j
 obtain ⟨B,hl,a,E,fa⟩:=z.gl j
 unfold TC at h
 rw [d0,d1] at h
 obtain ⟨M,F,h⟩:=i8 h
 obtain ⟨O,I,h⟩:=i8 h
 injection h with h;subst h
 obtain ⟨J,T⟩:=aF_ z j sy F
 obtain ⟨L,W⟩:=aGb hk ft fb B I
 exact ⟨aCw hk ft z j (by grind) fa fb J (by omega) L (by omega),rfl⟩

section
variable {hd:Tm->(Int->OS S)->OS S} {t:Tm}
end
theorem aFZ (hk:F3 k) {pz:LC} {g a:Tm} (I:Fm g) (J:g.k=16) (fa:Fm a) (hp:RX true pz):p9 (M5 pz g a).1:=by
 obtain ⟨z,sB,lB⟩:=II hk I J fa hp
 unfold M5
 dsimp only
 generalize Mq g pz a=B at z sB lB ⊢
 obtain ⟨st,a1,c0⟩:=B
 dsimp only at z sB lB ⊢
 have L:GN (mM c0 (sI 0 [⟨0,0⟩] g)).1:=k6 I J Qz (kC (by decide))
 generalize mM c0 (sI 0 [⟨0,0⟩] g)=G at L ⊢
 obtain ⟨f1,A,lG,_⟩:=e9 L
 have x:=bh (pz:=pz) (st:=st) (a1:=a1) (t1:=EI G.1.c) (c:=G.2) hk fa z f1 hp sB lB A
 have E:(ue (H0 pz a a1 (EI G.1.c) st) G.2 G.1.s).1.length=G.1.s.length:=R6
 generalize ue (H0 pz a a1 (EI G.1.c) st) G.2 G.1.s=ws at x E ⊢
 have M: ∀c,FN (mM c (wA 0 1 a1)).1:=fun c=>Ft (by omega) (by omega) z.sm.1.ok
 obtain ⟨O,T⟩:=gw (F:=fun c=>mM c (wA 0 1 a1)) hp (n:=20000) (fun c=>⟨(M c).sm.1,by have:=(M c).sm.2;omega⟩) ws.2
 generalize Ab pz (fun c=>mM c (wA 0 1 a1)) ws.2=W at O T ⊢
 have h: ∀q∈G.1.s.zip ws.1,q.1∈G.1.s/\q.2∈ws.1:=fun q j=>⟨(List.of_mem_zip j).1,(List.of_mem_zip j).2⟩
 generalize Y:ue (IK a1) W.2 (G.1.s.zip ws.1)=Z
 have zq: ∀y∈Z.1,∃t,y.c=[t]/\p9 t/\am t<=299/\aq y.f/\y.f.length<1073741824:=by
  rw [<-Y]
  exact TW fun q j c=>aA7 z.sm.1.ok (x q.2 (h q j).2).1.ok (A q.1 (h q j).1).2.2.1.ok (G9 (A q.1 (h q j).1).2.2.2) c
 have zl:Z.1.length=(G.1.s.zip ws.1).length:=by grind [R6]
 have pq: ∀y∈(G.1.s.zip ws.1).map TB,∃t,y.c=[t]/\p9 t/\am t<=301/\aq y.f/\y.f.length<1073741824:=fun y hy=>by
  obtain ⟨q,j,rfl⟩:=xq.1 hy
  obtain ⟨h1,h2⟩:=x q.2 (h q j).2
  have r:=G9 (A q.1 (h q j).1).2.2.2
  refine ⟨_,rfl, ?_, ?_,r.1,r.2⟩
  ·unfold dS;rw [p9,aZ,aZ,ba];exact ⟨⟨by unfold aG;omega,by unfold aG;omega,by decide,(fun c hc=>by cases hc),by simp,by simp,by simp⟩,⟨h1.ok,trivial⟩,trivial⟩
  grind [dS,am,aH,aO]
 obtain ⟨o1,o2⟩:=Bi (l:=W.1++Z.1) (n:=299) fun y hy=>by
  rcases zx.1 hy with hy|hy
  ·obtain ⟨t,q1,q2,q3,q4,q5⟩:=O y hy;exact ⟨t,q1,q2.ok,q3,q4,q5⟩
  grind
 obtain ⟨o3,o4⟩:=Bi pq
 have ad:(G.1.s.zip ws.1).length<=10000:=by grind
 rw [p9,aZ,aZ,p9,aZ,aZ,aZ]
 exact ⟨⟨by unfold aG;omega,by unfold aG;omega,by decide,(fun c hc=>by cases hc),by simp,by simp,by grind⟩,⟨⟨⟨by unfold aG;omega,by unfold aG;omega,by decide,(fun c hc=>by cases hc),by simp,by simp,by grind⟩,⟨f1.sm.1.ok,z.sm.1.ok,trivial⟩,o1⟩,trivial⟩,o3⟩
theorem L4:p9 pX:=Mh.1.ok
theorem TG {q:Tm×Int} (h:p9 q.1):p9 (Mz q).1:=by
 grind [aAR,L4]
theorem aG7 {x:Except Int Tm} (h: ∀y,x= .ok y->p9 y):p9 (Hu x).1:=by
 cases x<;>grind [L4,Hu]
theorem Ik {c:Prop} [Decidable c] {a b:Tm×Bool×Int} (ha:c->p9 a.1) (hb: ¬c->p9 b.1):p9 (if c then a else b).1:=by
 grind
theorem Bl:F4 4294970296:=by simp
theorem aI9 {t:Tm} (ft:Fm t):p9 (Ss t).1:=by
 have j:=Bl
 have hk:=j.f3
 unfold Ss
 refine Ik (fun _=>L4) fun _=>Ik (fun _=>L4) fun h=> ?_
 have h:t.k=14:=Decidable.not_not.1 h
 obtain ⟨l,a,B⟩:=I8 (E5 ft h (n:=2) rfl)
 obtain ⟨x,z⟩:=EC B
 have fl:Fm l:=ft.bD (by grind)
 have fa:Fm a:=ft.bD (by grind)
 have hp:=ft.r14 h
 dsimp only
 rw [x,z]
 refine Ik (fun _=>TG fa.ok) fun _=>Ik (fun O=>TG ?_) fun _=>Ik (fun T=>TG ?_) fun _=>Ik (fun E=>TG ?_) fun _=>Ik (fun _=>(apb hk (ft.isIn hk)).1) fun _=>Ik (fun F=> ?_) fun _=>L4
 ·obtain ⟨k0,I,hb⟩:=I8 (E5 fl O (n:=2) rfl)
  obtain ⟨J,L⟩:=EC hb
  rw [J,L]
  obtain ⟨x1,x2,x3,x4,x5,x6⟩:=a
  obtain ⟨M,c,_,q2,A⟩:=aDg (S:=Unit) (pz:=t.r) j hb (fl.bD (by grind)) (fl.bD (by grind)) fa hp (fun _=>none)
  rw [<-q2];exact A.1
 ·obtain ⟨k0,I,hb⟩:=I8 (E5 fl T (n:=2) rfl)
  obtain ⟨J,L⟩:=EC hb
  rw [J,L]
  obtain ⟨x1,x2,x3,x4,x5,x6⟩:=a
  obtain ⟨M,c,_,q2,A⟩:=aDi (S:=Unit) (pz:=t.r) j hb (fl.bD (by grind)) (fl.bD (by grind)) fa hp (fun _=>none)
  rw [<-q2];exact A.1
 ·obtain ⟨k0,W,Y,hb⟩:=dh (E5 fl E (n:=3) rfl)
  rw [show l.c.getD 0 pX=k0 by grind,show l.c.getD 1 pX=W by grind,show l.c.getD 2 pX=Y by grind]
  obtain ⟨x1,x2,x3,x4,x5,x6⟩:=a
  obtain ⟨M,c,_,q2,A⟩:=aDf (S:=Unit) (pz:=t.r) hk hb (fl.bD (by grind)) (fl.bD (by grind)) (fl.bD (by grind)) fa hp (fun _=>none)
  rw [<-q2];exact A.1
 ·unfold z'
  refine Ik (fun _=>L4) fun _=>Ik (fun _=> ?_) fun _=>L4
  rw [x,z]
  exact TG (q:=M5 t.r l a) (aFZ hk fl F fa hp)
theorem aE1 {t:Tm} (ft:Fm t):p9 (TD t).1:=Ik (fun _=>L4) fun _=>Ik (fun _=>TG (aAJ ft).1) fun _=>L4
theorem aF3 {t:Tm} (ft:Fm t):p9 (Nq t).1:=by
 have I:=Bl
 have hk:=I.f3
 unfold Nq
 refine Ik (fun _=>L4) fun h0=>Ik (fun h=> ?_) fun hn=> ?_
 ·obtain ⟨k0,a,A⟩:=I8 (E5 ft h.1 (n:=2) rfl)
  obtain ⟨d0,d1⟩:=EC A
  have fa:Fm a:=ft.bD (by grind)
  obtain ⟨sy,q⟩:=ft.sy h.1
  rw [d1]
  have W:=TW (F:=Ig a) (Q:=eg) (l:=t.s) (c:=0) fun x O c=>aDr fa ⟨(sy x O).2.1,(sy x O).2.2⟩ c
  have hl:(ue (Ig a) 0 t.s).1.length=t.s.length:=R6
  obtain ⟨Y,b2,b3⟩:=aAN W
  refine TG ?_
  show p9 (.mk 16 0 qw [] [a] (ue (Ig a) 0 t.s).1)
  rw [p9,aZ,aZ]
  exact ⟨⟨by unfold aG;omega,by unfold aG;omega,by decide,(fun c hc=>by cases hc),by simp,by simp,by omega⟩,⟨fa.ok,trivial⟩,Y⟩
 ·unfold TN
  refine Ik (fun _=>L4) fun _=>Ik (fun hc=>aG7 fun y j=> ?_) fun _=>L4
  obtain ⟨B,J⟩:=hc
  obtain ⟨k0,a,A⟩:=I8 (E5 ft B (n:=2) rfl)
  obtain ⟨d0,d1⟩:=EC A
  have z:Fm k0:=ft.bD (by grind)
  have fa:Fm a:=ft.bD (by grind)
  obtain ⟨sy,q⟩:=ft.sy B
  rw [d0] at J
  unfold p2 at j
  rw [d0,d1] at j
  dsimp only at j
  by_cases L:k0.k=4
  ·rw [if_pos L] at j
   obtain ⟨p,b,hb⟩:=I8 (E5 z L (n:=2) rfl)
   rw [(EC hb).2] at j
   obtain ⟨x1,x2,x3,x4,x5,x6⟩:=a
   obtain ⟨T,i1,_,i3,i4,_⟩:=aC_ (S:=Unit) hk hb (z.bD (by grind)) fa sy q (fun _=>none)
   rw [<-(i4 y j).1];exact i3.1
  rw [if_neg L] at j
  by_cases M:k0.k=7
  ·rw [if_pos M] at j
   obtain ⟨p,b,hb⟩:=I8 (E5 z M (n:=2) rfl)
   rw [(EC hb).1,(EC hb).2] at j
   obtain ⟨x1,x2,x3,x4,x5,x6⟩:=a
   obtain ⟨T,i1,_,i3,i4,_⟩:=aDa (S:=Unit) I hb (z.bD (by grind)) (z.bD (by grind)) fa sy q (fun _=>none)
   rw [<-(i4 y j).1];exact i3.1
  rw [if_neg M] at j
  by_cases E:k0.k=11
  ·rw [if_pos E] at j
   obtain ⟨p,l,r,hb⟩:=dh (E5 z E (n:=3) rfl)
   rw [hb] at j
   obtain ⟨x1,x2,x3,x4,x5,x6⟩:=a
   obtain ⟨T,i1,_,i3,i4,_⟩:=aC9 (S:=Unit) hk hb (z.bD (by grind)) (z.bD (by grind)) (z.bD (by grind)) fa sy q (fun _=>none)
   rw [<-(i4 y j).1];exact i3.1
  rw [if_neg E] at j
  by_cases h3:k0.k=3
  ·grind
  rw [if_neg h3] at j
  exact (aG5 hk ft B (by grind) j).1.1
theorem aJb {defs:List Df} (hd:H4 k defs) (t:Tm):p9 (if (IA defs t).2=true then ((IA defs t).1,true,(0:Int)) else (pX,false,0)).1:=by
 refine Ik (fun h=> ?_) fun _=>L4
 unfold IA at h ⊢
 by_cases h2:t.k=2
 ·rw [if_pos h2] at h ⊢
  cases hf:defs.find? fun d=>decide (d.name=t.name) with
  |none=>grind
  |some d=>exact (hd.2 d (List.mem_of_find?_eq_some hf)).1
 grind
theorem hM {r s:Tm×Bool×Int} (h:p9 r.1) (hs:p9 s.1):p9 (aux r s).1:=Ik (fun _=>h) fun _=>hs
theorem aIS {defs:List Df} (hd:H4 k defs) {t:Tm} (h:p9 t):p9 (nf defs t).1:=by
 unfold nf
 refine Ik (fun _=>L4) fun j=> ?_
 have ft:Fm t:=⟨h,Decidable.not_not.1 j⟩
 exact hM (aE1 ft) (hM (acE Bl.f3 (ft.isIn Bl.f3)).1 (hM (aI9 ft) (hM (aF3 ft) (aJb hd t))))
theorem Iw {defs:List Df} (hd:H4 k defs) {t:Tm} (j:p9 t) (h:(nf defs t).2.1=true):Fm (nf defs t).1/\(nf defs t).2.2=0:=
 ⟨⟨aIS hd j,(aDp hd t h).1⟩,(aDp hd t h).2⟩
end
section
variable {V D:Int} {t:Tm}
theorem ml {bd:Bool} {kd:Int}: ∀ {l:LT} {i j:Nat},bO bd V D kd i l=true->j<l.length->rP bd (cQ V (tZ kd ((i+j:Nat):Int))) (D+bJ kd ((i+j:Nat):Int)) (l.getD j pX)=true:=by
 intro l
 induction l<;>grind [bO]
theorem y8 (s:fz V D t) {kd:Int} (hk:t.k=kd) {n j:Nat} (hl:t.c.length=n) (hj:j<n) (h:tZ kd (j:Int)=0) (q:bJ kd (j:Int)=0):fz V D (t.c.getD j pX):=by
 have:=ml (MW s).1 (hl▸hj)
 grind [Dj]
theorem aRo (s:fz V D t) {kd:Int} (hk:t.k=kd) {n j:Nat} (hl:t.c.length=n) (hj:j<n) (h:tZ kd (j:Int)=0) (q:bJ kd (j:Int)=1):fz V (D+1) (t.c.getD j pX):=by
 have:=ml (MW s).1 (hl▸hj)
 grind [Dj]
theorem ao (s:fz V D t) (h:0<=V) {kd:Int} (hk:t.k=kd) {n j:Nat} (hl:t.c.length=n) (hj:j<n) (q:tZ kd (j:Int)=1) (x:bJ kd (j:Int)=0):fz (V+1) D (t.c.getD j pX):=by
 have:=ml (MW s).1 (hl▸hj)
 grind [fk]
theorem aRt (s:fz V D t) (hk:t.k=15\/t.k=16\/t.k=17\/t.k=18):t.s.all (bX t.k D)=true/\ck false V D t.k t.s=true:=by
 obtain ⟨h1,h2,h⟩:=MW s
 refine ⟨?_,h2⟩
 obtain ⟨kd,n,j,r,q,sys⟩:=t
 rcases (show kd=15\/kd=16\/kd=17\/kd=18 from hk) with rfl|rfl|rfl|rfl
 all_goals
  first
  |(have:(_&&(sys.all (bX 15 D)&&_))=true:=h;simp only [qC] at this;exact this.2.1)
  |(have:(_&&(sys.all (bX 16 D)&&_))=true:=h;simp only [qC] at this;exact this.2.1)
  |(have:(_&&(sys.all (bX 17 D)&&_))=true:=h;simp only [qC] at this;exact this.2.1)
  |(have:(_&&(sys.all (bX 18 D)&&_))=true:=h;simp only [qC] at this;exact this.2.1)
theorem pa (s:fz V D t) (hk:t.k=13\/t.k=21\/t.k=26):xP t.r=true/\dg t.r D=true:=by
 obtain ⟨h1,h2,h⟩:=MW s
 obtain ⟨kd,n,j,r,q,sys⟩:=t
 rcases (show kd=13\/kd=21\/kd=26 from hk) with rfl|rfl|rfl
 all_goals
  have:(_&&(xP r&&dg r D))=true:=h
  simp only [qC] at this;exact this.2
theorem aQQ {kd:Int} (h:kd=20\/kd=24\/kd=25):fz V D (dS kd []):=RB (by omega) (by rcases h with rfl|rfl|rfl<;>rfl) (by rw [bO])
def b7 (V D:Int) (r:Tm×Bool×Int):Prop:=r.2.1=true->r.2.2=0->fz V D r.1
theorem Hv (e:Int) {x:Tm}:b7 V D (x,false,e):=fun h=>by cases h
theorem jc {c:Prop} [Decidable c] {a b:Tm×Bool×Int} (ha:c->b7 V D a) (hb: ¬c->b7 V D b):b7 V D (if c then a else b):=by
 grind
theorem W5 {q:Tm×Int} (h:q.2=0->fz V D q.1):b7 V D (Mz q):=by
 rcases aAR q with ⟨e,he⟩|⟨j,_,he⟩
 ·grind [Hv]
 ·rw [he];exact fun _ _=>h j
theorem aQE {x:Except Int Tm} (h: ∀y,x= .ok y->fz V D y):b7 V D (Hu x):=by
 cases x with
 |error e=>exact Hv e
 |ok y=>
  show b7 V D (if bw y=0 then (y,true,0) else (pX,false,bw y))
  exact jc (fun _ _ _=>h y rfl) fun _=>Hv _
theorem b2 {x:Except Int Tm} (j: ∀e,x= .error e->0<e/\e<=1000) (h:(tE x).2=0): ∃y,x= .ok y/\(tE x).1=y:=by
 cases x with
 |error e=>have:=j e rfl;have:e=0:=h;omega
 |ok y=>exact ⟨y,rfl,rfl⟩
theorem aRI (ft:Fm t) (B:0<=D) (s:fz V D t):b7 V D (H5 t):=by
 unfold H5
 split
 ·exact Hv _
 rename_i b hb
 have A:=qT hb
 have hp:=ft.parts b A
 have key:t.k=15\/t.k=16\/t.k=17\/t.k=18->AK b∈b.c/\fz V (D+av t.k) (AK b):=fun hk=>by
  have q:AK b∈b.c:=by
   cases M:b.c<;>grind [Ah,AK]
  obtain ⟨E,F⟩:=aRt s hk
  exact ⟨q,(fC E F b A).2.2 _ q⟩
 refine jc (fun z=> ?_) fun _=>jc (fun x=> ?_) fun _=>jc (fun h=> ?_) fun _=>Hv _
 ·intro _ I
  obtain ⟨q,w⟩:=key (.inl z)
  rw [z] at w
  have fb:=ft.brk A q
  obtain ⟨y,J,L⟩:=b2 Nd I
  show fz V D (tE _).1
  rw [L]
  exact fU fb B w (Nl fb.ok J).2
 ·intro _ _
  obtain ⟨q,w⟩:=key (.inr (.inr (.inr x)))
  rw [x,show av 18=0 from rfl,xm] at w
  have hl:=E5 ft x (n:=1) rfl
  exact MY (.inl rfl) (SN (.inl rfl) w) (y8 s x hl (j:=0) (by decide) rfl rfl)
 ·intro _ _
  grind [av]
theorem aRF (ft:Fm t) (hk:t.k=13) (z:0<=D) (s:fz V D t):b7 V D (sc t):=by
 have hl:=E5 ft hk (n:=3) rfl
 have k0:=y8 s hk hl (j:=0) (by decide) rfl rfl
 refine jc (fun _ _ _=>y8 s hk hl (j:=1) (by decide) rfl rfl) fun _=>jc (fun _ _ _=>y8 s hk hl (j:=2) (by decide) rfl rfl) fun _=>jc (fun h _ A=> ?_) fun _=>Hv _
 have f0:Fm (kd0 t):=ft.bD (zh hl (i:=0) (by omega)).2
 have q:=E5 f0 h (n:=1) rfl
 have x:Fm (kd0 (kd0 t)):=f0.bD (zh q (i:=0) (by omega)).2
 obtain ⟨y,B,E⟩:=b2 Nd A
 show fz V D (tE _).1
 rw [E]
 exact me x z (ft.r13 hk) (pa s (.inl hk)).2 (aRo k0 h q (j:=0) (by decide) rfl rfl) (Nl x.ok B).2
theorem aQV {e:Int}:b7 V D ((Sg t).1,(Sg t).2,e):=by
 intro _ _
 grind [Sg,aQQ]
theorem aRE (ft:Fm t) (hk:t.k=22) {e:Int} (s:fz V D t):b7 V D ((S3 t).1,(S3 t).2,e):=by
 have hl:=E5 ft hk (n:=4) rfl
 have k1:=y8 s hk hl (j:=1) (by decide) rfl rfl
 have q:=y8 s hk hl (j:=2) (by decide) rfl rfl
 have x:=y8 s hk hl (j:=3) (by decide) rfl rfl
 intro h _
 grind [S3,pa,G0]
theorem aRH (ft:Fm t) (hk:t.k=27) {e:Int} (s:fz V D t):b7 V D ((Sw t).1,(Sw t).2,e):=by
 have hl:=E5 ft hk (n:=5) rfl
 have k1:=y8 s hk hl (j:=1) (by decide) rfl rfl
 have z:=y8 s hk hl (j:=2) (by decide) rfl rfl
 have B:=y8 s hk hl (j:=3) (by decide) rfl rfl
 have A:=y8 s hk hl (j:=4) (by decide) rfl rfl
 have f4:Fm (M4 t):=ft.bD (zh hl (i:=4) (by omega)).2
 intro h _
 show fz V D (Sw t).1
 unfold Sw at h ⊢
 split
 ·exact k1
 split
 ·exact z
 split
 ·rename_i q
  obtain ⟨r1,E⟩:=pa A (.inr (.inr q))
  have x:=E5 f4 q (n:=1) rfl
  exact G0 r1 E (MY (.inl rfl) B (y8 A q x (j:=0) (by decide) rfl rfl)) k1 z
 grind
theorem aRG (ft:Fm t) (L:0<=V) (F:0<=D) (s:fz V D t):b7 V D (Ns t):=by
 have x:=aRI ft F s
 unfold Ns
 refine jc (fun I=> ?_) fun _=>jc (fun M=> ?_) fun _=>jc (fun z=> ?_) fun _=>jc (fun h=>aRF ft h F s) fun _=>jc (fun _=>aQV) fun _=>jc (fun _=>aQV) fun _=>jc (fun h=>aRE ft h s) fun _=>jc (fun h=>aRH ft h s) fun _=>
  jc (fun h _ _=> ?_) fun _=>jc (fun h _ _=> ?_) fun _=>jc (fun A=> ?_) fun _=>x
 ·have hl:=E5 ft I (n:=2) rfl
  have k0:=y8 s I hl (j:=0) (by decide) rfl rfl
  have f0:Fm (kd0 t):=ft.bD (zh hl (i:=0) (by omega)).2
  have f1:Fm (LA t):=ft.bD (zh hl (i:=1) (by omega)).2
  refine jc (fun O _ J=> ?_) fun _=>x
  have q:=E5 f0 O (n:=1) rfl
  have T:Fm (kd0 (kd0 t)):=f0.bD (zh q (i:=0) (by omega)).2
  obtain ⟨y,W,Y⟩:=b2 ahE J
  show fz V D (tE _).1
  rw [Y]
  exact Z0 L F T f1 (y8 s I hl (j:=1) (by decide) rfl rfl) (ao k0 L O q (j:=0) (by decide) rfl rfl) (ch T.ok f1.ok W).2.2
 ·have hl:=E5 ft M (n:=1) rfl
  have k0:=y8 s M hl (j:=0) (by decide) rfl rfl
  have f0:Fm (kd0 t):=ft.bD (zh hl (i:=0) (by omega)).2
  refine jc (fun B _ _=> ?_) fun _=>x
  have q:=E5 f0 B (n:=2) rfl
  exact y8 k0 B q (j:=0) (by decide) rfl rfl
 ·have hl:=E5 ft z (n:=1) rfl
  have k0:=y8 s z hl (j:=0) (by decide) rfl rfl
  have f0:Fm (kd0 t):=ft.bD (zh hl (i:=0) (by omega)).2
  refine jc (fun B _ _=> ?_) fun _=>x
  have q:=E5 f0 B (n:=2) rfl
  exact y8 k0 B q (j:=1) (by decide) rfl rfl
 ·have hl:=E5 ft h (n:=2) rfl
  exact y8 s h hl (j:=0) (by decide) rfl rfl
 ·have hl:=E5 ft h (n:=2) rfl
  exact y8 s h hl (j:=1) (by decide) rfl rfl
 ·have hl:=E5 ft A (n:=1) rfl
  have k0:=y8 s A hl (j:=0) (by decide) rfl rfl
  have f0:Fm (kd0 t):=ft.bD (zh hl (i:=0) (by omega)).2
  refine jc (fun hb _ J=>x hb J) fun _=>jc (fun E _ _=> ?_) fun _=>x
  have q:=E5 f0 E (n:=1) rfl
  exact y8 k0 E q (j:=0) (by decide) rfl rfl
theorem aRU (ft:Fm t) (j:0<=V) (q:0<=D) (s:fz V D t):b7 V D (TD t):=
 jc (fun _=>Hv _) fun _=>jc (fun h=>W5 fun x=>aRG ft j q s h x) fun _=>Hv _
end
section
variable {k:Nat} {V D:Int} {t:Tm}
theorem aRp {b:Br Tm} {r:LB} (h:b.c=[AK b]) (h2:ck false V D 15 (b::r)=true):fz V (D+1) (AK b)/\ck false V D 15 r=true:=by
 rw [ck,qC] at h2
 refine ⟨?_,h2.2⟩
 have:=h2.1
 obtain ⟨f,j⟩:=b
 have h:j=[AK ⟨f,j⟩]:=h
 rw [jT,h,ca,qC] at this
 exact this.1
theorem aS1 {kd:Int} (j:kd=22\/kd=27) (z:0<=V): ∀ {l l':LT} {i:Nat},(∀y∈l,Fm y)->bO false V D kd (i+1) l=true->F6 l= .ok l'->bO false V (D+1) kd (i+1) l'=true:=by
 intro l
 induction l with
 |nil=>grind [F6,bO]
 |cons y l A=>
  intro l' i hf ha h
  rw [F6] at h
  obtain ⟨B,h1,h⟩:=i8 h
  obtain ⟨m,h2,h⟩:=i8 h
  injection h with h;subst h
  rw [bO,qC] at ha ⊢
  have q:=(Tp j i).1
  have x:=(Tp j (i+1)).2.1
  rw [q,x,Dj,xm] at ha
  rw [q,x,Dj,xm]
  have:=FA (hf y (by simp)) (a:=0) (b:=1) (by omega) (by omega) z ha.1 h1
  grind
theorem aRn {kd:Int} (h:kd=22\/kd=27) {p a:Tm} {l:LT} (hl:ct kd=(l.length:Int)+2) (j:0<=V) (hp:fz (V+1) D p) (q:bO false V D kd 1 l=true) (ha:fz V D a):fz V D (ig kd p l a):=by
 refine RB (kd:=kd) (l:=p::l++[a]) (by omega) (by grind) ?_
 obtain ⟨_,x,z⟩:=Tp h 0
 have A:=(Tp h l.length).1
 have B:=(Tp h (l.length+1)).2.1
 grind [bO,mh,fk,Dj]
theorem aR3 (hk:F3 k) {f b line y:Tm} {l:LB} (ft:Fm t) (j:t.k=22\/t.k=27) (x:(xZ t).k=15) (A:0<=V) (Y:0<=D) (hs:fz V D t) (p:Ts k t f b line l y):fz V D y:=by
 have J:ct t.k=t.c.length:=ft.nk
 have hlen:2<=t.c.length:=by
  rcases j with h|h<;>rw [h] at J
  ·have e:ct 22=4:=rfl
   omega
  ·have e:ct 27=5:=rfl
   omega
 obtain ⟨gl,ml⟩:=nw hlen
 obtain ⟨km,_⟩:=Lx hlen
 have fx:=ft.bD ml
 obtain ⟨u,a,E⟩:=I8 (E5 fx x (n:=2) rfl)
 obtain ⟨F,B⟩:=EC E
 have fu:Fm u:=fx.bD (by grind)
 have fa:Fm a:=fx.bD (by grind)
 obtain ⟨sy,ad⟩:=fx.sy x
 have fp:Fm (t.c.getD 0 pX):=ft.bD (by grind)
 obtain ⟨s1,_,_⟩:=MW hs
 rw [km,mh,mh,Ey,Ey,List.length_singleton] at s1
 obtain ⟨_,z2,z3⟩:=Tp j 0
 obtain ⟨z4,_,_⟩:=Tp j (xR t).length
 have z5:=(Tp j ((xR t).length+1)).2.1
 rw [z2,z3,show (0+1+(xR t).length:Nat)=(xR t).length+1 by omega,z4,z5,fk A,Dj,xm] at s1
 obtain ⟨sp,sm,sx⟩:=s1
 obtain ⟨x1,x2,x3⟩:=iK sx x
 obtain ⟨su,sa⟩:=x3 E
 have pf:=p.fill
 rw [F,B] at pf
 have sf:fz V (D+1) f:=uK fu fa Y A su sa x1 x2 (iQ (wg (F▸fu).ok (B▸fa).ok (Jc hk fx).1 p.so).2.2) pf
 have L:=FA fp (a:=0) (b:=1) (by omega) (by omega) (by omega) sp p.up
 rw [xm] at L
 have wl:=Z0 A (by omega) p.fb p.ff sf L p.plug
 have M:ct t.k=((xR t).length:Int)+2:=by
  grind
 have O:fz V D (ig t.k (t.c.getD 0 pX) (xR t) ((xZ t).c.getD 1 pX)):=aRn j M A sp sm (B▸sa)
 have key: ∀ {r l:LB},(∀b∈r,b.c=[AK b])->r.all (bX 15 D)=true->ck false V D 15 r=true->MU t.k b (xR t) r= .ok l->l.all (bX 15 D)=true/\ck false V D 15 l=true:=by
  intro r
  induction r with
  |nil=>grind [MU]
  |cons z r ih=>
   intro l hk h1 h2 h
   rw [MU] at h
   obtain ⟨ms,q1,h⟩:=i8 h
   obtain ⟨m,q2,h⟩:=i8 h
   injection h with h;subst h
   rw [EZ,qC] at h1 ⊢
   obtain ⟨I,T⟩:=aRp (hk z (by simp)) h2
   obtain ⟨i1,i2⟩:=ih (fun b hb=>hk b (by simp [hb])) h1.2 T q2
   obtain ⟨_,ao⟩:=I_ (fun y W=>ft.bD (kv W)) q1
   refine ⟨⟨?_,i1⟩, ?_⟩
   ·grind [bX]
   ·rw [ck,qC,jT,ca,ca,Bool.and_true]
    exact ⟨aRn (V:=V) (D:=D+1) j (p:=b) (l:=ms) (a:=AK z) (by omega) A L (aS1 j A (i:=0) (fun y W=>ft.bD (kv W)) sm q1) I,i2⟩
 obtain ⟨k1,k2⟩:=key (fun b hb=>(sy b hb).1) x1 x2 p.brs
 exact aQN p.fl Y A wl O k1 k2 (fun b hb=>by
  obtain ⟨q,_⟩:=(p.fw.sy (by rfl))
  exact (q b hb).1) p.comp
theorem aR2 (hk:F3 k) (ft:Fm t) (j:0<=V) (q:0<=D) (s:fz V D t):b7 V D (pP t):=
 jc (fun _=>Hv _) fun _=>jc (fun h=>aQE fun y x=>by
  grind [KC,aR3]) fun _=>Hv _
theorem aRW (hk:F3 k) {y:Tm} (ft:Fm t) (A:t.k=14) (B:(t.c.getD 0 pX).k=23) (hx:(t.c.getD 1 pX).k=24\/(t.c.getD 1 pX).k=25\/(t.c.getD 1 pX).k=26\/(t.c.getD 1 pX).k=15) (hV:0<=V) (hD:0<=D) (hs:fz V D t) (h:gh t.r (t.c.getD 0 pX) (t.c.getD 1 pX)= .ok y):fz V D y:=by
 obtain ⟨line,x,I⟩:=I8 (E5 ft A (n:=2) rfl)
 obtain ⟨d0,d1⟩:=EC I
 rw [d0,d1] at h
 rw [d1] at hx
 rw [d0] at B
 have fl:Fm line:=ft.bD (by grind)
 have fx:Fm x:=ft.bD (by grind)
 have hr:=ft.r14 A
 obtain ⟨r1,Y,sl,O⟩:=k5 hs A I
 unfold gh at h
 split at h
 ·grind
 split at h
 ·rename_i E
  injection h with h;subst h
  have k4:=pa O (.inr (.inr E))
  exact aSS k4.1 k4.2 (SR r1 Y (y8 sl B (E5 fl B (n:=1) rfl) (j:=0) (by decide) rfl rfl) (y8 O E (E5 fx E (n:=1) rfl) (j:=0) (by decide) rfl rfl))
 have F:x.k=15:=by omega
 obtain ⟨u,a,J⟩:=I8 (E5 fx F (n:=2) rfl)
 obtain ⟨ad,T⟩:=EC J
 obtain ⟨sy,ao⟩:=fx.sy F
 obtain ⟨x1,x2,x3⟩:=iK O F
 obtain ⟨su,sa⟩:=x3 J
 rw [T] at h
 obtain ⟨e,h1,h⟩:=i8 h
 obtain ⟨l,h2,h⟩:=i8 h
 injection h with h;subst h
 have key: ∀ {r l:LB},(∀b∈r,b.c=[AK b])->r.all (bX 15 D)=true->ck false V D 15 r=true->MD t.r line r= .ok l->l.all (bX 15 D)=true/\ck false V D 15 l=true:=by
  intro r
  induction r with
  |nil=>grind [MD]
  |cons z r ih=>
   intro l hk h1 h2 h
   rw [MD] at h
   obtain ⟨pz,q0,h⟩:=i8 h
   obtain ⟨ln,q1,h⟩:=i8 h
   obtain ⟨m,q2,h⟩:=i8 h
   injection h with h;subst h
   rw [EZ,qC] at h1 ⊢
   obtain ⟨L,W⟩:=aRp (hk z (by simp)) h2
   obtain ⟨i1,i2⟩:=ih (fun b hb=>hk b (by simp [hb])) h1.2 W q2
   refine ⟨⟨?_,i1⟩, ?_⟩
   ·grind [bX]
   ·rw [ck,qC,jT,ca,ca,Bool.and_true]
    refine ⟨?_,i2⟩
    have s2:=q8 (BF 0) (show (0:Int)<=1 by omega) (v:=0) (d:=1) (V:=V) (D:=D+1) (by omega) hV fl sl q1
    rw [xm] at s2
    obtain ⟨q,M⟩:=cy hr.1.2 r1 Y q0
    exact SR (V:=V) (D:=D+1) q M s2 L
 grind [SO,fU,SR]
theorem aRV (hk:F3 k) (ft:Fm t) (j:0<=V) (q:0<=D) (s:fz V D t):b7 V D (h_ t):=
 jc (fun _=>Hv _) fun _=>jc (fun h=>aQE fun y x=>aRW hk ft h.1 h.2.1 h.2.2 j q s x) fun _=>Hv _
end
section
variable {S:Type} {k:Nat}
theorem aRg {n V D:Int} (q:0<=V) {x p b:Tm} (hk:x.k=4\/x.k=7) (j:x.c=[p,b]) (h:Wb n V D x):Wb n V D p/\Wb n (V+1) D b:=by
 obtain ⟨h1,_,_⟩:=MW h.1
 have:=h.2
 rw [j,Ej] at h1
 have z:tZ x.k ((0:Nat):Int)=0:=by grind [tZ]
 have A:bJ x.k ((0:Nat):Int)=0:=by grind [bJ]
 have B:tZ x.k ((0+1:Nat):Int)=1:=by grind [tZ]
 have E:bJ x.k ((0+1:Nat):Int)=0:=by rfl
 rw [z,A,B,E,ib q,ib q] at h1
 simp only [xm] at h1
 exact ⟨⟨h1.1,trivial⟩,⟨h1.2,trivial⟩⟩
theorem aSP {n V D:Int} (q:0<=V) {x p b c:Tm} (hk:x.k=11) (j:x.c=[p,b,c]) (h:Wb n V D x):Wb n V (D+1) p/\Wb n V D b/\Wb n V D c:=by
 obtain ⟨h1,_,_⟩:=MW h.1
 have:=h.2
 rw [j,Ml,hk] at h1
 have h1:rP false (cQ V 0) (D+1) p=true/\rP false (cQ V 0) (D+0) b=true/\rP false (cQ V 0) (D+0) c=true:=h1
 rw [Dj,xm] at h1
 exact ⟨⟨h1.1,trivial⟩,⟨h1.2.1,trivial⟩,⟨h1.2.2,trivial⟩⟩
theorem aRj {n m V D:Int} (j:0<=V) (q:0<=D) {t u o:Tm} (x:Fm t) (hf:Fm u) (hu:Wb m V D u) (hs:Wb n (V+1) D t) (h:Jn 0 t u= .ok o):Wb (n+m) V D o:=
 ⟨Z0 j q x hf hu.1 hs.1 h,trivial⟩
theorem ia {n vb db:Int} (j:0<=vb) (q:0<=db) {v d V D:Int} {t t':Tm} (hd:0<=d) (x:0<=V) (hf:Fm t) (h:Wb n V D t) (hl:uA vb db v d t= .ok t'):Wb n (V+vb) (D+db) t':=
 ⟨q8 j q hd x hf h.1 hl,trivial⟩
theorem aSR {m V D n:Int} (j:0<=m) (hn:0<=n) (h:n<V):Wb m V D (vN n):=⟨MI hn h,trivial⟩
theorem aRa {t u:Tm}: ∀e,ri 0 t u= .error e->0<e/\e<=1000:=fun e h=>z7 (fun e h=>z7 (fun e h=>AL h) h) h
section
variable {pz:LC} {V D n:Int}
theorem aSx (hn:0<=n) (Y:0<=V) (L:0<=D) {k0 q a:Tm} (f0:Fm k0) (f1:Fm q) (fa:Fm a) (hp:RX true pz) (h1:cV pz=true) (h2:dg pz D=true) (s0:Wb n V (D+1) k0) (s1:Wb n (V+1) (D+1) q) (sa:Wb n V D a) (h:(SV pz k0 q a).2=0):
  Wb (2*n+4) V D (SV pz k0 q a).1/\(SV pz k0 q a).1.k=5/\ ∃z,(SV pz k0 q a).1.c=[z]/\z.k=14:=by
 unfold SV at h ⊢
 dsimp only at h ⊢
 obtain ⟨ad,T,hT,eT⟩:=lf Nd h
 obtain ⟨ao,F,hF,eF⟩:=lf Hy ad
 obtain ⟨ax,B,hB,eB⟩:=lf aRa ao
 obtain ⟨az,B0,j,a7⟩:=lf (fun e h=>aRT h) ax
 obtain ⟨a8,W,hW,eW⟩:=W6 (fun e h=>eG h) az
 obtain ⟨_,U,M,eU⟩:=lf (c:=0) Hy a8
 rw [eT,eF,eB]
 rw [eU] at hW
 rw [eW] at hB hT
 rw [a7] at hB
 obtain ⟨_,M⟩:=Mp f0.ok M
 have fU:=mD (by omega) f0 M
 have sU:=aQL (by omega) (by omega) Y f0 s0 M
 rw [xm] at sU
 obtain ⟨so,_,bc,A,_⟩:=aQu hW
 have E:=R0 (l:=[U,vN 0]) (fun x hx=>by
  simp at hx
  rcases hx with rfl|rfl
  ·exact fU.ok
  ·exact (KV (by omega)).1.ok) so
 have O:Fm W:=by
  refine ⟨?_,bc⟩
  have hle:F3 4294968296:=by simp
  exact (et hle fU (E _ (by simp)) hp.1 aG8 A).1.1
 have sW:=hy (V:=V+1) hn fU (E _ (by simp)) h1 hp.1.2 h2 aG8 aSp aRc (aSt L) L (by omega) sU (aSR hn (by omega) (by omega)) A
 unfold Sf at j
 obtain ⟨m,hm,j⟩:=i8 j
 obtain ⟨_,bf⟩:=aSO f1.ok hm
 have fm:=aDt (by omega) f1.ok hm
 have sm:=ia (by omega) (by omega) (BF 0) (by omega) f1 s1 bf
 obtain ⟨_,bh⟩:=aQv fm.ok j
 have I:=pq (by omega) fm.ok j
 have J:=ia (by omega) (by omega) (BF 0) (by omega) fm sm bh
 simp only [xm] at J
 obtain ⟨_,_,hB⟩:=ch I.ok O.ok hB
 have sB:=aRj (by omega) (by omega) I O sW J hB
 obtain ⟨_,hF⟩:=Mp fa.ok hF
 have sF:=aQL (by omega) (by omega) Y fa sa hF
 rw [xm] at sF
 obtain ⟨_,hT⟩:=Nl O.ok hT
 have sT:=WZ O L rA (Sp L) sW hT
 have a6:=W4 (kd:=6) (n:=n+1) (by omega) (.inl rfl) (sF.mono (by omega)) sT
 have t14:=h5 (n:=2*n+2) (by omega) h1 (Nf hp.1 h2 (BF D)) (sB.mono (by omega)) (a6.mono (by omega))
 exact ⟨(aSQ (by omega) Y t14).mono (by omega),rfl,_,rfl,rfl⟩
end
section
variable {pz:LC} {V D n:Int}
theorem aR7:F3 4294968296:=by simp
theorem aSC (hn:0<=n) (J:0<=V) (T:0<=D) {k0 j a:Tm} (f0:Fm k0) (f1:Fm j) (fa:Fm a) (hp:RX true pz) (h1:cV pz=true) (h2:dg pz D=true) (s0:Wb n V (D+1) k0) (s1:Wb n (V+1) (D+1) j) (L:Wb n V D a) (h:(S1 pz k0 j a).2=0):
  Wb (2*n+4) V D (S1 pz k0 j a).1/\(S1 pz k0 j a).1.k=8/\ ∃z w,(S1 pz k0 j a).1.c=[z,w]/\z.k=14/\w.k=14:=by
 unfold S1 at h ⊢
 dsimp only at h ⊢
 obtain ⟨E,B,hB,W⟩:=lf aRa h
 obtain ⟨_,R,Y,eR⟩:=W6 (c:=0) (fun e h=>eG h) E
 rw [W]
 rw [eR] at hB
 have o9:=(MO (kd:=9) (by omega) (FN.sm (.inl fa)) (by omega)).1.ok
 have a9:=Ni (kd:=9) hn (.inl rfl) L
 have F:=Ni (kd:=10) hn (.inr rfl) L
 obtain ⟨so,_,I,q,_⟩:=aQu Y
 have A:=R0 (l:=[k0,dS 9 [a]]) (fun x M=>by
  simp at M
  rcases M with rfl|rfl
  ·exact f0.ok
  omega) so
 have O:Fm R:=⟨(et aR7 f0 (A _ (by simp)) hp.1 sL q).1.1,I⟩
 have sR:=hy (n:=n+1) (by omega) f0 (A _ (by simp)) h1 hp.1.2 h2 sL aQ4 QD (aQ6 (by omega)) T J (s0.mono (by omega)) a9 q
 obtain ⟨_,_,hB⟩:=ch f1.ok O.ok hB
 have sB:=aRj J (by omega) f1 O sR s1 hB
 have t1:=h5 (n:=n+1) (by omega) h1 h2 (s0.mono (by omega)) a9
 have t2:=h5 (n:=2*n+2) (by omega) h1 h2 (sB.mono (by omega)) (F.mono (by omega))
 exact ⟨(W4 (kd:=8) (n:=2*n+3) (by omega) (.inr rfl) (t1.mono (by omega)) (t2.mono (by omega))).mono (by omega),rfl,_,_,rfl,rfl,rfl⟩
theorem aSy {c:Int} {f:LC} (h:(MM c f).2=0):c=0/\NF (ua f 0 1)= .ok (MM c f).1:=by
 grind [MM,jF]
theorem aQU (hn:0<=n) (j:0<=V) {b:Int} (hb:0<=b/\b<=1000) {r:LC} {a u v:Tm} {c:Int} (q:p9 a) (x:p9 u) (A:p9 v) (B:Wb n V D a) (E:Wb n V D u) (sv:Wb n V D v) (F:xP r=true) (hl:dg r (D+b)=true) (h:(LS b r a u v c).2=0):c=0/\Wb (n+1) V (D+b) (LS b r a u v c).1:=by
 have h:(mM (mM (mM c (wA 0 b a)).2 (wA 0 b u)).2 (wA 0 b v)).2=0:=h
 obtain ⟨h2,_,_,z⟩:=RD (by omega) hb j A sv h
 obtain ⟨I,_,_,w⟩:=RD (by omega) hb j x E h2
 obtain ⟨J,_,_,p⟩:=RD (by omega) hb j q B I
 rw [xm] at z w p
 exact ⟨J,aQK hn F hl p w z⟩
theorem aSF (hn:0<=n) (j:0<=V) (J:0<=D) (hp:RX true pz) (h1:cV pz=true) (h2:dg pz D=true) {a u v:Tm} {c:Int} (q:p9 a) (x:p9 u) (z:p9 v) (A:Wb n V D a) (B:Wb n V D u) (sv:Wb n V D v) (h:(Sv pz a u v c).2=0):c=0/\WB (n+1) 15 V (D+1) (Sv pz a u v c).1/\ ∀b∈(Sv pz a u v c).1,b.c=[AK b]:=by
 unfold Sv at h ⊢
 by_cases hl:pz.length=0
 ·grind [WB.nil]
 ·rw [if_neg hl] at h ⊢
  dsimp only at h ⊢
  obtain ⟨E,q2⟩:=aQU hn j (b:=2) (by omega) q x z A B sv (by decide) (aQz (by omega)) h
  obtain ⟨F,I⟩:=aSy E
  obtain ⟨r1,L⟩:=cy hp.1.2 h1 h2 I
  refine ⟨F,WB.of rfl fun b hb=> ?_,fun b hb=> ?_⟩
  ·grind [av]
  ·rw [List.mem_singleton] at hb;subst hb;rfl
theorem aSw (hn:0<=n) (A:0<=V) (B:0<=D) {k0 l r a:Tm} (f0:Fm k0) (f1:Fm l) (f2:Fm r) (fa:Fm a) (hp:RX true pz) (h1:cV pz=true) (h2:dg pz D=true) (s0:Wb n V (D+1+1) k0) (s1:Wb n V (D+1) l) (s2:Wb n V (D+1) r) (sa:Wb n V D a) (h:(S2 pz k0 l r a).2=0):
  Wb (n+4) V D (S2 pz k0 l r a).1/\(S2 pz k0 l r a).1.k=12/\ ∃z,(S2 pz k0 l r a).1.c=[z]/\z.k=15:=by
 unfold S2 at h ⊢
 dsimp only at h ⊢
 obtain ⟨J,C,hC,eC⟩:=lf (fun e h=>BH (fun e h=>o_ h) h) h
 rw [eC]
 obtain ⟨M,r1,O,T⟩:=lf je J
 obtain ⟨W,l1,Y,ad⟩:=lf je M
 have q0:Q2 (mM 0 (sI 0 [] l)).1:=LX fun t h=>Sx f1.ok h
 have q1:Q2 (mM (mM 0 (sI 0 [] l)).2 (sI 0 [] r)).1:=LX fun t h=>Sx f2.ok h
 have j:(LS 1 [⟨1,0⟩] a (mM 0 (sI 0 [] l)).1 (mM (mM 0 (sI 0 [] l)).2 (sI 0 [] r)).1 (mM (mM (mM 0 (sI 0 [] l)).2 (sI 0 [] r)).2 (M6 k0)).2).2=0:=by
  grind [Sv,mM,MM,LS]
 have ao:(mM (mM (mM 0 (sI 0 [] l)).2 (sI 0 [] r)).2 (M6 k0)).2=0:=by
  have j:(mM (mM (mM (mM (mM (mM 0 (sI 0 [] l)).2 (sI 0 [] r)).2 (M6 k0)).2 (wA 0 1 a)).2 (wA 0 1 (mM 0 (sI 0 [] l)).1)).2 (wA 0 1 (mM (mM 0 (sI 0 [] l)).2 (sI 0 [] r)).1)).2=0:=j
  exact (lf Hy (lf Hy (lf Hy j).1).1).1
 obtain ⟨ax,L,q,eL⟩:=lf aSH ao
 obtain ⟨az,v,hv,ev⟩:=lf Nd ax
 obtain ⟨_,u,hu,eu⟩:=lf (c:=0) Nd az
 obtain ⟨_,hu⟩:=Nl f1.ok hu
 obtain ⟨_,hv⟩:=Nl f2.ok hv
 obtain ⟨_,q⟩:=aIV f0.ok q
 have su:=WZ f1 B rA (Sp B) s1 hu
 have sv:=WZ f2 B rA (Sp B) s2 hv
 unfold Tz at q
 obtain ⟨m,hm,q⟩:=i8 q
 have fm:=jr (by omega) f0 hm
 have sm:=ia (by omega) (by omega) (by omega) A f0 s0 hm
 rw [xm] at sm
 have x:RF [⟨2,0⟩]:=gS ⟨⟨by decide,by decide⟩,by decide,by decide⟩
 have fL:=Ko fm x (Nf (d:=2) x (by decide) (by decide)) q
 have sL:=WZ fm (by omega) x (aQz (by omega)) sm q
 rw [<-eu] at su
 rw [<-ev] at sv
 have sb:=(aQU hn A (b:=1) (by omega) fa.ok q0.1.ok q1.1.ok sa su sv (by decide) (u_ (by omega)) j).2
 obtain ⟨_,ss,sk⟩:=aSF hn A B hp h1 h2 fa.ok q0.1.ok q1.1.ok sa su sv W
 obtain ⟨_,E⟩:=aQv f1.ok Y
 obtain ⟨_,F⟩:=aQv f2.ok O
 have sl:=ia (vb:=0) (db:=1) (by omega) (by omega) (show (0:Int)<=1 by omega) A f1 s1 E
 have sr:=ia (vb:=0) (db:=1) (by omega) (by omega) (show (0:Int)<=1 by omega) A f2 s2 F
 rw [xm] at sl sr
 obtain ⟨_,_,hC⟩:=BI hC
 rw [eL] at hC
 rw [ad,T] at hC
 have I:WB (n+1) 15 V (D+1) ((Sv pz a (mM 0 (sI 0 [] l)).1 (mM (mM 0 (sI 0 [] l)).2 (sI 0 [] r)).1 (LS 1 [⟨1,0⟩] a (mM 0 (sI 0 [] l)).1 (mM (mM 0 (sI 0 [] l)).2 (sI 0 [] r)).1 (mM (mM (mM 0 (sI 0 [] l)).2 (sI 0 [] r)).2 (M6 k0)).2).2).1++[⟨[⟨0,1⟩],[l1]⟩]++[⟨[⟨1,0⟩],[r1]⟩]):=by
  refine (ss.app (WB.of rfl fun b hb=> ?_)).app (WB.of rfl fun b hb=> ?_)
  ·rw [List.mem_singleton] at hb;subst hb
   exact ⟨_,rfl,(show cV [⟨0,1⟩]=true by decide),aQy (by omega),sl.mono (by omega)⟩
  ·rw [List.mem_singleton] at hb;subst hb
   exact ⟨_,rfl,apt,u_ (by omega),sr.mono (by omega)⟩
 have sc:=aRi (n:=n+1) (by omega) fL (by omega) A (sL.mono (by omega)) sb I (fun b hb=>by
  rcases zx.1 hb with hb|hb
  ·rcases zx.1 hb with hb|hb
   ·grind
   ·rw [List.mem_singleton] at hb;subst hb;rfl
  ·rw [List.mem_singleton] at hb;subst hb;rfl) hC
 have kC:C.k=15:=by
  unfold dF at hC
  obtain ⟨_,_,hC⟩:=i8 hC
  obtain ⟨_,_,hC⟩:=i8 hC
  injection hC with hC;subst hC;rfl
 exact ⟨(aRe (by omega) sc).mono (by omega),rfl,C,rfl,kC⟩
end
end
section
variable {k:Nat} {V D:Int} {t:Tm}
theorem aSc (hk:F3 k) (ft:Fm t) (x:0<=V) (z:0<=D) (s:fz V D t):b7 V D (z' t):=by
 refine jc (fun _=>Hv _) fun _=>jc (fun h=> ?_) fun _=>Hv _
 obtain ⟨l,a,j⟩:=I8 (E5 ft h.1 (n:=2) rfl)
 obtain ⟨d0,d1⟩:=EC j
 have fl:Fm l:=ft.bD (by grind)
 have fa:Fm a:=ft.bD (by grind)
 obtain ⟨A,B,E,F⟩:=k5 s h.1 j
 have hn:(0:Int)<=0:=BF 0
 have q:=h.2
 show b7 V D (Mz (M5 t.r (t.c.getD 0 pX) (t.c.getD 1 pX)))
 rw [d0,d1]
 rw [d0] at q
 exact W5 fun hc=>(aSd hk hn fl q fa (ft.r14 h.1) A B z x ⟨E,trivial⟩ ⟨F,trivial⟩ hc).1.1
theorem aSJ (hk:F3 k) (ft:Fm t) (j:0<=V) (x:0<=D) (s:fz V D t):b7 V D (Ss t):=by
 unfold Ss
 refine jc (fun _=>Hv _) fun _=>jc (fun _=>Hv _) fun h=> ?_
 have h:t.k=14:=by omega
 obtain ⟨l,a,z⟩:=I8 (E5 ft h (n:=2) rfl)
 obtain ⟨d0,d1⟩:=EC z
 have fl:Fm l:=ft.bD (by grind)
 have fa:Fm a:=ft.bD (by grind)
 have hp:=ft.r14 h
 obtain ⟨F,I,W,M⟩:=k5 s h z
 have hn:(0:Int)<=0:=BF 0
 have sl:Wb 0 V (D+1) l:=⟨W,trivial⟩
 have J:Wb 0 V D a:=⟨M,trivial⟩
 dsimp only
 rw [d0,d1]
 refine jc (fun _=>W5 fun _=>M) fun _=>jc (fun O=>W5 fun hc=> ?_) fun _=>jc (fun T=>W5 fun hc=> ?_) fun _=>jc (fun A=>W5 fun hc=> ?_) fun _=>jc (fun _=>aRV hk ft j x s) fun _=>jc (fun _=>aSc hk ft j x s) fun _=>Hv _
 ·obtain ⟨k0,q,hb⟩:=I8 (E5 fl O (n:=2) rfl)
  obtain ⟨B,E⟩:=EC hb
  obtain ⟨s0,s1⟩:=aRg j (.inl O) hb sl
  rw [B,E] at hc ⊢
  exact (aSx hn j x (fl.bD (by grind)) (fl.bD (by grind)) fa hp F I s0 s1 J hc).1.1
 ·obtain ⟨k0,q,hb⟩:=I8 (E5 fl T (n:=2) rfl)
  obtain ⟨B,E⟩:=EC hb
  obtain ⟨s0,s1⟩:=aRg j (.inr T) hb sl
  rw [B,E] at hc ⊢
  exact (aSC hn j x (fl.bD (by grind)) (fl.bD (by grind)) fa hp F I s0 s1 J hc).1.1
 ·obtain ⟨k0,q,L,hb⟩:=dh (E5 fl A (n:=3) rfl)
  obtain ⟨s0,s1,s2⟩:=aSP j A hb sl
  have B:l.c.getD 0 pX=k0:=by grind
  have E:l.c.getD 1 pX=q:=by simp_all
  have Y:l.c.getD 2 pX=L:=by simp_all
  rw [B,E,Y] at hc ⊢
  exact (aSw hn j x (fl.bD (by grind)) (fl.bD (by grind)) (fl.bD (by grind)) fa hp F I s0 s1 s2 J hc).1.1
end
section
variable {k:Nat} {V D:Int} {a y:Tm} {sys:LB}
theorem fG (sy: ∀b∈sys,b.c=[AK b]/\Fm (AK b)/\RX true b.f) (x1:sys.all (bX 15 D)=true) (x2:ck false V D 15 sys=true): ∀x∈sys,cV x.f=true/\dg x.f D=true/\fz V (D+1) (AK x):=fun x h=>by
 obtain ⟨j,q2,q⟩:=fC x1 x2 x h
 exact ⟨j,q2,q _ (by grind)⟩
theorem aSY {b:Tm} (fa:Fm a) (sy: ∀b∈sys,b.c=[AK b]/\Fm (AK b)/\RX true b.f) (q:0<=V) (M:fz (V+1) D b) (B:fz V D a) (x1:sys.all (bX 15 D)=true) (x2:ck false V D 15 sys=true)
  (h:Su b a sys= .ok y):fz V D y:=by
 unfold Su at h
 obtain ⟨a',E,h⟩:=i8 h
 obtain ⟨l,F,h⟩:=i8 h
 injection h with h;subst h
 have I:=FA fa (a:=1) (b:=0) (by omega) (by omega) q B E
 rw [xm] at I
 have j:=fG sy x1 x2
 obtain ⟨O,T⟩:=aRq (V:=V+1) (D:=D) (kd:=15) (fun x z b hb=>by
  unfold SX at hb
  obtain ⟨u,g1,hb⟩:=i8 hb
  injection hb with hb;subst hb
  obtain ⟨r1,J,L⟩:=j x z
  have A:=FA (sy x z).2.1 (a:=1) (b:=0) (by omega) (by omega) q L g1
  rw [xm] at A
  exact ⟨Sn rfl r1 J,Sr.2 (MY (.inl rfl) A (MI (by decide) (by omega)))⟩) F
 grind [Hi,SO,MY,MI]
theorem aRr {kd:Int} (h:kd=9\/kd=10) (sy: ∀b∈sys,b.c=[AK b]/\Fm (AK b)/\RX true b.f) (x1:sys.all (bX 15 D)=true) (x2:ck false V D 15 sys=true):(parts kd sys).all (bX 15 D)=true/\ck false V D 15 (parts kd sys)=true:=by
 have j:=fG sy x1 x2
 refine Xc fun z q=> ?_
 obtain ⟨x,A,rfl⟩:=xq.1 q
 obtain ⟨r1,B,E⟩:=j x A
 exact ⟨Sn rfl r1 B,Sr.2 (SN h E)⟩
theorem aS0 (hk:F3 k) {p b:Tm} (f0:Fm p) (f1:Fm b) (fa:Fm a) (sy: ∀b∈sys,b.c=[AK b]/\Fm (AK b)/\RX true b.f) (j:sys.length<=20000) (A:0<=V) (E:0<=D) (sp:fz V D p) (z:fz (V+1) D b) (F:fz V D a) (x1:sys.all (bX 15 D)=true) (x2:ck false V D 15 sys=true)
  (h:N1 p b a sys= .ok y):fz V D y:=by
 unfold N1 at h
 obtain ⟨f,M,h⟩:=i8 h
 obtain ⟨b',I,h⟩:=i8 h
 obtain ⟨line,J,h⟩:=i8 h
 obtain ⟨w,O,h⟩:=i8 h
 injection h with h;subst h
 have T:=ea hk (kd:=9) (by omega) sy j
 have B:=ea hk (kd:=10) (by omega) sy j
 have i9:In k (dS 9 [a]):=(S4 (kd:=9) (by omega) (.inl fa)).1.isIn hk (by omega)
 have i10:In k (dS 10 [a]):=(S4 (kd:=10) (by omega) (.inl fa)).1.isIn hk (by omega)
 obtain ⟨so,ff,x⟩:=BI M
 obtain ⟨c1,c2,c3⟩:=wg f0.ok i9.1 T.1 so
 have L:Fm f:=⟨(ux hk c1 c2 (iQ c3) x).1.1,ff⟩
 obtain ⟨a1,a2⟩:=aRr (V:=V) (kd:=9) (.inl rfl) sy x1 x2
 obtain ⟨W,Y⟩:=aRr (V:=V) (kd:=10) (.inr rfl) sy x1 x2
 have sf:=uK c1 c2 E A sp (SN (.inl rfl) F) a1 a2 (iQ c3) x
 have z:=FA f1 (a:=0) (b:=1) (by omega) (by omega) (by omega) z I
 rw [xm] at z
 have fb:=mD (by omega) f1 I
 have fl:=qU (by omega) fb L J
 have wl:=Z0 A (by omega) fb L sf z J
 obtain ⟨so2,fw,hc⟩:=BI O
 obtain ⟨d1,d2,d3⟩:=wg fl.ok i10.1 B.1 so2
 have sw:=aQN d1 E A wl (SN (.inr rfl) F) W Y (fun b hb=>by
  obtain ⟨q,_⟩:=(d3.sy (by rfl))
  exact (q b hb).1) hc
 grind [MY,SO,SN]
theorem aSX {p l r:Tm} (fl:Fm l) (q:Fm r) (fa:Fm a) (sy: ∀b∈sys,b.c=[AK b]/\Fm (AK b)/\RX true b.f) (j:0<=V) (hD:0<=D) (sp:fz V (D+1) p) (sl:fz V D l) (A:fz V D r) (W:fz V D a) (x1:sys.all (bX 15 D)=true) (x2:ck false V D 15 sys=true)
  (h:jg p l r a sys= .ok y):fz V D y:=by
 unfold jg at h
 obtain ⟨pa,Y,h⟩:=i8 h
 obtain ⟨lo,e2,h⟩:=i8 h
 obtain ⟨hi,e3,h⟩:=i8 h
 obtain ⟨ad,e4,h⟩:=i8 h
 obtain ⟨l2,e5,h⟩:=i8 h
 obtain ⟨B,e6,h⟩:=i8 h
 injection h with h;subst h
 have m15:av 15=1:=rfl
 have J:=FA fa (a:=0) (b:=1) (by omega) (by omega) j W Y
 have L:=FA fl (a:=0) (b:=1) (by omega) (by omega) j sl e2
 have M:=FA q (a:=0) (b:=1) (by omega) (by omega) j A e3
 have u5:=FA fl (a:=0) (b:=2) (by omega) (by omega) j sl e5
 have u6:=FA q (a:=0) (b:=2) (by omega) (by omega) j A e6
 rw [xm] at J L M u5 u6
 have E:=fG sy x1 x2
 obtain ⟨l1,F⟩:=aRq (V:=V) (D:=D+1) (kd:=15) (fun x O b hb=>by
  unfold Nu at hb
  obtain ⟨f,g1,hb⟩:=i8 hb
  obtain ⟨u,g2,hb⟩:=i8 hb
  obtain ⟨ao,g3,hb⟩:=i8 hb
  obtain ⟨ax,g4,hb⟩:=i8 hb
  injection hb with hb;subst hb
  obtain ⟨r1,B,r3⟩:=E x O
  obtain ⟨k1,k2,k3⟩:=sy x O
  have I:=q8 (BF 0) (show (0:Int)<=1 by omega) (v:=0) (d:=1) (V:=V) (D:=D+1) (by omega) j k2 r3 g2
  have v3:=FA fl (a:=0) (b:=2) (by omega) (by omega) j sl g3
  have v4:=FA q (a:=0) (b:=2) (by omega) (by omega) j A g4
  rw [xm] at I v3 v4
  obtain ⟨w1,w2⟩:=cy k3.1.2 r1 B g1
  refine ⟨Sn rfl w1 w2,Sr.2 ?_⟩
  rw [m15,show D+1+1=D+2 by omega]
  rw [show D+1+1=D+2 by omega] at I
  exact G0 (by decide) (aQz (by omega)) I v3 v4) e4
 have t1:=j3 (V:=V) (D:=D+1) (kd:=15) (f:=[⟨0,1⟩]) (z:=l2) rfl (by decide) (aQy (by omega)) (by grind)
 have t2:=j3 (V:=V) (D:=D+1) (kd:=15) (f:=[⟨1,0⟩]) (z:=B) rfl (by decide) (u_ (by omega)) (by grind)
 have T:=Xb (Xb ⟨l1,F⟩ t1) t2
 exact uu (SO sp (G0 (by decide) (u_ (by omega)) J L M) T.1 T.2)
theorem Sl {b c d:Int} {t:Tm} (ha:0<=b/\b<=1000) (hb:0<=d/\d<=1000) (j:0<=V) (q:p9 t) (s:fz V D t) (h:(mM c (wA b d t)).2=0):c=0/\Fm t/\fz (V+b) (D+d) (mM c (wA b d t)).1:=by
 obtain ⟨hc,y,x,e⟩:=lf Hy h
 grind [Mp,FA]
theorem o3 (h:0<=V) {kd:Int} (hk:kd=4\/kd=7) {x y:Tm} (h1:fz V D x) (h2:fz (V+1) D y):fz V D (dS kd [x,y]):=by
 refine RB (by omega) (by rcases hk with rfl|rfl<;>rfl) (Ej.2 ?_)
 grind [tZ,bJ,Dj,fk]
theorem aRm {x y z:Tm} (h1:fz V (D+1) x) (h2:fz V D y) (h:fz V D z):fz V D (dS 11 [x,y,z]):=by
 refine RB (by decide) rfl (Ml.2 ⟨?_, ?_, ?_⟩)
 ·show rP false (cQ V 0) (D+1) x=true
  rw [Dj];exact h1
 ·show rP false (cQ V 0) (D+0) y=true
  grind [Dj]
 ·show rP false (cQ V 0) (D+0) z=true
  grind [Dj]
theorem aR9 {c:Int} {t a f y:Tm} (j:0<=V) (q:p9 a) (of:p9 f) (x:p9 y) (st:fz V D t) (z:fz V D a) (A:fz V D f) (sy:fz V D y) (h:(MK c t a f y).2=0):c=0/\fz V D (MK c t a f y).1:=by
 unfold MK at h ⊢
 dsimp only at h ⊢
 obtain ⟨h1,_,B⟩:=Sl (by omega) (by omega) j of A h
 obtain ⟨h2,_,E⟩:=Sl (by omega) (by omega) j x sy h1
 obtain ⟨F,_,I⟩:=Sl (by omega) (by omega) j q z h2
 grind [o3,aRm,MY,MI]
theorem aRX {c:Int} {t:Tm} (j:0<=V) (q:p9 t) (st:fz V D t) (h:(M8 c t).2=0):c=0/\fz V D (M8 c t).1:=by
 unfold M8 at h ⊢
 dsimp only at h ⊢
 obtain ⟨h1,_,x⟩:=Sl (by omega) (by omega) j q st h
 obtain ⟨h2,_,z⟩:=Sl (by omega) (by omega) j q st h1
 grind [o3,aRm,MI]
theorem aR6 {c:Int} {t a:Tm} (j:0<=V) (z:Q2 t) (q:p9 a) (st:fz V D t) (x:fz V D a) (h:(Sh c t a).2=0):fz V D (Sh c t a).1:=by
 have f3:=Ft (c:=(mM (mM c (wA 1 0 a)).2 (wA 1 0 a)).2) (a:=2) (b:=0) (by omega) (by omega) z.1.ok
 have f4:=Ft (c:=(mM (mM (mM c (wA 1 0 a)).2 (wA 1 0 a)).2 (wA 2 0 t)).2) (a:=2) (b:=0) (by omega) (by omega) q
 unfold Sh at h ⊢
 dsimp only at h ⊢
 have F:=Hd (c:=(mM (mM (mM (mM c (wA 1 0 a)).2 (wA 1 0 a)).2 (wA 2 0 t)).2 (wA 2 0 a)).2) (t:=(mM (mM (mM c (wA 1 0 a)).2 (wA 1 0 a)).2 (wA 2 0 t)).1) (a:=(mM (mM (mM (mM c (wA 1 0 a)).2 (wA 1 0 a)).2 (wA 2 0 t)).2 (wA 2 0 a)).1) (f:=vN 1) (y:=vN 0) f3.sm f4.sm.1.ok (KV (by omega)).1.ok (KV (by omega)).1.ok
 have A:(MK (mM (mM (mM (mM c (wA 1 0 a)).2 (wA 1 0 a)).2 (wA 2 0 t)).2 (wA 2 0 a)).2 (mM (mM (mM c (wA 1 0 a)).2 (wA 1 0 a)).2 (wA 2 0 t)).1 (mM (mM (mM (mM c (wA 1 0 a)).2 (wA 1 0 a)).2 (wA 2 0 t)).2 (wA 2 0 a)).1 (vN 1) (vN 0)).2=0:=by
  unfold M8 at h
  dsimp only at h
  obtain ⟨h1,_⟩:=lf Hy h
  exact (lf Hy h1).1
 have I:(mM (mM (mM (mM c (wA 1 0 a)).2 (wA 1 0 a)).2 (wA 2 0 t)).2 (wA 2 0 a)).2=0:=by
  have:=A
  unfold MK at this
  dsimp only at this
  obtain ⟨h1,_⟩:=lf Hy this
  obtain ⟨h2,_⟩:=lf Hy h1
  exact (lf Hy h2).1
 obtain ⟨J,_,B⟩:=Sl (by omega) (by omega) j q x I
 obtain ⟨L,_,E⟩:=Sl (by omega) (by omega) j z.1.ok st J
 obtain ⟨M,_,O⟩:=Sl (by omega) (by omega) j q x L
 obtain ⟨Y,_,T⟩:=Sl (by omega) (by omega) j q x M
 rw [xm] at T O E B
 obtain ⟨_,W⟩:=aR9 (V:=V+2) (by omega) f4.sm.1.ok (KV (by omega)).1.ok (KV (by omega)).1.ok E B (MI (by decide) (by omega)) (MI (by decide) (by omega)) A
 obtain ⟨_,w6⟩:=aRX (by omega) F.1.ok W h
 grind [o3]
theorem aR5 {t a:Tm} (j:0<=V) (q:Q2 t) (x:p9 a) (st:fz V D t) (z:fz V D a) (h:Nr t a= .ok y):fz V D y:=by
 grind [Nr,FJ,Mf,aD,aR6,lk]
theorem aSL {c:Int} {x:Br Tm} (h:(Ig a c x).2=0):c=0:=by
 unfold Ig at h
 dsimp only at h
 obtain ⟨h1,_⟩:=W6 (fun e h=>J1 h) h
 obtain ⟨h2,_⟩:=lf Hy h1
 exact (lf Nd h2).1
theorem aSM (fa:Fm a) (sy: ∀b∈sys,b.c=[AK b]/\Fm (AK b)/\RX true b.f) (A:0<=V) (J:0<=D) (T:fz V D a) (x1:sys.all (bX 15 D)=true) (x2:ck false V D 15 sys=true) (h:(ue (Ig a) 0 sys).2=0):
  fz V D (.mk 16 0 qw [] [a] (ue (Ig a) 0 sys).1):=by
 have B:=fG sy x1 x2
 have L: ∀c x,(Ig a c x).2=0->c=0:=fun c x h=>aSL h
 have j:=(To L h).2
 rw [sx L h]
 have m16:av 16=0:=rfl
 have hb:=Xc (V:=V) (D:=D) (kd:=16) (l:=sys.map fun x=>(Ig a 0 x).1) fun z W=>by
  obtain ⟨x,E,rfl⟩:=xq.1 W
  obtain ⟨r1,Y,M⟩:=B x E
  obtain ⟨k1,F,k3⟩:=sy x E
  have I:=(j x E).1
  unfold Ig at I ⊢
  dsimp only at I ⊢
  obtain ⟨h1,q,hq,eq⟩:=W6 (fun e h=>J1 h) I
  obtain ⟨h2,f1,O⟩:=Sl (by omega) (by omega) A fa.ok T h1
  obtain ⟨h3,e,he,ee⟩:=lf Nd h2
  have fA:=Ft (c:=(mM 0 (sI 0 [⟨0,0⟩] (AK x))).2) (a:=0) (b:=1) (by omega) (by omega) fa.ok
  rw [xm] at O
  have sq:=aR5 A F.q2 fA.sm.1.ok M O hq
  refine ⟨Sn rfl r1 Y, ?_⟩
  rw [ca,ca,ca,Bool.and_true,qC,m16,xm,eq,ee]
  exact ⟨fU F J M (Nl F.ok he).2,SR (by decide) (Fk _ _ rfl) sq (aSV A J)⟩
 grind [k9]
theorem aSv (hk:F3 k) {t g b:Tm} (ft:Fm t) (F:t.k=15) (I:t.c=[g,b]) (A:g.k=16) (T:0<=V) (hD:0<=D) (hs:fz V D t) (h:TC t= .ok y):fz V D y:=by
 have W:Fm g:=ft.bD (by grind)
 have fb:Fm b:=ft.bD (by grind)
 obtain ⟨d0,d1⟩:=EC I
 obtain ⟨sy,a8⟩:=ft.sy F
 obtain ⟨gx,gl,a,ha,fa⟩:=W.gl A
 obtain ⟨x1,x2,x3⟩:=iK hs F
 obtain ⟨sg,sb⟩:=x3 I
 obtain ⟨J,ga⟩:=hI W A (n:=0) ⟨sg,trivial⟩
 have B: ∀x∈g.s,cV x.f=true/\dg x.f D=true/\fz V D (AK x)/\fz V D (k1 x):=fun x j=>by
  obtain ⟨r1,q,E,L⟩:=J x j
  exact ⟨r1,q,E.1,L.1⟩
 have sa:fz V D a:=by
  have:=ga.1
  grind [Mj]
 have m15:av 15=1:=rfl
 have m17:av 17=0:=rfl
 have m18:av 18=0:=rfl
 obtain ⟨s1,s2⟩:(eh g).all (bX 18 D)=true/\ck false V D 18 (eh g)=true:=by
  refine Xc fun z Y=> ?_
  obtain ⟨x,j,rfl⟩:=xq.1 Y
  obtain ⟨r1,q,E,L⟩:=B x j
  exact ⟨Sn rfl r1 q,Sr.2 (by grind)⟩
 unfold TC at h
 rw [d0,d1] at h
 obtain ⟨l1,e1,h⟩:=i8 h
 obtain ⟨l2,e2,h⟩:=i8 h
 injection h with h;subst h
 have fe:=sf W A
 have su:fz V D (zg zm (eh g)):=k9 (.inr (.inr rfl)) aQR s1 s2
 have ad:=fG sy x1 x2
 have ao: ∀ {r l:LB},(∀x∈r,x∈t.s)->Iy (eh g) r= .ok l->l.all (bX 15 D)=true/\ck false V D 15 l=true:=by
  intro r
  induction r with
  |nil=>grind [Iy,ck]
  |cons x r ih=>
   intro l M h
   rw [Iy] at h
   obtain ⟨u,g1,h⟩:=i8 h
   obtain ⟨m,g2,h⟩:=i8 h
   injection h with h;subst h
   obtain ⟨i1,i2⟩:=ih (fun x j=>M x (by simp [j])) g2
   obtain ⟨r1,q,E⟩:=ad x (M x (by simp))
   have uu:=FA fe (a:=0) (b:=1) (by omega) (by omega) T su g1
   rw [xm] at uu
   rw [EZ,qC,ck,qC,jT]
   refine ⟨⟨Sn rfl r1 q,i1⟩,Sr.2 ?_,i2⟩
   rw [m15]
   obtain ⟨a',bc,rfl⟩:=aSN g1
   obtain ⟨w1,w2⟩:=aRt uu (.inr (.inr (.inr rfl)))
   exact k9 (.inr (.inr rfl)) E w1 w2
 obtain ⟨q1,q2⟩:=ao (fun x j=>j) e1
 have ax:=Jc hk ft
 have az: ∀ {r l:LB},(∀x∈r,x∈g.s)->IJ b t.s r= .ok l->l.all (bX 15 D)=true/\ck false V D 15 l=true:=by
  intro r
  induction r with
  |nil=>grind [IJ,ck]
  |cons x r ih=>
   intro l M h
   rw [IJ] at h
   obtain ⟨f,g1,h⟩:=i8 h
   obtain ⟨w,g2,h⟩:=i8 h
   obtain ⟨m,g3,h⟩:=i8 h
   injection h with h;subst h
   obtain ⟨i1,i2⟩:=ih (fun x j=>M x (by simp [j])) g3
   have O:=M x (by simp)
   obtain ⟨r1,q,E,L⟩:=B x O
   obtain ⟨y1,y2,y3,y4⟩:=gx x O
   have uf:=FA y3 (a:=0) (b:=1) (by omega) (by omega) T L g1
   rw [xm] at uf
   obtain ⟨so,ff,a6⟩:=BI g2
   obtain ⟨c1,c2,c3⟩:=wg y2.ok fb.ok ax.1 so
   have sw:=uK c1 c2 hD T E sb x1 x2 (iQ c3) a6
   rw [EZ,qC,ck,qC,jT]
   exact ⟨⟨Sn rfl r1 q,i1⟩,Sr.2 (by grind [MY,SN]),i2⟩
 have q3:=az (fun x j=>j) e2
 have qq:=Xb ⟨q1,q2⟩ q3
 have a7:fz V D (.mk 15 0 qw [] [a,zg b (eh g)] (l1++l2)):=SO sa (k9 (.inr (.inr rfl)) sb s1 s2) qq.1 qq.2
 obtain ⟨t1,t2⟩:(RN b t.s g.s).all (bX 17 D)=true/\ck false V D 17 (RN b t.s g.s)=true:=by
  refine Xc fun z Y=> ?_
  obtain ⟨x,j,rfl⟩:=xq.1 Y
  obtain ⟨r1,q,E,L⟩:=B x j
  exact ⟨Sn rfl r1 q,Sr.2 (by grind [SO])⟩
 grind [ng,k9]
theorem aSe (hk:F3 k) {t:Tm} (ft:Fm t) (A:0<=V) (F:0<=D) (s:fz V D t):b7 V D (Nq t):=by
 refine jc (fun _=>Hv _) fun _=>jc (fun h=>W5 fun hc=> ?_) fun _=>jc (fun _=>Hv _) fun _=>jc (fun h=>aQE fun y q=> ?_) fun _=>Hv _
 ·obtain ⟨p,a,x⟩:=I8 (E5 ft h.1 (n:=2) rfl)
  obtain ⟨d0,d1⟩:=EC x
  obtain ⟨sy,_⟩:=ft.sy h.1
  obtain ⟨x1,x2,x3⟩:=iK s h.1
  rw [d1] at hc ⊢
  exact aSM (ft.bD (by grind)) sy A F (x3 x).2 x1 x2 hc
 ·obtain ⟨p,a,x⟩:=I8 (E5 ft h.1 (n:=2) rfl)
  obtain ⟨d0,d1⟩:=EC x
  obtain ⟨sy,I⟩:=ft.sy h.1
  obtain ⟨x1,x2,x3⟩:=iK s h.1
  obtain ⟨sp,J⟩:=x3 x
  have fp:Fm p:=ft.bD (by grind)
  have fa:Fm a:=ft.bD (by grind)
  have L:=h.2
  unfold p2 at q
  dsimp only at q
  rw [d0] at L
  rw [d0,d1] at q
  by_cases E:p.k=4
  ·rw [if_pos E] at q
   have hl:=E5 fp E (n:=2) rfl
   exact aSY fa sy A (ao sp A E hl (j:=1) (by decide) rfl rfl) J x1 x2 q
  rw [if_neg E] at q
  by_cases B:p.k=7
  ·rw [if_pos B] at q
   have hl:=E5 fp B (n:=2) rfl
   exact aS0 hk (fp.bD (zh hl (i:=0) (by omega)).2) (fp.bD (zh hl (i:=1) (by omega)).2) fa sy I A F (y8 sp B hl (j:=0) (by decide) rfl rfl) (ao sp A B hl (j:=1) (by decide) rfl rfl) J x1 x2 q
  rw [if_neg B] at q
  by_cases z:p.k=11
  ·rw [if_pos z] at q
   have hl:=E5 fp z (n:=3) rfl
   exact aSX (fp.bD (zh hl (i:=1) (by omega)).2) (fp.bD (zh hl (i:=2) (by omega)).2) fa sy A F (aRo sp z hl (j:=0) (by decide) rfl rfl) (y8 sp z hl (j:=1) (by decide) rfl rfl) (y8 sp z hl (j:=2) (by decide) rfl rfl) J x1 x2 q
  grind [aSv]
end
section
variable {S:Type} {k:Nat}
noncomputable def oS {α:Type} (a b:α):Bool:= @decide (a=b) (Classical.propDecidable _)
theorem SJ {α:Type} {a b:α} (h:a=b):oS a b=true:=by grind [oS]
theorem MB {α:Type} {a b:α} (h:a≠b):oS a b=false:=by grind [oS]
section
variable {hd:EO S}
theorem aGO (I:Bool->OS S) {l j:LT} (B: ∀y∈l,∀u g,hd y u g=g (oS y u)) (hl:l.length<4294967296):
  ∀ (r s p q:LT) (m:Nat),l=p++r->j=q++s->p.length=q.length->r.length=s.length->r.length<m->mf hd k I j l m (p.length:Int)=I (oS r s):=by
 intro r
 induction r with
 |nil=>
  grind [qI,mf,D2,n3,SJ]
 |cons x r E=>
  intro s p q m h h2 hp hs F
  obtain ⟨m,rfl,z⟩:=qI F
  obtain ⟨J,L,M,O⟩:=sX h (by omega)
  cases s with
  |nil=>simp at hs
  |cons y s=>
  have g2:af j (p.length:Int)=some y:=by rw [h2,hp];exact ED (n:=q.length) rfl (by simp)
  simp only [mf,D2,J,ae,L,g2,rf,ar,B x (by grind),M]
  by_cases A:x=y
  ·subst A
   rw [SJ rfl,xJ,n3,E s (p++[x]) (q++[x]) m O (by grind) (by simp [hp]) (by grind) z]
   by_cases T:r=s<;>grind [SJ,MB,List.cons.inj]
  grind [MB,ae,List.cons.inj]
theorem aC8 (hk:4294967296<=k) (I:Bool->OS S) {l:LT} (j:LT) (x: ∀y∈l,∀u g,hd y u g=g (oS y u)) (hl:l.length<4294967296):n1 hd k l j I=I (oS l j):=by
 simp only [n1,aAm]
 by_cases h:l.length=j.length
 ·rw [h,beq_self_eq_true,xJ,n3]
  exact aGO I x hl l j [] [] k rfl rfl rfl h (by omega)
 ·rw [beq_false_of_ne (by omega),ub,ae,MB (fun q=>h (congrArg List.length q))]
theorem aGP (hk:4294967296+1<=k) (I:Bool->OS S) {l A:LB} (J: ∀b∈l,∀y∈b.c,∀u g,hd y u g=g (oS y u)) (hb: ∀b∈l,b.c.length<4294967296/\b.f.length<4294967296) (hl:l.length<4294967296):
  ∀ (r s p q:LB) (m:Nat),l=p++r->A=q++s->p.length=q.length->r.length=s.length->r.length<m->ky hd k I A l m (p.length:Int)=I (oS r s):=by
 have j:Fu k:=by omega
 intro r
 induction r with
 |nil=>
  grind [qI,ky,b4,n3,SJ]
 |cons x r L=>
  intro s p q m h h2 hp hs M
  obtain ⟨m,rfl,B⟩:=qI M
  obtain ⟨O,T,W,Y⟩:=sX h (by omega)
  cases s with
  |nil=>simp at hs
  |cons y s=>
  have g2:af A (p.length:Int)=some y:=by rw [h2,hp];exact ED (n:=q.length) rfl (by simp)
  obtain ⟨b1,b2⟩:=hb x (by grind)
  have hx: ∀g:Bool->OS S,xU hd k x y g=g (oS x y):=fun g=>by
   obtain ⟨f,F⟩:=x
   obtain ⟨f',z⟩:=y
   simp only [xU,ag j,aiN j b2,aC8 (by omega) _ z (J ⟨f,F⟩ (by grind)) b1]
   by_cases hf:f=f'
   ·subst hf
    rw [decide_eq_true rfl,ae]
    by_cases ad:F=z<;>simp_all [SJ,MB]
   simp_all [n3,MB]
  simp only [ky,b4,O,ae,T,g2,rf,ag j,hx,W]
  by_cases E:x=y
  ·subst E
   rw [SJ rfl,xJ,n3,L s (p++[x]) (q++[x]) m Y (by grind) (by simp [hp]) (by grind) B]
   by_cases ao:r=s<;>grind [SJ,MB,List.cons.inj]
  grind [MB,ae,List.cons.inj]
end
theorem aID (t:Tm):p9 t-> ∀ {k:Nat} (u:Tm) (I:Bool->OS S),Fd k (am t+1)->My k t u I=I (oS t u):=by
 induction t using c7 with
 |h t B E=>
  intro A k u I hk
  obtain ⟨q,rfl⟩: ∃q,k=q+1:=⟨k-1,by omega⟩
  have hq:4294967296+1<=q:=by grind [HX]
  have j:Fu q:=by omega
  obtain ⟨o1,o2,o3,o4,o5,o6,o7⟩:=A.no
  have ad:4294967296+(am t+1)<=q+1:=hk
  have hQ: ∀y∈t.c,∀ (v:Tm) (g:Bool->OS S),My q y v g=g (oS y v):=fun y x v g=>B y x (A.ki x) v g (by have:=bY x;omega)
  have F: ∀b∈t.s,∀y∈b.c,∀ (v:Tm) (g:Bool->OS S),My q y v g=g (oS y v):=fun b hb y x v g=>E b hb y x ((A.bi hb).2 y x) v g (by have:=b8 hb x;omega)
  have hS: ∀ (z:LB) (g:Bool->OS S),cu (My q) q t.s z g=g (oS t.s z):=fun z g=>by
   simp only [cu,aAl]
   by_cases h:t.s.length=z.length
   ·rw [h,beq_self_eq_true,xJ,n3]
    exact aGP hq g F (fun b hb=>by have:=(A.bi hb).1;omega) (by omega) t.s z [] [] q rfl rfl rfl h (by omega)
   ·rw [beq_false_of_ne (by omega),ub,ae,MB (fun q=>h (congrArg List.length q))]
  have e:My (q+1) t u I=e3 (My q) q I t u:=rfl
  rw [e]
  simp only [e3,ag j,Jq,aiN j (show t.r.length<4294967296 by omega),aC8 j _ u.c hQ (show t.c.length<4294967296 by omega),hS]
  obtain ⟨a1,a2,a3,a4,a5,J⟩:=t
  obtain ⟨L,M,O,T,W,Y⟩:=u
  show ab (a1==L) (ab (a2==M) (ab (decide (a3=O)) (ab (decide (a4=T)) (ab (oS a5 W) (I (oS J Y)) (I false)) (I false)) (I false)) (I false)) (I false)=_
  by_cases h1:a1=L
  case neg=>simp_all [beq_false_of_ne,n3,MB]
  by_cases h2:a2=M
  case neg=>simp_all [ae,beq_false_of_ne,n3,MB]
  by_cases h3:a3=O
  case neg=>simp_all [ae,n3,MB]
  by_cases h4:a4=T
  case neg=>simp_all [ae,n3,MB]
  by_cases h5:a5=W
  case neg=>simp_all [ae,MB,n3]
  subst h1;subst h2;subst h3;subst h4;subst h5
  rw [beq_self_eq_true,ae,beq_self_eq_true,ae,decide_eq_true rfl,ae,decide_eq_true rfl,ae,SJ rfl,ae]
  by_cases h6:J=Y<;>simp_all [SJ,MB]
def JT (t:Tm):Prop:=p9 t/\am t<=300/\au t<=1000000
theorem JT.isIn {t:Tm} (h:JT t) (hk:F3 k):In k t:=⟨h.1,hk.fd (by have:=h.2.1;omega),by have:=h.2.2;omega⟩
theorem Fm.jt {t:Tm} (h:Fm t):JT t:=⟨h.ok,by have:=h.dep;omega,by have:=h.eO;omega⟩
def RJ (defs:List Df):Prop:=defs.length<1073741824/\ ∀d∈defs,JT d.body
theorem RJ.isIn {defs:List Df} (h:RJ defs) (hk:F3 k):H4 k defs:=⟨h.1,fun d hd=>(h.2 d hd).isIn hk⟩
theorem aIP: ∀ {l:LT} {i:Nat} {a:Tm},aZ l->p9 a->aZ (l.set i a)/\aH (l.set i a)<=max (aH l) (am a)/\ay (l.set i a)<=ay l+au a:=by
 intro l
 induction l with
 |nil=>grind
 |cons x l j=>
  intro i a h ha
  rw [aZ] at h
  cases i<;>grind [aZ,aH,ay]
theorem hD {t a:Tm} {i:Nat} (ft:Fm t) (fa:Fm a):JT (atR t i a):=by
 have h1:=ft.ok;have h2:=ft.dep;have h:=ft.eO;have x:=fa.dep;have z:=fa.eO
 obtain ⟨kd,n,j,r,q,sys⟩:=t
 rw [p9] at h1
 rw [am] at h2
 rw [au] at h
 obtain ⟨A,q2,B⟩:=aIP (i:=i) h1.2.1 fa.ok
 obtain ⟨E,F,I,J,L,M,O⟩:=h1.1
 show JT (.mk kd n j r (q.set i a) sys)
 refine ⟨?_, ?_, ?_⟩
 all_goals grind [p9,am,au]
def Mi (t:Tm):List Nat:=(if 0<=L0 t then [(L0 t).toNat] else [])++(if t.k=14/\(kd0 t).k=23 then [1] else [])
def Q3 (x:Except Int (Tm×Nat)) (R:sH (Int×Int) (Tm×Int)):Prop:=match x with
 | .ok p=>R= .ok (p.1,(p.2:Int))
 | .error e=> ∃c,R= .gF (e,c)
theorem aIM (hk:F3 k) {hd:Nc S} {t bD:Tm} {i:Nat} {defs:List Df} {f:Int} (ft:Fm t) (h:af t.c (i:Int)=some bD) {R:sH (Int×Int) (Tm×Int)} (j: ∀g,hd bD defs f g=g R) (q: ∀a c,R= .ok (a,c)->Fm a) (I:sH (Int×Int) (Tm×Bool×Int)->OS S):
  SE hd k t (i:Int) defs f I=I (match R with
   | .gF e=> .gF e
   | .ok p=>if oS p.1 bD=true then .ok (t,false,p.2) else .ok (atR t i p.1,true,p.2)):=by
 simp only [SE,ar,h,rf,j]
 cases R with
 |gF e=>rfl
 |ok p=>
  obtain ⟨a,c⟩:=p
  have fa:=q a c rfl
  show (My k a bD fun x=>_)=_
  rw [aID a fa.ok bD _ (hk.fd (by have:=fa.dep;omega))]
  dsimp only
  cases oS a bD with
  |true=>rfl
  |false=>
   have:=ft.ok.no.2.2.2.2.2.1
   rw [n3,if_neg (by decide),J5 (by omega)]
   rfl
noncomputable abbrev hA (defs:List Df):=ox (nf defs) Mi 220
noncomputable abbrev hP (defs:List Df):=Mk (nf defs) Mi 220
def ka (f:Nat) (x:Except Int (Tm×Nat)):Prop:= ∀a r,x= .ok (a,r)->Fm a/\r<=f
theorem u6 {defs:List Df} {t:Tm} (h:(nf defs t).2.2=0):bw t=0:=by
 grind [nf]
noncomputable def ayO (t:Tm) (i:Nat) (bD:Tm):sH (Int×Int) (Tm×Int)->sH (Int×Int) (Tm×Bool×Int)
 | .gF e=> .gF e
 | .ok p=>if oS p.1 bD=true then .ok (t,false,p.2) else .ok (atR t i p.1,true,p.2)
theorem BX {defs:List Df} {n f:Nat} {t:Tm} {i:Nat} {l:List Nat}:(∀e,hA defs n f (zw t i)= .error e->hP defs n f t (i::l)= .error e)/\
  (∀a r,hA defs n f (zw t i)= .ok (a,r)->oS a (zw t i)=true->hP defs n f t (i::l)=hP defs n r t l)/\
  ∀a r,hA defs n f (zw t i)= .ok (a,r)->oS a (zw t i)=false->hP defs n f t (i::l)=hA defs n r (atR t i a):=by
 grind [Mk,oS]
theorem xl {defs:List Df} {n f:Nat} {t:Tm} {i:Nat} {l:List Nat} {W:(sH (Int×Int) (Tm×Bool×Int)->OS S)->OS S} {R:sH (Int×Int) (Tm×Int)}
  (h:Q3 (hA defs n f (zw t i)) R)
  (q: ∀g,W g=g (ayO t i (zw t i) R))
  {L:(sH (Int×Int) (Tm×Int)->OS S)->Int->Tm->OS S} {N:(sH (Int×Int) (Tm×Int)->OS S)->Int->OS S}
  (z: ∀a r,hA defs n f (zw t i)= .ok (a,r)->hA defs n r (atR t i a)≠ .error 0-> ∃R',Q3 (hA defs n r (atR t i a)) R'/\ ∀I,L I (r:Int) (atR t i a)=I R')
  (A: ∀a r,hA defs n f (zw t i)= .ok (a,r)->hP defs n r t l≠ .error 0-> ∃R',Q3 (hP defs n r t l) R'/\ ∀I,N I (r:Int)=I R')
  (B:hP defs n f t (i::l)≠ .error 0):
  ∃R',Q3 (hP defs n f t (i::l)) R'/\ ∀I:sH (Int×Int) (Tm×Int)->OS S,(W fun r6=>sH.elim r6 (fun r6=>ab r6.2.1 (L I r6.2.2 r6.1) (N I r6.2.2)) fun e=>I (.gF (e.1,e.2)))=I R':=by
 simp only [q]
 obtain ⟨x,E,F⟩:=BX (defs:=defs) (n:=n) (f:=f) (t:=t) (i:=i) (l:=l)
 cases j:hA defs n f (zw t i) with
 |error e=>
  rw [j] at h
  obtain ⟨c,rfl⟩:=h
  rw [x e j]
  exact ⟨.gF (e,c),⟨c,rfl⟩,fun _=>rfl⟩
 |ok p=>
  obtain ⟨a,r⟩:=p
  rw [j] at h
  have h:R= .ok (a,(r:Int)):=h
  grind [oS,ayO,sH.elim,n3,ae]
theorem aGi:JT pX:=⟨L4,by decide,by decide⟩
theorem S5 {t:Tm} (ft:Fm t) (i:Nat):JT (zw t i):=by
 unfold zw
 by_cases h:i<t.c.length
 ·have j:t.c.getD i pX∈t.c:=(zh rfl h).2
  have h1:=bY j
  have h2:=k_ j
  have x:ay t.c<=au t:=by
   obtain ⟨kd,n,z,r,q,sys⟩:=t
   show ay q<=_
   rw [au];omega
  have:=ft.dep;have:=ft.eO
  exact ⟨ft.ok.ki j,by omega,by omega⟩
 grind [aGi]
theorem lz {defs:List Df} (hd:RJ defs): ∀n,(∀f t,JT t->ka f (hA defs n f t))/\ ∀l f t,Fm t->ka f (hP defs n f t l):=by
 have hk:F3 4294970296:=Bl.f3
 have B: ∀n,(∀f t,JT t->ka f (hA defs n f t))-> ∀l f t,Fm t->ka f (hP defs n f t l):=by
  intro n j l
  induction l with
  |nil=>
   intro f t ft a r h
   grind [Mk]
  |cons i l x=>
   intro f t ft a r h
   obtain ⟨J,E,F⟩:=BX (defs:=defs) (n:=n) (f:=f) (t:=t) (i:=i) (l:=l)
   cases z:hA defs n f (zw t i) with
   |error e=>grind
   |ok p=>
    obtain ⟨b,s⟩:=p
    obtain ⟨fb,hs⟩:=j f _ (S5 ft i) b s z
    cases hb:oS b (zw t i) with
    |true=>rw [E b s z hb] at h;obtain ⟨A,q2⟩:=x s t ft a r h;grind
    |false=>rw [F b s z hb] at h;obtain ⟨A,q2⟩:=j s _ (hD ft fb) a r h;grind
 intro n
 induction n with
 |zero=>
  grind [ka,ox]
 |succ n x=>
  have h1: ∀f t,JT t->ka f (hA defs (n+1) f t):=by
   intro f t jt a r h
   have h:ox (nf defs) Mi 220 (n+1) f t= .ok (a,r):=h
   rw [ox] at h
   split at h
   ·cases h
   rename_i c1
   split at h
   ·rename_i c2;exact x.2 _ f t ⟨jt.1,u6 c2.2⟩ a r h
   rename_i c2
   split at h
   ·cases h
   rename_i c3
   have L:(nf defs t).2.2=0:=Decidable.byContradiction fun q=>c1 ⟨q,c3⟩
   have I:(nf defs t).2.1=true:=by
    grind
   obtain ⟨A,q2⟩:=x.1 (f-1) _ (Iw (hd.isIn hk) jt.1 I).1.jt a r h
   grind
  grind
theorem aGI {defs:List Df} (hd:RJ defs): ∀n k m,n<=m->4294970296+n<=k-> ∀f t,f<=100000->JT t->hA defs n f t≠ .error 0->
  ∃R,Q3 (hA defs n f t) R/\ ∀I:sH (Int×Int) (Tm×Int)->OS S,Sc (FG k) k I defs m (f:Int) t=I R:=by
 intro n
 induction n with
 |zero=>grind [ox]
 |succ n ih=>
  intro k m hm ax f t hf jt h
  have O:F4 k:=by omega
  have hk:=O.f3
  obtain ⟨m,rfl⟩: ∃j,m=j+1:=⟨m-1,by omega⟩
  have hL:=ih k m (by omega) (by omega)
  change ox (nf defs) Mi 220 (n+1) f t≠_ at h
  change ∃R,Q3 (ox (nf defs) Mi 220 (n+1) f t) R/\_
  rw [ox] at h ⊢
  simp only [Sc,ayZ,ag hk.fu,ar,aIB O (hd.isIn hk) (jt.isIn hk) (show (0:Int)<=(f:Int)/\(f:Int)<=100000 by omega)]
  by_cases c1:(nf defs t).2.2≠0/\f≠0
  ·have J:Sa defs t (f:Int)= .gF ((nf defs t).2.2,(f:Int)):=by
    grind [Sa]
   rw [if_pos c1,J]
   exact ⟨.gF ((nf defs t).2.2,(f:Int)),⟨_,rfl⟩,fun _=>rfl⟩
  have az: ¬((nf defs t).2.2≠0/\(0:Int)<(f:Int)):=fun q=>c1 ⟨q.1,by omega⟩
  rw [if_neg c1] at h ⊢
  by_cases c2:(nf defs t).2.1=false/\(nf defs t).2.2=0
  ·have J:Sa defs t (f:Int)= .ok (t,false,(f:Int)):=by
    grind [Sa]
   rw [if_pos c2] at h ⊢
   rw [J]
   have ft:Fm t:=⟨jt.1,u6 c2.2⟩
   have hK: ∀i z,z<=100000->hA defs n z (zw t i)≠ .error 0->i<t.c.length-> ∃R,Q3 (hA defs n z (zw t i)) R/\ ∀g:sH (Int×Int) (Tm×Bool×Int)->OS S,SE (FG k) k t (i:Int) defs (z:Int) g=g (ayO t i (zw t i) R):=by
    intro i z E F hi
    obtain ⟨j,rfl⟩: ∃j,k=j+1:=⟨k-1,by omega⟩
    obtain ⟨R,B,q2⟩:=ih j j (by omega) (by omega) z (zw t i) E (S5 ft i) F
    have fR: ∀a c,R= .ok (a,c)->Fm a:=by
     intro a c e
     cases M:hA defs n z (zw t i) with
     |error e'=>rw [M] at B;obtain ⟨c',B⟩:=B;grind
     |ok p=>
      rw [M] at B
      have B:R= .ok (p.1,(p.2:Int)):=B
      rw [B] at e
      injection e with e;injection e with e1 e2
      exact e1▸(((lz hd n).1 z _ (S5 ft i)) p.1 p.2 M).1
    refine ⟨R,B,fun g=> ?_⟩
    have hh: ∀g,FG (j+1) (zw t i) defs (z:Int) g=g R:=fun g=>by
     rw [<-q2 g]
     simp only [FG,iB,ar]
    rw [aIM (hd:=FG (j+1)) hk ft (bD:=zw t i) (zh rfl hi).1 (R:=R) hh fR g]
    cases R<;>rfl
   have hE: ∀z,∃R',Q3 (hP defs n z t []) R'/\ ∀I:sH (Int×Int) (Tm×Int)->OS S,I (.ok (t,(z:Int)))=I R':=fun z=>by
    simp_all [Q3,Mk]
   have ao: ∀i z a r,hA defs n z (zw t i)= .ok (a,r)->Fm a/\r<=z:=fun i z a r h=>((lz hd n).1 z _ (S5 ft i)) a r h
   have F: ∀i l z,hP defs n z t (i::l)≠ .error 0->hA defs n z (zw t i)≠ .error 0:=fun i l z h q=>h (BX.1 0 q)
   have T: ∀i z,z<=100000-> ∀a r,hA defs n z (zw t i)= .ok (a,r)->hA defs n r (atR t i a)≠ .error 0->
     ∃R',Q3 (hA defs n r (atR t i a)) R'/\ ∀I:sH (Int×Int) (Tm×Int)->OS S,Sc (FG k) k I defs m (r:Int) (atR t i a)=I R':=
    fun i z E a r M hn=>hL r _ (by grind) (hD ft (ao i z a r M).1) hn
   have W: ∀z,z<=100000->hP defs n z t (if t.k=14/\(kd0 t).k=23 then [1] else [])≠ .error 0->
     ∃R',Q3 (hP defs n z t (if t.k=14/\(kd0 t).k=23 then [1] else [])) R'/\ ∀I:sH (Int×Int) (Tm×Int)->OS S,
      (ab (t.k==14) ((af t.c 0).bind fun x8=>ab (x8.k==23) (SE (FG k) k t 1 defs (z:Int) fun A=>sH.elim A (fun A=>ab A.2.1 (Sc (FG k) k I defs m A.2.2 A.1) (I (.ok (t,A.2.2)))) fun e=>I (.gF (e.1,e.2))) (I (.ok (t,(z:Int))))) (I (.ok (t,(z:Int)))))=I R':=by
    intro z E h
    by_cases Y:t.k=14
    ·have hl:t.c.length=2:=E5 ft Y rfl
     have hg:af t.c 0=some (kd0 t):=(zh (i:=0) hl (by omega)).1
     simp only [Y,hg,rf,show ((14:Int)==14)=true from rfl,ae,true_and] at h ⊢
     by_cases ad:(kd0 t).k=23
     ·rw [if_pos ad] at h ⊢
      simp only [ad,show ((23:Int)==23)=true from rfl,ae]
      obtain ⟨R,B,q2⟩:=hK 1 z E (F 1 [] z h) (by omega)
      exact xl (L:=fun I r x=>Sc (FG k) k I defs m r x) (N:=fun I r=>I (.ok (t,r))) B q2 (T 1 z E) (fun a r _ _=>hE r) h
     simp_all [n3,beq_false_of_ne]
    simp_all [n3,beq_false_of_ne]
   have hM:0<=L0 t->(L0 t).toNat<t.c.length:=by
    intro h0
    have a6:=ft.nk
    unfold L0 HE at h0 ⊢
    rw [if_neg (by omega)] at h0 ⊢
    split at h0
    ·rename_i q
     have:0<ct t.k:=by rcases q with q|q|q|q|q|q|q<;>rw [q]<;>decide
     omega
    ·rename_i q
     rw [if_neg q]
     split at h0
     ·rename_i q2
      have:3<ct t.k:=by rw [q2];decide
      omega
     ·rename_i q2
      rw [if_neg q2]
      split at h0
      ·rename_i q3
       have:4<ct t.k:=by rw [q3];decide
       omega
      ·omega
   change Mk (nf defs) Mi 220 n f t (Mi t)≠_ at h
   simp only [sH.elim,n3,aIs hk]
   unfold Mi at h ⊢
   by_cases c:0<=L0 t
   ·rw [if_pos c] at h ⊢
    have hi:=hM c
    obtain ⟨R,B,q2⟩:=hK (L0 t).toNat f hf (F _ _ f h) hi
    have hc:(((L0 t).toNat:Nat):Int)=L0 t:=by omega
    rw [hc] at q2
    simp only [decide_eq_true (show L0 t>=0 from c),ae]
    exact xl (L:=fun I r x=>Sc (FG k) k I defs m r x) (N:=fun I r=>ab (t.k==14) ((af t.c 0).bind fun x8=>ab (x8.k==23) (SE (FG k) k t 1 defs r fun A=>sH.elim A (fun A=>ab A.2.1 (Sc (FG k) k I defs m A.2.2 A.1) (I (.ok (t,A.2.2)))) fun e=>I (.gF (e.1,e.2))) (I (.ok (t,r)))) (I (.ok (t,r)))) B q2 (T _ f hf) (fun a r M hn=>W r (by grind) hn) h
   ·rw [if_neg c] at h ⊢
    simp only [decide_eq_false (show ¬(L0 t>=0) from c),n3]
    exact W f hf h
  rw [if_neg c2] at h ⊢
  by_cases c3:f=0
  ·have J:Sa defs t (f:Int)= .gF (220,(f:Int)):=by
    grind [Sa]
   rw [if_pos c3,J]
   exact ⟨.gF (220,(f:Int)),⟨_,rfl⟩,fun _=>rfl⟩
  rw [if_neg c3] at h ⊢
  have J:Sa defs t (f:Int)= .ok ((nf defs t).1,true,(f:Int)-1):=by
   grind [Sa]
  have e0:(nf defs t).2.2=0:=Decidable.byContradiction fun q=>c1 ⟨q,c3⟩
  have e1:(nf defs t).2.1=true:=by
   grind
  obtain ⟨R,B,q2⟩:=hL (f-1) _ (by omega) (Iw (hd.isIn hk) jt.1 e1).1.jt h
  refine ⟨R,B,fun I=> ?_⟩
  rw [<-q2 I,show ((f-1:Nat):Int)=(f:Int)-1 by omega,J]
  rfl
end
section
variable {st:Tm->Tm×Bool×Int} {pl:Tm->List Nat} {eF:Int}
theorem aF7: ∀ (n:Nat),(∀f t a r,ox st pl eF n f t= .ok (a,r)->r<=f/\(r=f->a=t))/\
  ∀ (l:List Nat) f t a r,Mk st pl eF n f t l= .ok (a,r)->r<=f/\(r=f->a=t):=by
 have hP: ∀n,(∀f t a r,ox st pl eF n f t= .ok (a,r)->r<=f/\(r=f->a=t))-> ∀ (l:List Nat) f t a r,Mk st pl eF n f t l= .ok (a,r)->r<=f/\(r=f->a=t):=by
  intro n hA l
  induction l<;>grind [Mk]
 intro n
 induction n<;>grind [ox]
end
section
variable {S:Type} {k:Nat}
theorem aHf {t:Tm} (ft:Fm t) {i:Nat} (h:i∈Mi t):i<t.c.length:=by
 have x:=ft.nk
 unfold Mi at h
 rcases zx.1 h with h|h
 ·split at h
  ·rename_i j
   obtain rfl:i=(L0 t).toNat:=by grind
   unfold L0 HE at j ⊢
   rw [if_neg (by omega)] at j ⊢
   split at j
   ·rename_i q
    have:0<ct t.k:=by rcases q with q|q|q|q|q|q|q<;>rw [q]<;>decide
    omega
   ·rename_i q
    rw [if_neg q]
    split at j
    ·rename_i q2
     have:3<ct t.k:=by rw [q2];decide
     omega
    ·rename_i q2
     rw [if_neg q2]
     split at j
     ·rename_i z
      have:4<ct t.k:=by rw [z];decide
      omega
     ·omega
  simp_all
 ·split at h
  ·rename_i j
   obtain rfl:i=1:=by grind
   have:t.c.length=2:=E5 ft j.1 rfl
   omega
  simp_all
theorem aGH {t:Tm} {i:Nat} (h:i<t.c.length):am (zw t i)+1<=am t:=by
 have j:t.c.getD i pX∈t.c:=(zh rfl h).2
 exact bY j
theorem aFK {defs:List Df} (hd:RJ defs): ∀n f t,JT t->f*301+am t+1<=n->hA defs n f t≠ .error 0:=by
 intro n
 induction n with
 |zero=>simp
 |succ n A=>
  intro f t jt hn h
  have h:ox (nf defs) Mi 220 (n+1) f t= .error 0:=h
  rw [ox] at h
  split at h
  ·grind
  rename_i c1
  split at h
  ·rename_i c2
   have ft:Fm t:=⟨jt.1,u6 c2.2⟩
   have B:=jt.2.1
   have key: ∀l:List Nat,(∀i∈l,i<t.c.length)-> ∀j,j<=f->hP defs n j t l≠ .error 0:=by
    intro l
    induction l with
    |nil=>
     grind [Mk]
    |cons i l E=>
     intro hl j x q
     have T:=aGH (hl i (by simp))
     have W:j*301<=f*301:=Iq _ x
     have F:=A j (zw t i) (S5 ft i) (by omega)
     obtain ⟨Y,p2,I⟩:=BX (defs:=defs) (n:=n) (f:=j) (t:=t) (i:=i) (l:=l)
     cases z:hA defs n j (zw t i) with
     |error e=>grind
     |ok p=>
      obtain ⟨b,s⟩:=p
      obtain ⟨fb,hs⟩:=(lz hd n).1 j _ (S5 ft i) b s z
      cases hb:oS b (zw t i) with
      |true=>grind
      |false=>
       rw [I b s z hb] at q
       have J:s≠j:=fun e=>by
        have:=((aF7 n).1 _ _ _ _ z).2 e
        grind [oS]
       have L:=hD (i:=i) ft fb
       have:=L.2.1
       grind
   grind [aHf]
  rename_i c2
  split at h
  ·grind
  rename_i c3
  have e0:(nf defs t).2.2=0:=Decidable.byContradiction fun q=>c1 ⟨q,c3⟩
  have M:(nf defs t).2.1=true:=by
   grind
  have O:=(Iw (hd.isIn Bl.f3) jt.1 M).1.jt
  have:=O.2.1
  grind
def nH:Nat:=40000000
theorem aAZ {defs:List Df} (hd:RJ defs) {f:Nat} (hf:f<=100000) {t:Tm} (jt:JT t):hA defs nH f t≠ .error 0:=
 aFK hd nH f t jt (by have:=jt.2.1;unfold nH;omega)
noncomputable def rL (defs:List Df) (f:Nat) (t:Tm):Tm×Int×Int:=match hA defs nH f t with
 | .ok p=>(p.1,(p.2:Int),0)
 | .error e=>(pX,0,e)
noncomputable def A' (defs:List Df) (t:Tm) (f:Int):Tm×Int×Int:=
 if bw t≠0 then (pX,0,bw t) else if f<0\/100000<f then (pX,0,2) else rL defs f.toNat t
end
section
variable {k:Nat}
variable {V D:Int} {t:Tm} {defs:List Df}
theorem K' {r s:Tm×Bool×Int} (h:b7 V D r) (hs:b7 V D s):b7 V D (aux r s):=jc (fun _=>h) fun _=>hs
theorem aSK (hd:H4 k defs) (j:0<=V) (x:0<=D):b7 V D (if (IA defs t).2=true then ((IA defs t).1,true,0) else (pX,false,0)):=by
 refine jc (fun h _ _=> ?_) fun _=>Hv _
 show fz V D (IA defs t).1
 unfold IA at h ⊢
 by_cases h2:t.k=2
 ·rw [if_pos h2] at h ⊢
  cases hf:defs.find? fun d=>decide (d.name=t.name) with
  |none=>grind
  |some d=>
   rw [hf] at h
   have h:(MC d.body 0 0==0)=true:=h
   obtain ⟨_,_,q⟩:=aoN (by simpa using h)
   exact aRb d.body (hd.2 d (List.mem_of_find?_eq_some hf)).1 (aoD _ q) (.inr ⟨by decide,j⟩) x
 grind
theorem aSE (hk:F3 k) (hd:H4 k defs) (ft:Fm t) (h:0<=V) (j:0<=D) (s:fz V D t):b7 V D (nf defs t):=
 jc (fun _=>Hv _) fun _=>K' (aRU ft h j s) (K' (aR2 hk ft h j s) (K' (aSJ hk ft h j s) (K' (aSe hk ft h j s) (aSK hd h j))))
theorem aRD {kd:Int} {u:Tm}: ∀ {l:LT} {i j:Nat},bO false V D kd i l=true->fz (cQ V (tZ kd ((i+j:Nat):Int))) (D+bJ kd ((i+j:Nat):Int)) u->bO false V D kd i (l.set j u)=true:=by
 intro l
 induction l with
 |nil=>grind
 |cons x l q=>
  intro i j h hu
  rw [bO,qC] at h
  cases j<;>grind [bO]
theorem aSZ {u:Tm} {i:Nat} (s:fz V D t) (hu:fz (cQ V (tZ t.k (i:Int))) (D+bJ t.k (i:Int)) u):fz V D (atR t i u):=by
 obtain ⟨h1,h2,h⟩:=MW s
 obtain ⟨kd,n,j,r,q,sys⟩:=t
 refine Tk ?_ (aRD h1 (by grind)) h2
 grind [cL,Tm.c,Tm.k,Tm.n,Tm.name,Tm.r,Tm.s]
theorem aSf (hd:RJ defs): ∀n,(∀f t a r (V D:Int),0<=V->0<=D->JT t->fz V D t->hA defs n f t= .ok (a,r)->fz V D a)/\
  ∀l f t a r (V D:Int),0<=V->0<=D->Fm t->(∀i∈l,i<t.c.length)->fz V D t->hP defs n f t l= .ok (a,r)->fz V D a:=by
 have hk:F3 4294970296:=Bl.f3
 have J: ∀n,(∀f t a r (V D:Int),0<=V->0<=D->JT t->fz V D t->hA defs n f t= .ok (a,r)->fz V D a)-> ∀l f t a r (V D:Int),0<=V->0<=D->Fm t->(∀i∈l,i<t.c.length)->fz V D t->hP defs n f t l= .ok (a,r)->fz V D a:=by
  intro n x l
  induction l with
  |nil=>
   grind [Mk]
  |cons i l E=>
   intro f t a r V D j z ft hl s h
   have L:=hl i (by simp)
   change Mk (nf defs) Mi 220 n f t (i::l)=_ at h
   rw [Mk] at h
   cases A:ox (nf defs) Mi 220 n f (zw t i) with
   |error e=>grind
   |ok p=>
    obtain ⟨u,F⟩:=p
    rw [A] at h
    have B:=g7 t.k (i:Int)
    have O:=gr t.k (i:Int)
    have M:fz (cQ V (tZ t.k (i:Int))) (D+bJ t.k (i:Int)) (zw t i):=by
     have:=ml (MW s).1 (i:=0) L
     rw [FF] at this;exact this
    have T:=x f (zw t i) u F _ _ (by rw [ib j];omega) (by omega) (S5 ft i) M A
    have fu:=((lz hd n).1 f _ (S5 ft i) u F A).1
    grind [hD,aSZ]
 intro n
 induction n with
 |zero=>
  grind [ox]
 |succ n E=>
  have h1: ∀f t a r (V D:Int),0<=V->0<=D->JT t->fz V D t->hA defs (n+1) f t= .ok (a,r)->fz V D a:=by
   intro f t a r V D j z jt s h
   change ox (nf defs) Mi 220 (n+1) f t=_ at h
   rw [ox] at h
   by_cases c1:(nf defs t).2.2≠0/\f≠0
   ·grind
   rw [if_neg c1] at h
   by_cases c2:(nf defs t).2.1=false/\(nf defs t).2.2=0
   ·rw [if_pos c2] at h
    have ft:Fm t:=⟨jt.1,u6 c2.2⟩
    grind [aHf]
   rw [if_neg c2] at h
   by_cases hf:f=0
   ·grind
   rw [if_neg hf] at h
   have I:(nf defs t).2.2=0:=Decidable.not_not.1 fun q=>c1 ⟨q,hf⟩
   have B:(nf defs t).2.1=true:=by
    grind
   have ft:Fm t:=⟨jt.1,u6 I⟩
   have fx:=(Iw (hd.isIn hk) jt.1 B).1
   exact E.1 (f-1) _ a r V D j z fx.jt (aSE hk (hd.isIn hk) ft j z s B I) h
  grind
end
section
variable {S:Type} {k:Nat}
def F5 (k:Nat):Prop:=4500000000<=k
theorem F5.f4 (h:F5 k):F4 k:=by grind [F5]
theorem F5.f3 (h:F5 k):F3 k:=h.f4.f3
theorem aIq (E:4294970296+nH<k) {defs:List Df} (hd:RJ defs) {t:Tm} (h:In k t) {f:Int} (I:Tm×Int×Int->OS S):TU k defs t f I=I (A' defs t f):=by
 have z:F4 k:=by omega
 have hk:=z.f3
 simp only [TU,ag hk.fu,ar,E9 h.1 h.2.1 h.dep]
 unfold A'
 by_cases x:bw t=0
 case neg=>rw [dj x,ub,ae,if_pos x];rfl
 rw [x,show (!((0:Int)==0))=false from rfl,n3,if_neg (by simp)]
 by_cases h1:f<0
 ·rw [decide_eq_true h1,ae,if_pos (.inl h1)];rfl
 rw [decide_eq_false h1,n3]
 by_cases h2:100000<f
 ·rw [decide_eq_true (show f>100000 from h2),ae,if_pos (.inr h2)];rfl
 rw [decide_eq_false (show ¬f>100000 from h2),n3,if_neg (by omega),vU t h.1 _ h.2.1]
 have jt:JT t:=Fm.jt ⟨h.1,x⟩
 obtain ⟨j,rfl⟩: ∃j,k=j+1:=⟨k-1,by omega⟩
 obtain ⟨R,q,q2⟩:=aGI (S:=S) hd nH j j (by omega) (by omega) f.toNat t (by omega) jt (aAZ hd (by omega) jt)
 have B: ∀g,FG (j+1) t defs f g=g R:=fun g=>by
  rw [<-q2 g,show ((f.toNat:Nat):Int)=f by omega]
  simp only [FG,iB,ar]
 rw [B]
 unfold rL
 cases A:hA defs nH f.toNat t with
 |ok p=>rw [A] at q;rw [show R= .ok (p.1,(p.2:Int)) from q];rfl
 |error e=>rw [A] at q;obtain ⟨c,q⟩:=q;rw [q];rfl
theorem aIp (j:F5 k) {defs:List Df} (hd:RJ defs) {t:Tm} (h:In k t) {f:Int} (I:Tm×Int×Int->OS S):TU k defs t f I=I (A' defs t f):=
 aIq (by grind [F5,nH]) hd h I
theorem aIi (hk:F3 k) {t:Tm} (h:In k t) (I:Bool->OS S): ∃c,q' k t I=I c/\(c=false->au t<=100):=by
 simp only [q',ar]
 obtain ⟨w,h1,h2,j,q⟩:=aDd t h.1 100 (by unfold Mo;omega) (fun r1=>I (decide (r1>100))) h.2.1
 grind
theorem aIj (hk:F3 k) {t:Tm} (h:In k t) (I:Bool->OS S): ∃c,hS k t I=I c/\(c=false->au t<=80):=by
 simp only [hS,ar]
 obtain ⟨w,h1,h2,j,q⟩:=aDd t h.1 80 (by unfold Mo;omega) (fun r1=>I (decide (r1>80))) h.2.1
 grind
theorem aGW (hk:F3 k) (I:Bool->OS S) {l:List Df} (hl:H4 k l):
  ∀ (r p:List Df) (m:Nat),l=p++r->r.length<m-> ∃c,TJ k I l m (p.length:Int)=I c/\(c=false-> ∀d∈r,au d.body<=100):=by
 intro r
 induction r with
 |nil=>
  intro p m h j
  obtain ⟨m,rfl,q⟩:=qI j
  simp_all [TJ,w3,n3]
 |cons x r L=>
  intro p m h j
  obtain ⟨m,rfl,q⟩:=qI j
  have z:=hl.1
  obtain ⟨A,B,E,M⟩:=sX h (by omega)
  have F:=hl.2 x (by grind)
  simp only [TJ,w3,A,ae,B,rf,ag hk.fu,ar,E]
  obtain ⟨c,c1,c2⟩:=aIi hk F (fun J=>ab J (I true) (ab (decide ((x.name.size:Int)>50)) (I true) (TJ k I l m ((p++[x]).length:Int))))
  rw [c1]
  cases c<;>grind [ae,n3,decide_eq_false]
theorem aIr (hk:F3 k) {l:List Df} (hl:H4 k l) (I:Bool->OS S): ∃c,k2 k l I=I c/\(c=false->l.length<=8/\RJ l/\ ∀d∈l,au d.body<=100):=by
 simp only [k2,aAk]
 by_cases j:(l.length:Int)>8
 ·simp_all [ae]
 rw [decide_eq_false j,n3]
 have q:4294968296<=k:=hk
 obtain ⟨c,h1,h2⟩:=aGW hk I hl l [] k rfl (by omega)
 exact ⟨c,h1,fun h=>⟨by omega,⟨by omega,fun d hd=>⟨(hl.2 d hd).1,by grind [zG],by grind⟩⟩,h2 h⟩⟩
theorem aGN (I:List Df->OS S) {l:List Df} (hl:l.length<1073741824):
  ∀ (r p:List Df) (m:Nat),l=p++r->r.length<m->gv k I l m p (p.length:Int)=I l:=by
 intro r
 induction r with
 |nil=>
  grind [qI,gv,v',n3]
 |cons x r z=>
  intro p m h j
  obtain ⟨m,rfl,q⟩:=qI j
  obtain ⟨A,B,E,F⟩:=sX h (by omega)
  grind [gv,v',ae,aFO,J5]
theorem aH6 (hk:F3 k) {l:List Df} (hl:l.length<1073741824) (I:List Df->OS S):p1 k l I=I l:=by
 simp only [p1,aAj]
 have h:4294968296<=k:=hk
 exact aGN I hl l [] k rfl (by omega)
theorem aJk {S:Type} (q:Nat) (I:Bool->OS S):j' (q+400) I=I true:=by kernel_rfl
theorem aIN (hk:F3 k) (I:Bool->OS S):j' k I=I true:=by
 have h:4294968296<=k:=hk
 obtain ⟨q,rfl⟩: ∃q,k=q+400:=⟨k-400,by omega⟩
 exact aJk q I
theorem aF8 {defs:List Df} (hd:RJ defs) {t:Tm} (h:p9 t) {f:Int} (hk:F3 k):In k (A' defs t f).1:=by
 unfold A'
 split
 ·exact gQ hk
 split
 ·exact gQ hk
 rename_i j _
 unfold rL
 cases q:hA defs nH f.toNat t with
 |error e=>exact gQ hk
 |ok p=>exact (((lz hd nH).1 _ t (Fm.jt ⟨h,Decidable.not_not.1 j⟩)) p.1 p.2 q).1.isIn hk
theorem azU (hk:F3 k) {t:Tm} (h:In k t) (I:Bool->OS S):d8 k t t I=I true:=RQ t h.1 I h.2.1
section
variable {hd:Tm->(Int->OS S)->OS S} {t:Tm}
theorem aSn (hk:Fu k) (I:Int->OS S) (j:Int->Int->OS S) {v:Int} {x:Br Tm} (B: ∀y∈x.c,ja hd y) (hl:x.c.length<1073741824):
  ∀ (r p:LT) (m:Nat) (a:Int),x.c=p++r->r.length<m->0<=a->a+KU r<4611686018427387904->W8 hd k I j t v x m a (p.length:Int)=j (a+KU r) (p5 .i64 (v+1)):=by
 intro r
 induction r with
 |nil=>
  intro p m a h z ha A
  obtain ⟨m,rfl,q⟩:=qI z
  simp only [W8,P',zt h,n3,KU]
  rw [xm]
 |cons y r E=>
  intro p m a h z ha A
  obtain ⟨m,rfl,q⟩:=qI z
  obtain ⟨F,J,L,M⟩:=sX h (by omega)
  have q2:=B y (by rw [h];simp)
  have:=hN y
  have:=aon r
  rw [KU] at A
  simp only [W8,P',F,ae,J,rf,ar,q2 _,L,xi (show-9223372036854775808<=1+dH y by omega) (by omega),xi (show-9223372036854775808<=a+(1+dH y) by omega) (by omega)]
  rw [E _ m _ M q (by omega) (by omega),KU,Int.add_assoc]
theorem aSm (hk:Fu k) (I:Int->OS S) (E: ∀b∈t.s,∀y∈b.c,ja hd y) (q:p9 t):
  ∀ (r p:LB) (m:Nat) (a:Int),t.s=p++r->r.length<m->0<=a->a+Ia r<4611686018427387904->SQ hd k I t m a (p.length:Int)=I (a+Ia r):=by
 obtain ⟨W,Y,o3,o4,o5,o6,o7⟩:=q.no
 intro r
 induction r with
 |nil=>
  intro p m a h z ha B
  obtain ⟨m,rfl,j⟩:=qI z
  simp only [SQ,gx,zt h,n3,Ia]
  rw [xm]
 |cons x r F=>
  intro p m a h z ha B
  obtain ⟨m,rfl,j⟩:=qI z
  obtain ⟨J,L,M,O⟩:=sX h (by omega)
  have A:x∈t.s:=by rw [h];simp
  rw [nP] at B
  have hp:=aon x.c
  have T:=l9 r
  have:=aSn (t:=t) hk I (SQ hd k I t m) (v:=(p.length:Int)) (E x A) (q.bi A).1.2.2 x.c [] k a rfl (by have:=(q.bi A).1.2.2;have:4294967296<=k:=hk;omega) ha (by omega)
  simp only [List.length_nil] at this
  simp only [SQ,gx,J,ae,L,rf]
  refine qy this ?_
  rw [M,F _ m _ O j (by omega) (by omega),nP,Int.add_assoc]
theorem aSl (hk:Fu k) (I:Int->OS S) (B: ∀y∈t.c,ja hd y) (q: ∀b∈t.s,∀y∈b.c,ja hd y) (A:p9 t):
  ∀ (r p:LT) (m:Nat) (a:Int),t.c=p++r->r.length<m->0<=a->a+dU t.k p.length r+Ia t.s<4611686018427387904->e8 hd k I t m (p.length:Int) a=I (a+dU t.k p.length r+Ia t.s):=by
 obtain ⟨T,W,Y,o4,o5,o6,o7⟩:=A.no
 intro r
 induction r with
 |nil=>
  intro p m a h x ha z
  obtain ⟨m,rfl,j⟩:=qI x
  rw [dU] at z
  simp only [e8,s6,zt h,n3,dU]
  have hs:=aSm hk I q A t.s [] k a rfl (by have:4294967296<=k:=hk;omega) ha (by omega)
  simp only [List.length_nil] at hs
  refine qy hs ?_
  rw [xm]
 |cons y r E=>
  intro p m a h x ha z
  obtain ⟨m,rfl,j⟩:=qI x
  obtain ⟨F,J,L,M⟩:=sX h (by omega)
  have q2:=B y (by rw [h];simp)
  have:=hN y
  have hb:=gr t.k p.length
  have O:=mu t.k r (p.length+1)
  have hs:=l9 t.s
  rw [dU] at z
  have:=E (p++[y]) m (a+(bJ t.k p.length+dH y)) M j (by omega) (by rw [Is,List.length_singleton];omega)
  simp only [e8,s6,F,ae,J,rf,ag hk,jE,ar,q2 _,L,xi (show-9223372036854775808<=bJ t.k p.length+dH y by omega) (by omega),xi (show-9223372036854775808<=a+(bJ t.k p.length+dH y) by omega) (by omega)]
  rw [this,dU,Is,List.length_singleton]
  exact congrArg I (by omega)
end
theorem aQD (t:Tm):p9 t-> ∀ {k:Nat} (I:Int->OS S),Fd k (am t)->(au t:Int)<1099511627776->L8 k t I=I (dH t):=by
 induction t using c7 with
 |h t z A=>
  intro x k I hk F
  obtain ⟨q,rfl,E,hf⟩:=hk.pos' (HX t)
  obtain ⟨M,O,T,W,Y,o6,o7⟩:=x.no
  have hz:=Hl t
  have J: ∀y∈t.c,ja (S:=S) (L8 q) y:=fun y j g=>z y j (x.ki j) g (hf _ (bY j)) (by have:=k_ j;omega)
  have B: ∀b∈t.s,∀y∈b.c,ja (S:=S) (L8 q) y:=fun b hb y j g=>A b hb y j ((x.bi hb).2 y j) g (hf _ (b8 hb j)) (by have:=we hb;have:=k_ j;omega)
  have L:=(jb t).2
  have e:dH t=dU t.k 0 t.c+Ia t.s:=by cases t;rw [dH];rfl
  have:=aSl E I J B x t.c [] q 0 rfl (by have:4294967296<=q:=E;omega) (BF 0) (by simp only [List.length_nil];omega)
  simp only [List.length_nil] at this
  simp only [L8,aQG]
  refine qy this ?_
  rw [e,Int.zero_add]
theorem aSo (hk:F3 k) (I:Int->OS S) {defs:List Df} (hd:H4 k defs) (B: ∀d∈defs,au d.body<=100): ∀ (r p:List Df) (m:Nat) (a:Int),defs=p++r->r.length<m-> ∃v,pg k I defs m a (p.length:Int)=I v:=by
 intro r
 induction r with
 |nil=>
  intro p m a h q
  obtain ⟨m,rfl,j⟩:=qI q
  simp only [pg,x',zt h,n3]
  grind
 |cons x r E=>
  intro p m a h q
  obtain ⟨m,rfl,j⟩:=qI q
  have hl:=hd.1
  obtain ⟨F,J,L,M⟩:=sX h (by omega)
  have z:x∈defs:=by grind
  have A:=hd.2 x z
  have hs:=B x z
  simp only [pg,x',F,ae,J,rf,ar,L]
  rw [aQD x.body A.1 _ A.2.1 (by omega)]
  exact E _ m _ M j
theorem aSB (hk:F3 k) {defs:List Df} (hd:H4 k defs) (h: ∀d∈defs,au d.body<=100) (I:Int->OS S): ∃v,ee k defs I=I v:=by
 simp only [ee,aQH]
 have j:4294968296<=k:=hk
 exact aSo hk I hd h defs [] k 0 rfl (by have:=hd.1;omega)
theorem aSb (n:Int):0<=p5 .i64 (Int.tmod (p5 .u64 n) 4)/\p5 .i64 (Int.tmod (p5 .u64 n) 4)<=3:=by
 have h:0<=p5 .u64 n:=by
  show 0<=n%18446744073709551616
  omega
 grind [xi]
theorem aSA (B:F5 k) {defs:List Df} (hd:H4 k defs) {t:Tm} (h:In k t) {V D fuel:Int} (E:aG V) (F:aG D) (h1:aG fuel) (I:Bool->OS S):dd k defs t V D fuel I=I true:=by
 have hk:=B.f3
 simp only [dd,ag hk.fu,ar,aIN hk,xJ,n3]
 generalize j:(fun J:Bool=>ab J (I true) _)=R
 obtain ⟨c,c1,L⟩:=aIj hk h R
 refine c1.trans ?_
 rw [<-j]
 cases c with
 |true=>rfl
 |false=>
 have hz:=L rfl
 dsimp only
 rw [n3]
 generalize j:(fun M:Bool=>ab M (I true) _)=R
 obtain ⟨c,c1,c2⟩:=aIr hk hd R
 refine c1.trans ?_
 rw [<-j]
 cases c with
 |true=>rfl
 |false=>
 dsimp only
 obtain ⟨_,hj,A⟩:=c2 rfl
 rw [n3,aY]
 split
 ·rfl
 rename_i O
 rw [aQD t h.1 _ h.2.1 (by omega),aY]
 split
 ·rfl
 unfold aG at E F
 rw [nK h hk (by omega) (by omega)]
 by_cases z:MC t V D=0
 case neg=>rw [show (MC t V D==0)=false from beq_false_of_ne z];rfl
 rw [z,show (!((0:Int)==0))=false from rfl,n3]
 have ft:=apu h z
 obtain ⟨v0,d0,hs⟩:=aoN z
 generalize j:(fun T:Int=>ab (decide (T>3)) (I true) _)=R
 obtain ⟨v,hv⟩:=aSB hk hd A R
 refine hv.trans ?_
 rw [<-j]
 dsimp only
 rw [aY]
 split
 ·rfl
 rw [aH6 hk hd.1,aIp B hj h]
 obtain ⟨n0,W⟩:=aSb fuel
 generalize p5 .i64 (Int.tmod (p5 .u64 fuel) 4)=n at n0 W ⊢
 have i1:=aF8 (f:=n) hj h.1 hk
 unfold A' rL at i1 ⊢
 rw [if_neg (by simp [ft.2]),if_neg (by omega)] at i1 ⊢
 cases x:hA defs nH n.toNat t with
 |error e=>
  rw [x] at i1
  have he:e≠0:=fun q=>aAZ (f:=n.toNat) hj (by omega) ft.jt (by rw [x,q])
  dsimp only at i1 ⊢
  rw [dj he,ub,ae]
  exact azU hk i1 _
 |ok p=>
  obtain ⟨a,r⟩:=p
  rw [x] at i1
  dsimp only at i1 ⊢
  have fa:=(((lz hj nH).1 _ t ft.jt) a r x).1
  have Y:=(aSf hj nH).1 _ _ _ _ V D v0 d0 ft.jt (aoD t hs) x
  rw [show (!((0:Int)==0))=false from rfl,n3,nK i1 hk (by omega) (by omega)]
  unfold MC
  rw [if_neg (by omega),if_neg (by have:=fa.dep;omega),if_neg (by have:=fa.eO;omega)]
  by_cases hT:rP true V D a=true
  ·rw [if_pos hT];rfl
  rw [if_neg hT,show ((100:Int)==0)=false from rfl,n3,show ((100:Int)==100)=true from rfl,ae,aQD a i1.1 _ i1.2.1 (by have:=fa.eO;omega)]
  have hb:dH a>12:=Decidable.byContradiction fun q=>hT (aqj a Y (by have:=(jb a).2;have:=(jb a).1;omega))
  grind
end
section
open Go PI Go.ChangeShapes Go.WideShapes Go.ChangeAt Go.RowKit
section
variable {H:Type} {enc:TypeId×Value->H} {w:World} {base:Nat} {spare:Nat->Bool} {held:Bool} {o:Obj} {N:aN} {g:Gh UU}
def QDf (x:Df) (d:DataW H):Prop:=QT x.body d
theorem aG9 (A: ∀b o,¬N b o) (n:Nat) (cs:List Value) (d:DataW H) (pl:List MemPlace) (h:jG enc w base spare held n 52 cs=some (d,pl)): ∃x:EL ET.G,oM o w N g ET.G x cs/\QDf (show Df from x) d:=by
 have B:Tryz.prog.cellsOf 9=1:=by kernel_rfl
 have cT:Tryz.prog.cellsOf 27=6:=by kernel_rfl
 cases n with
 |zero=>cases h
 |succ n=>
  obtain ⟨xs,m,L,j,hl,hlen,hf⟩:=DataW.trod_struct Tryz.underlying52 h
  obtain rfl:n=m:=by omega
  injection j with j _
  subst j
  have q:cs.length=7:=hl.trans (by kernel_rfl)
  match cs,q,xs,hlen with
  |[a0,a1,a2,a3,a4,a5,M],_,[O,y1],_=>
  have z:=hf 0 _ rfl
  have h1:=hf 1 _ rfl
  simp [B,cT] at z h1
  obtain ⟨s,E,k0,_⟩:=DataW.trod_string Tryz.underlying9 z
  obtain rfl:a0= .string s:=by simpa using E
  obtain ⟨t,F,I⟩:=(ahu (o:=o) (g:=g) A n).1 _ _ _ h1
  refine ⟨(⟨s,show Tm from t⟩:Df),fun k p hp=> ?_, ?_⟩
  ·cases k with
   |zero=>cases hp;exact ⟨_,rfl,.str _⟩
   |succ k=>
    obtain ⟨v,hv,J⟩:=F k p (by
     revert hp
     generalize (show Tm from t)=u
     intro hp
     cases u
     exact hp)
    exact ⟨v,hv,J⟩
  ·obtain ⟨T,q2⟩:=I
   unfold QDf QT
   simp only [HW,List.map_nil,Rows.uptoBulk,Rows.uptoBulkAll]
   exact ⟨by show au (show Tm from t)<=_;omega,fun hb=>q2 (by omega)⟩
theorem aEV (A: ∀b o,¬N b o) {W:World} {base:Nat} {v:Value} {d:DataW H} {ps:List MemPlace} (hv:Value.okWide Tryz.prog W .any base 22 v) (h:DataW.Trod enc Tryz.prog w 0 spare held 22 v d ps):
  ∃l:List Df,qF (LL o) w N g v (RL l .none)/\l.length+1<=Rows.uptoBulk d/\ ∀x∈l,au x.body<=Rows.uptoBulk d/\(Rows.uptoBulk d<1073741824->p9 x.body):=by
 obtain ⟨a,len,cap,rfl⟩:=okWide_slice Tryz.underlying22 hv
 obtain ⟨n,hn⟩:=h
 cases n with
 |zero=>cases hn
 |succ n=>
  obtain ⟨c,l,j,hc,F,hl,I,hb⟩:=FW (e:=ET.G) (Q:=fun x d=>QDf (show Df from x) d) A Tryz.underlying22 (by kernel_rfl) (fun cs d pl h=>aG9 A n cs d pl h) hn
  obtain rfl:c= .slice a len cap:=by simpa [Value.cells] using hc.symm
  have B:=Dr (l:=j)
  have J: @List.length Df l=j.length:=hl
  refine ⟨l,F,by omega,fun x L=> ?_⟩
  obtain ⟨i,E⟩:=List.getElem?_of_mem L
  have q:i<j.length:=by rw [<-hl];exact (E8.1 E).1
  have z:QT (Df.body x) j[i]:=I i x _ E (Bw q)
  obtain ⟨O,q2⟩:=z
  have hle: ∀ (l:List (DataW H)) (i:Nat) (h:i<l.length),Rows.uptoBulk l[i]<=Rows.uptoBulkAll l:=by
   intro l
   induction l with
   |nil=>intro i h;cases h
   |cons y l M=>
    intro i h
    rw [Rows.uptoBulkAll]
    cases i with
    |zero=>simp
    |succ i=>have:=M i (by simpa using h);simp;omega
  have:=hle j i q
  exact ⟨by omega,fun h=>q2 (by omega)⟩
end
set_option maxHeartbeats 4000000
theorem adj {k:Nat} (hk:4296016872<=k) {H:Type} {t:Tm} {d:DataW H} (h:QT t d) (hb:Rows.uptoBulk d<=1048576):In k t:=by
 have h1:=h.1
 have h2:=zG t
 exact ⟨h.2 (by omega),by unfold Fd;omega,by omega⟩
theorem aFb {k:Nat} (hk:4296016872<=k) {H:Type} {l:List Df} {d:DataW H} (h1:l.length+1<=Rows.uptoBulk d) (h: ∀x∈l,au x.body<=Rows.uptoBulk d/\(Rows.uptoBulk d<1073741824->p9 x.body)) (hb:Rows.uptoBulk d<=1048576):H4 k l:=
 ⟨by omega,fun x j=>by
  obtain ⟨q,q2⟩:=h x j
  have h2:=zG x.body
  exact ⟨q2 (by omega),by unfold Fd;omega,by omega⟩⟩
theorem nO {H:Type} {enc:TypeId×Value->H} {w:World} {spare:Nat->Bool} {held:Bool} {o:Obj} {N:aN} {g:Gh UU} (B: ∀b o,¬N b o) {W:World} {base:Nat} {v:Value} {d:DataW H} {ps:List MemPlace} (hv:Value.okWide Tryz.prog W .any base 3 v) (h:DataW.Trod enc Tryz.prog w 0 spare held 3 v d ps):
  ∃n:Int,qF (LL o) w N g v (.int .i64 n)/\aG n:=by
 obtain ⟨n,rfl⟩:=okWide_int Tryz.underlying3 hv
 obtain ⟨q,j⟩:=h
 obtain ⟨z,x,A⟩:=NT j
 obtain rfl:n=z:=by simpa [Value.cells] using x
 exact ⟨n,.int _ _,A⟩
theorem qR (q:Nat) {t0:List Df} {a1 b1:Int} {c1:ByteArray} {d1:List Cl} {h:List Tm} {f1:List (Br Tm)} {t2:Int} {t3:Int} {t4:Int}:q4 (S:=Out UU) q [RL t0 .none,.agg (H6 ET.T (Tm.mk a1 b1 c1 d1 h f1)),.int .i64 t2,.int .i64 t3,.int .i64 t4] [] some=aa q (dd q t0 (Tm.mk a1 b1 c1 d1 h f1) t2 t3 t4) fun r=>some (Out.ret (U:=UU) (.bool r) []):=by kernel_rfl
theorem apP {j:Nat} (h:F5 (j+1)) {t0:List Df} (q:H4 (j+1) t0) {t1:Tm} (h1:In (j+1) t1) {t2:Int} (h2:aG t2) {t3:Int} (x:aG t3) {t4:Int} (z:aG t4):q4 (S:=Out UU) (j+1) [RL t0 .none,.agg (H6 ET.T t1),.int .i64 t2,.int .i64 t3,.int .i64 t4] [] some=some (.ret (.bool true) []):=by
 obtain ⟨a1,A,c1,d1,B,f1⟩:=t1
 exact (qR (j+1)).trans ((ZV (by omega) _ _).trans (aSA h q h1 h2 x z fun r=>some (Out.ret (U:=UU) (.bool r) [])))
theorem agd {k:Nat} (hk:5000000000<=k) {o:Obj} (ho:ai o) {t0:List Df} (x:H4 k t0) {t1:Tm} (h1:In k t1) {t2:Int} (h2:aG t2) {t3:Int} (z:aG t3) {t4:Int} (A:aG t4):
  ci (LL o) 5 [RL t0 .none,.agg (H6 ET.T t1),.int .i64 t2,.int .i64 t3,.int .i64 t4] [] (.ret (.bool true) []):=by
 have B:F5 k:=by unfold F5;omega
 obtain ⟨j,rfl⟩: ∃j,k=j+1:=⟨k-1,by omega⟩
 obtain ⟨out,h,q⟩:=aSI (S:=Out UU) o ho (j+1) [RL t0 .none,.agg (H6 ET.T t1),.int .i64 t2,.int .i64 t3,.int .i64 t4] [] some (.ret (.bool true) []) (apP B x h1 h2 z A)
 injection q with q
 exact q▸h
theorem agc (H:Type) (enc:TypeId×Value->H) (W:World) (base:Nat) (args:Array Value) (ds gs:List (DataW H)) (before:List MemPlace)
  (h: ∀ (j:Nat) t v,Tryz.f5.params[j]? =some t->args[j]? =some v->Value.okWide Tryz.prog W .any base t v)
  (I:DataW.Whole enc Tryz.prog Tryz.f5.params.toList Rows.headMaySpec.vars false W args.toList ds gs before) (L:laidMetH Tryz.prog Rows.headMayRow.laid W) (hb:Rows.uptoBulkAll (ds++gs)<=1048576):
  Calls Tryz.prog 5 args W fun e W'=> ∃v,e= .returned v/\Rows.headMaySpec.post enc Tryz.prog Tryz.f5 false true false false W args v W':=by
 have z:=I
 obtain ⟨p,q,A,M,rfl,O,T⟩:=I
 have hA:DataW.TrodAll enc Tryz.prog W 0 (fun _=>true) true Tryz.f5.params.toList args.toList ds p:=A
 rw [Tryz.params5] at hA h
 obtain ⟨v0,Y,d0,ad,p0,q0,B,rfl,rfl,h0,r0⟩:=trodAll_cons hA
 obtain ⟨v1,ao,d1,ax,p1,q1,rfl,rfl,rfl,h1,r1⟩:=trodAll_cons r0
 obtain ⟨v2,az,d2,a6,p2,q2,rfl,rfl,rfl,h2,r2⟩:=trodAll_cons r1
 obtain ⟨v3,a7,d3,a8,p3,q3,rfl,rfl,rfl,h3,r3⟩:=trodAll_cons r2
 obtain ⟨v4,bc,d4,bf,p4,q4,rfl,rfl,rfl,h4,r4⟩:=trodAll_cons r3
 obtain ⟨rfl,rfl,rfl⟩:=trodAll_nil r4
 obtain rfl:args= #[v0,v1,v2,v3,v4]:=by cases args;simp_all
 obtain ⟨rfl,rfl⟩:=trodVars_none M
 obtain ⟨o,ho,hh⟩:=akL L
 simp only [zr,Rows.uptoBulkAll,Nat.add_zero] at hb
 obtain ⟨t0,e0,m0⟩:=aEV (o:=o) (g:=gB UU 0 fun _=>0) gT (h 0 22 v0 rfl rfl) h0
 obtain ⟨t1,e1,k1⟩:=ZG (o:=o) (g:=gB UU 0 fun _=>0) gT h1
 obtain ⟨t2,e2,k2⟩:=nO (o:=o) (g:=gB UU 0 fun _=>0) gT (h 2 3 v2 rfl rfl) h2
 obtain ⟨t3,e3,k3⟩:=nO (o:=o) (g:=gB UU 0 fun _=>0) gT (h 3 3 v3 rfl rfl) h3
 obtain ⟨t4,e4,k4⟩:=nO (o:=o) (g:=gB UU 0 fun _=>0) gT (h 4 3 v4 rfl rfl) h4
 have hk:(5000000000:Nat)<=5000000000:=zk _
 generalize bh:(5000000000:Nat)=k at hk
 have E:=agd (k:=k) (by omega) ho (aFb (by omega) m0.1 m0.2 (by omega)) (adj (by omega) k1 (by omega)) k2 k3 k4
 refine (ZW E (adb hh rfl rfl fun j p hj=> ?_)).mono ?_
 ·match j,hj with
  |0,hj=>cases hj;exact e0
  |1,hj=>cases hj;exact e1
  |2,hj=>cases hj;exact e2
  |3,hj=>cases hj;exact e3
  |4,hj=>cases hj;exact e4
  |j+5,hj=>simp at hj
 ·rintro e W' ⟨rfl,x⟩
  refine ⟨_,rfl,ahF rfl rfl (fun t J=> ?_) rfl z x⟩
  rw [Tryz.params5] at J
  have F:t=22\/t=27\/t=3\/t=3\/t=3:=by simpa using J
  rcases F with rfl|rfl|rfl|rfl|rfl<;>exact of_decide_eq_true (by kernel_rfl)
noncomputable def Fb (os:Os):World:=
 {World.holding Tryz.prog os ⟨#[],#[],[]⟩ with heap:=(World.holding Tryz.prog os ⟨#[],#[],[]⟩).heap.modify 0 fun
   | .cells _ t frozen=> .cells (Lib.deBruijn32tab.map fun n:Nat=>Value.int .u8 n).toArray t frozen
   |o=>o}
def alC:Value:= .agg #[.int .i64 0,.int .i64 0,.string qw,.slice none 0 0,.slice none 0 0,.slice none 0 0]
def BW:Array Value:= #[.slice none 0 0,alC,.int .i64 0,.int .i64 0,.int .i64 0]
def alA {H:Type}:DataW H:= .agg [.lit (.int .i64 0),.lit (.int .i64 0),.lit (.string []),.nil,.nil,.nil]
theorem af_ (os:Os):laidMet Tryz.prog Rows.headMayRow.laid ((Fb os).forCall (fun _ _=>0) ⟨#[],BW,[]⟩).memory:=
 laidMet_of_run' 8 (by kernel_rfl) (by kernel_rfl)
theorem aim (os:Os) {H:Type} (enc:TypeId×Value->H): ∃places,DataW.whole enc Tryz.prog ((Fb os).forCall (fun _ _=>0) ⟨#[],BW,[]⟩).memory Tryz.f5.params.toList Rows.headMaySpec.vars false BW.toList 8=some ([.nil,alA,.lit (.int .i64 0),.lit (.int .i64 0),.lit (.int .i64 0)],[],places):=
 ⟨[],by kernel_rfl⟩
theorem agw (os:Os) (started:os.Started) (H:Type) (enc:TypeId×Value->H) (F:Stop.Interp):
  ReturnsInHanded {} Tryz.checked os 5 .any ((Rows.OpenSpec.upto Rows.headMaySpec).preRow enc Tryz.prog Tryz.f5 Rows.headMayUptoRow.domain false Rows.headMayUptoRow.laid) (((Rows.OpenSpec.upto Rows.headMaySpec).at F).post enc Tryz.prog Tryz.f5 false true false false):=by
 obtain ⟨places,q⟩:=aim os enc
 refine returnsInHanded_of_row (C:=Tryz.checked) (s:=Rows.OpenSpec.upto Rows.headMaySpec) own started (by kernel_rfl) Tryz.func5
  (witness_row_at (enc:=enc) (C:=Tryz.checked) false (Fb os) BW rfl (by kernel_rfl) (by kernel_rfl) (by kernel_rfl)
   (OpenSpec.preRow_of_cond 8 q (by kernel_rfl) (fun k hk=>by cases hk;kernel_rfl) (by kernel_rfl) (af_ os))) ?_
 intro W base args x gs before j z _ h _ A _ _
 exact agc H enc W base args x gs before j z A (of_decide_eq_true (h _ rfl))
theorem aj3:Rows.HeadMayUptoSaid:=
 OpenClaim.holds_of_cond 5 Tryz.f5 rfl rfl rfl rfl rfl rfl rfl ⟨rfl,rfl,rfl,rfl,rfl⟩ rfl rfl rfl rfl rfl (by as_aux_lemma=>kernel_rfl) Tryz.func5 adt
  (of_decide_eq_true (by as_aux_lemma=>kernel_rfl)) (by unfold Func.isWrapper;first|(rw [if_pos (by decide+kernel)];kernel_rfl)|(rw [if_neg (by decide+kernel)];exact ⟨rfl,rfl⟩))
  (fun os started H enc _ F=>by rw [OpenClaim.pre_eq_preRow];exact agw os started H enc F)
theorem plain (f:FuncId) (fn:Func) (hf:Tryz.pinned.checked.prog.funcNamed "hypercube/hypercubelaw22.HeadMay" =some f) (h:Tryz.pinned.checked.prog.funcs[f]? =some fn):
  true=Tryz.pinned.checked.prog.looks []/\ ∀ (j:Nat) t,fn.params[j]? =some t->Tryz.pinned.checked.prog.wantsStandIn t=false:=by
 obtain rfl:f=5:=Option.some.inj ((show Tryz.prog.funcNamed "hypercube/hypercubelaw22.HeadMay" =some 5 by kernel_rfl).symm.trans hf)|>.symm
 obtain rfl:fn=Tryz.f5:=(Option.some.inj (Tryz.func5.symm.trans h)).symm
 refine ⟨by kernel_rfl,fun j t x=> ?_⟩
 rw [Tryz.params5] at x
 have q:t=22\/t=27\/t=3\/t=3\/t=3:=by simpa using Array.mem_of_getElem? x
 rcases q with rfl|rfl|rfl|rfl|rfl
 ·exact (show Tryz.prog.wantsStandIn 22=false by kernel_rfl)
 ·exact (show Tryz.prog.wantsStandIn 27=false by kernel_rfl)
 ·exact (show Tryz.prog.wantsStandIn 3=false by kernel_rfl)
 ·exact (show Tryz.prog.wantsStandIn 3=false by kernel_rfl)
 ·exact (show Tryz.prog.wantsStandIn 3=false by kernel_rfl)
theorem headMay_holds:Rows.HeadMayUptoCardSaid:=
 Claim7.holds_tied_plain_at .later [] _ _ _ _ aj3 (fun _ h=>by cases h) (by as_aux_lemma=>kernel_rfl) (fun _ h=>by cases h) headMayUpto_row_tie rfl ⟨rfl,rfl⟩ (by as_aux_lemma=>kernel_rfl) rfl plain (by as_aux_lemma=>kernel_rfl)
#print axioms headMay_holds
end
end Go.Proofs.YtgmmefmmnakbpaaGreatDoor
