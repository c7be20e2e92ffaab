/- hypercubelaw22.HeadMore returns true for all definitions, every term and any fuel: with more fuel the same head is told, and as much more is left; the card with an upper bound of the input's bulk. -/
import Derived.Test.YtgmmefmmnakbpaaGreatDoorX5
import Derived.KernelRfl
open Bool renaming and_eq_true→anZ,not_false→aqD,not_true→aq6
open ByteArray renaming empty→alH
open Eq renaming trans→alQ
open Go.IntKind renaming wrap→su
open List renaming all_eq_true→ars,append_nil→arE,getElem?_eq_getElem→arN,getElem?_eq_some_iff→asn,length_cons→aq5,mem_append→atc,mem_cons→arH,mem_map→arR,nil_append→as2
open Nat renaming le_refl→arq,le_trans→aru,mul_le_mul_right→arA
open Option renaming bind→asP,bind_some→sf
set_option linter.unusedVariables false
set_option linter.unusedSimpArgs false
namespace Go.Proofs.YtgmmefmmnakbpaaGreatDoor
open Go PI
set_option maxRecDepth 20000
variable {S:Type} {k:Nat}
def idT:Tm:=dS 8 idL
def aJe (a:Tm) (x:Br Tm):Except Int (Br Tm):=
 bE (ame 0 [⟨0,0⟩] (AK x)) fun e=>bE (J6 0 1 a) fun a'=>bE (c6 [AK x,a'] (aFL (AK x) a')) fun l=> .ok ⟨x.face,[e,dS 14 [l,idT]]⟩
def aJf (a:Tm) (sys:LB):Except Int Tm:=bE (asZ (aJe a) sys) fun bs=> .ok (.mk 16 0 alH [] [a] bs)
theorem id_fm:Fm idT:=⟨by
 have:=(show OkT (dS 8 idL) from by
  unfold idL azL vN dS
  repeat' first|rw [OkT]|rw [aZ]|rw [ba]|refine ⟨?_, ?_⟩|refine ⟨⟨by unfold aG;omega,by unfold aG;omega,by decide, ?_,by simp,by simp,by simp⟩, ?_, ?_⟩|trivial|exact (at3 (by omega) (by omega)).1|exact (fun c hc=>by cases hc))
 exact this,aFR⟩
section
variable {x1 x2:Int} {x3:BA} {x4:LC} {x5:LT} {x6 sys:LB}
def awZ (x:Br Tm):Prop:= ∃t u,x.kids=[t,u]/\Sm 20000 t/\Sm 80001 u/\am t<=200/\am u<=201/\aq x.face/\x.face.length<1073741824
theorem aAN {l:LB} (h: ∀x∈l,awZ x):ba l/\aI l<=l.length*100001/\aO l<=201:=by
 induction l with
 |nil=>grind [ba,aI,aO]
 |cons x l j=>
  obtain ⟨i1,i2,i3⟩:=j fun x q=>h x (by simp [q])
  obtain ⟨t,u,e,h1,h2,d1,d2,z,A⟩:=h x (by simp)
  obtain ⟨f,B⟩:=x
  have e:B=[t,u]:=e
  subst e
  refine ⟨?_, ?_, ?_⟩
  ·rw [ba,fc,aZ,aZ,aZ];exact ⟨⟨⟨z,A,by simp⟩,h1.ok,h2.ok,trivial⟩,i1⟩
  ·rw [aI,fG,ay,ay,ay,aq5,Nat.succ_mul];have:=h1.siz;have:=h2.siz;omega
  grind [aO,eB,aH]
end
def azm (t:Tm):Except Int Tm:=
 let k0:=t.kids.getD 0 noT
 let a:=t.kids.getD 1 noT
 if k0.kind=4 then piX (k0.kids.getD 1 noT) a t.sys
 else if k0.kind=7 then ayG (k0.kids.getD 0 noT) (k0.kids.getD 1 noT) a t.sys
 else if k0.kind=11 then aym (k0.kids.getD 0 noT) (k0.kids.getD 1 noT) (k0.kids.getD 2 noT) a t.sys
 else if k0.kind=3 then aJf a t.sys
 else awQ t
def ava (t:Tm):Tm×Bool×Int:=
 if bw t≠0 then (noT,false,bw t) else
 if t.kind=15/\((t.kids.getD 0 noT).kind=4\/(t.kids.getD 0 noT).kind=7\/(t.kids.getD 0 noT).kind=11\/(t.kids.getD 0 noT).kind=3\/(t.kids.getD 0 noT).kind=16) then ar_ (azm t) else (noT,false,0)
def auZ (v d:Int) (m:Tm):Except Int Tm:=bE (oK 1 v m) fun y=>pH 0 d y
theorem aDt {f b:Int} (hb:0<=b/\b<=1000000) {m y:Tm} (j:OkT m) (h:oK f b m= .ok y):Fm y:=by
 unfold oK sh at h
 split at h
 case isFalse=>cases h
 rename_i q
 exact jr (by omega) ⟨j,q⟩ h
theorem azc {f b:Int} (hb:0<=b/\b<=1000) {m y:Tm} (j:OkT m) (h:pH f b m= .ok y):Fm y:=by
 unfold pH sh at h
 split at h
 case isFalse=>cases h
 rename_i q
 exact jr (by omega) ⟨j,q⟩ h
theorem aEZ {v d:Int} (hv:0<=v/\v<=1000) (hd:0<=d/\d<=1000) {m y:Tm} (j:OkT m) (h:auZ v d m= .ok y):Fm y:=by
 unfold auZ at h
 obtain ⟨x,h1,h2⟩:=i8 h
 exact azc hd (aDt (by omega) j h1).ok h2
theorem aIu (hk:F3 k) {m:Tm} {v d c:Int} (hv:0<=v/\v<=1000) (hd:0<=d/\d<=1000) (q:c=0->In k m) (I:Tm×Int->OS S):y8 k m v d c I=I (mM c (auZ v d m)):=by
 simp only [y8,ag hk.fu,dG,ar,rJ]
 by_cases hc:c=0
 case neg=>rw [dj hc,aqD,ae,n9 hc];rfl
 have h:=q hc
 subst hc
 rw [show (!((0:Int)==0))=false from rfl,n3,kR,ai0 hk h (by omega) (by omega),if_pos rfl]
 unfold auZ
 cases j:oK 1 v m with
 |error e=>
  have he:=aJg e j
  rw [show (tE (.error e)).2=e from rfl,if_neg (show e≠0 by omega)]
  dsimp only
  rw [dj (show e≠0 by omega),aqD,ae];rfl
 |ok y=>
  have fy:=aDt (by omega) h.1 j
  rw [show (tE (.ok y)).2=0 from rfl,show (tE (.ok y)).1=y from rfl,if_pos rfl]
  dsimp only
  rw [show (!((0:Int)==0))=false from rfl,n3,aiM hk (fy.isIn hk) (by omega) (by omega),aD]
  have:=Lw (pH 0 d y) (FP aak) 0
  grind [kR]
theorem aER (hk:F3 k) {line a y:Tm} {phi r:LC} {en:Cl} (hl:OkT line) (ha:OkT a) (hp:RF phi) (he:aX en) (j:RF r) (h:aso line phi a en r= .ok y):Fm y:=by
 unfold aso at h
 split at h
 case isFalse=>cases h
 rename_i so
 split at h
 case isFalse=>cases h
 unfold al_ at h
 obtain ⟨z,h1,h⟩:=i8 h
 split at h
 case isFalse=>cases h
 rename_i f0
 injection h with h;subst h
 have:=avl (l:=[line,a]) (fun x q=>by
  grind) so
 exact ⟨(aAH hk (this line (by simp)) (this a (by simp)) hp he h1).1.1,f0⟩
theorem aAG {line a:Tm} {phi r:LC} {en:Cl} {e:Int} (h:aso line phi a en r= .error e):e≠0:=aET h
section
variable {phi:LC} {x1 x2:Int} {x3:BA} {x4:LC} {x5:LT} {x6:LB}
theorem aIC (hk:F3 k) {l a:Tm} {c:Int} (hl:In k l) (ha:In k a) (hp:aq phi/\phi.length<1073741824) (I:Tm×Int->OS S):axU k l phi a c I=I (mM c (aso l phi a ⟨1,0⟩ [⟨0,1⟩,⟨2,0⟩])):=by
 simp only [axU,ag hk.fu,dG,ar,rJ]
 exact Az c (fun h g=>aHR hk hl ha hp.1 hp.2 g) (fun e h=>aAG h) I
theorem aDh (hk:F3 k) {l a:Tm} {c:Int} (hl:In k l) (ha:In k a) (hp:aq phi/\phi.length<1073741824) (I:Tm×Int->OS S):awu k l phi a c I=I (mM c (aso l phi a ⟨0,1⟩ [⟨3,0⟩])):=by
 simp only [awu,ag hk.fu,dG,ar,rJ]
 exact Az c (fun h g=>aHV hk hl ha hp.1 hp.2 g) (fun e h=>aAG h) I
end
set_option maxRecDepth 100000
theorem aHO:RF [⟨2,0⟩]:=gS ⟨⟨by decide,by decide⟩,by decide,by decide⟩
def ayI (t:Tm):Except Int Tm:=bE (acr 0 1 0 2 t) fun y=>ame 0 [⟨2,0⟩] y
def avm (t:Tm):Except Int Tm:=sh t (ayI t)
theorem aIF (hk:F3 k) {t:Tm} (j:In k t) (I:Tm×Int->OS S):ax0 k t I=I (tE (avm t)):=by
 simp only [ax0,ag hk.fu,ar,aiM hk j (f:=2) (b:=1) (by decide) (by omega)]
 unfold avm pH sh
 by_cases h:bw t=0
 case neg=>rw [if_neg h,if_neg h,show (tE (.error (bw t):Except Int Tm)).2=bw t from rfl,dj h,aqD,ae];rfl
 rw [if_pos h,if_pos h]
 have ft:Fm t:=⟨j.1,h⟩
 unfold ayI
 cases hl:acr 0 1 0 2 t with
 |error e=>
  have he:=amo t hl
  rw [show (tE (.error e)).2=e from rfl,dj (show e≠0 by omega),aqD,ae];rfl
 |ok y=>
  have fy:=jr (by omega) ft hl
  rw [show (tE (.ok y)).2=0 from rfl,show (tE (.ok y)).1=y from rfl,show (!((0:Int)==0))=false from rfl,n3,ap8 hk (fy.isIn hk) (i:=0) (by decide) aHO,aD,show an8 0 [⟨2,0⟩] y=ame 0 [⟨2,0⟩] y from if_pos fy.2]
set_option maxRecDepth 20000
def Q2 (x:Tm):Prop:=Sm 20000 x/\am x<=200
theorem Q2.isIn {x:Tm} (h:Q2 x) (hk:F3 k):In k x:=h.1.isIn hk (by omega)
theorem Fm.q2 {x:Tm} (h:Fm x):Q2 x:=⟨h.sm,h.dep⟩
theorem q2_no:Q2 noT:=(FN.sm (.inr rfl))
theorem atC {c:Int} {x:Except Int Tm} (h: ∀t,x= .ok t->Q2 t):Q2 (mM c x).1:=by
 unfold mM
 split
 ·cases x with
  |error e=>exact q2_no
  |ok t=>exact h t rfl
 ·exact q2_no
theorem auL {t y:Tm} {x:Except Int Tm} (h:sh t x= .ok y):bw t=0/\x= .ok y:=by
 unfold sh at h
 split at h
 ·rename_i j;exact ⟨j,h⟩
 ·cases h
theorem auk {a b:Int} {t y:Tm} (j:OkT t) (h:wA a b t= .ok y):Fm t/\J6 a b t= .ok y:=⟨⟨j,(auL h).1⟩,(auL h).2⟩
theorem aDo {i:Int} {r:LC} {t y:Tm} (j:OkT t) (h:an8 i r t= .ok y):Fm t/\ame i r t= .ok y:=⟨⟨j,(auL h).1⟩,(auL h).2⟩
theorem aHg {n:Int} {t u y:Tm} (j:OkT t) (hu:OkT u) (h:ri n t u= .ok y):Fm t/\Fm u/\ams n t u= .ok y:=by
 obtain ⟨h1,h2⟩:=auL h
 obtain ⟨q,x⟩:=auL h2
 exact ⟨⟨j,h1⟩,⟨hu,q⟩,x⟩
theorem aIV {t y:Tm} (j:OkT t) (h:avm t= .ok y):Fm t/\ayI t= .ok y:=⟨⟨j,(auL h).1⟩,(auL h).2⟩
theorem aDs {a b:Int} (ha:0<=a/\a<=1000) (hb:0<=b/\b<=1000) {t y:Tm} (j:OkT t) (h:wA a b t= .ok y):Q2 y:=(mD (by omega) (auk j h).1 (auk j h).2).q2
theorem avn {r:LC} {t y:Tm} (j:OkT t) (h:an8 0 r t= .ok y):Q2 y:=by
 obtain ⟨h1,h2⟩:=aDo j h
 obtain ⟨q,q2,x⟩:=akM h1 h2
 exact ⟨⟨q,x,by omega⟩,q2⟩
theorem azK {t u y:Tm} (j:OkT t) (hu:OkT u) (h:ri 0 t u= .ok y):Q2 y:=by
 obtain ⟨h1,h2,q⟩:=aHg j hu h
 exact (ayn (by omega) h1 h2 q).q2
theorem aIW {t y:Tm} (j:OkT t) (h:avm t= .ok y):Q2 y:=by
 obtain ⟨h1,h2⟩:=aIV j h
 unfold ayI at h2
 obtain ⟨z,q,x⟩:=i8 h2
 obtain ⟨A,q2,B⟩:=akM (jr (by omega) h1 q) x
 exact ⟨⟨A,B,by omega⟩,q2⟩
theorem aE0 {v d:Int} (hv:0<=v/\v<=1000) (hd:0<=d/\d<=1000) {m y:Tm} (j:OkT m) (h:auZ v d m= .ok y):Q2 y:=(aEZ hv hd j h).q2
theorem ayY (hk:F3 k) {line a y:Tm} {phi r:LC} {en:Cl} (hl:OkT line) (ha:OkT a) (hp:RF phi) (he:aX en) (j:RF r) (h:aso line phi a en r= .ok y):Q2 y:=(aER hk hl ha hp he j h).q2
theorem ayD:RF []:=rA
section
variable {phi:LC} {x1 x2:Int} {x3:BA} {x4:LC} {x5:LT} {x6:LB}
def tPi (phi:LC) (k0 k1 a:Tm):Tm×Int:=
 let U:=mM 0 (wA 1 0 k0)
 let W:=mM U.2 (aso U.1 phi (vN 0) ⟨1,0⟩ [⟨0,1⟩,⟨2,0⟩])
 let B0:=mM W.2 (auZ 1 0 k1)
 let B:=mM B0.2 (ri 0 B0.1 W.1)
 let F:=mM B.2 (wA 1 0 a)
 let T:=mM F.2 (an8 0 [] W.1)
 (dS 5 [aml phi B.1 (dS 6 [F.1,T.1])],T.2)
def az6 (phi:LC) (k0 k1 a:Tm):Tm×Int:=
 let R:=mM 0 (aso k0 phi (dS 9 [a]) ⟨0,1⟩ [⟨3,0⟩])
 let B:=mM R.2 (ri 0 k1 R.1)
 (dS 8 [aml phi k0 (dS 9 [a]),aml phi B.1 (dS 10 [a])],B.2)
end
theorem at7 {n:Int} (hn:0<=n/\n<=1000):Q2 (vN n):=by
 unfold vN
 refine ⟨⟨?_, ?_, ?_⟩, ?_⟩
 ·rw [OkT,aZ,ba];exact ⟨⟨by unfold aG;omega,by unfold aG;omega,by decide,(fun c hc=>by cases hc),by simp,by simp,by simp⟩,trivial,trivial⟩
 ·rw [au,ay,aI];omega
 ·rw [am,aH,aO];omega
 ·rw [am,aH,aO];omega
theorem aG8:aX ⟨1,0⟩:=⟨⟨by decide,by decide⟩,⟨by decide,by decide⟩⟩
theorem aCx:aX ⟨0,1⟩:=⟨⟨by decide,by decide⟩,⟨by decide,by decide⟩⟩
section
variable {phi:LC} {x1 x2:Int} {x3:BA} {x4:LC} {x5:LT} {x6:LB}
theorem aDg (j:F4 k) {l k0 k1:Tm} (J:l.kids=[k0,k1]) (f0:Fm k0) (f1:Fm k1) (fa:Fm (Tm.mk x1 x2 x3 x4 x5 x6)) (hp:RX true phi) (I:Int×Int×BA×LT×Int->OS S):
  ∃ks c,ax2 k l 0 phi x1 x2 x3 x4 x5 x6 I=I (5,0,alH,ks,c)/\(dS 5 ks,c)=tPi phi k0 k1 (Tm.mk x1 x2 x3 x4 x5 x6)/\In k (dS 5 ks):=by
 have hk:=j.f3
 obtain ⟨g0,g1⟩:=KQ J
 generalize ha:Tm.mk x1 x2 x3 x4 x5 x6=a at fa
 unfold tPi
 dsimp only
 generalize hU:mM 0 (wA 1 0 k0)=U
 generalize hW:mM U.2 (aso U.1 phi (vN 0) ⟨1,0⟩ [⟨0,1⟩,⟨2,0⟩])=W
 generalize q:mM W.2 (auZ 1 0 k1)=B0
 generalize hB:mM B0.2 (ri 0 B0.1 W.1)=B
 generalize hF:mM B.2 (wA 1 0 a)=F
 generalize hT:mM F.2 (an8 0 [] W.1)=T
 have qU:Q2 U.1:=by rw [<-hU];exact atC fun t h=>aDs (by omega) (by omega) f0.ok h
 have E:Q2 W.1:=by rw [<-hW];exact atC fun t h=>ayY hk qU.1.ok (at7 (by omega)).1.ok hp.1 aG8 aC4 h
 have z:Q2 B0.1:=by rw [<-q];exact atC fun t h=>aE0 (by omega) (by omega) f1.ok h
 have L:Q2 B.1:=by rw [<-hB];exact atC fun t h=>azK z.1.ok E.1.ok h
 have M:Q2 F.1:=by rw [<-hF];exact atC fun t h=>aDs (by omega) (by omega) fa.ok h
 have O:Q2 T.1:=by rw [<-hT];exact atC fun t h=>avn E.1.ok h
 have h6:=at6 (kd:=6) (by omega) (n:=20000) (ks:=[F.1,T.1]) (fun x A=>by
  simp at A
  rcases A with rfl|rfl
  ·exact ⟨M.1,by have:=M.2;omega⟩
  ·exact ⟨O.1,by have:=O.2;omega⟩) (by simp)
 have d6:am (dS 6 [F.1,T.1])<=201:=by unfold dS;rw [am,aH,aH,aH,aO];have:=M.2;have:=O.2;omega
 have Y:=aol (G9 hp) L.1 h6.1 (by have:=L.2;omega) (by omega)
 have d14:am (aml phi B.1 (dS 6 [F.1,T.1]))<=202:=by unfold aml;rw [am,aH,aH,aH,aO];have:=L.2;omega
 have h5:=at6 (kd:=5) (by omega) (ks:=[aml phi B.1 (dS 6 [F.1,T.1])]) (fun x A=>by
  simp at A;subst A;exact ⟨Y,by omega⟩) (by simp)
 refine ⟨_,T.2, ?_,rfl,h5.1.isIn hk (by omega)⟩
 simp only [ax2,ag hk.fu,ar,g0,g1,sf,au5,zc,aup,tO,ha]
 have e0:Tm.mk 1 0 alH [] [] []=vN 0:=rfl
 have i0:=(at7 (n:=0) (by omega)).isIn hk
 rw [ajn hk (fun _=>f0.isIn hk) (by omega) (by omega),hU]
 rw [e0,aIC hk (qU.isIn hk) i0 (G9 hp),hW,aIu hk (by omega) (by omega) (fun _=>f1.isIn hk),q,Hf j (fun _=>⟨z.isIn hk,E.isIn hk⟩),hB,ajn hk (fun _=>fa.isIn hk) (by omega) (by omega),hF,wa hk (fun _=>E.isIn hk) ayD,hT]
 rfl
theorem aDi (q:F4 k) {l k0 k1:Tm} (A:l.kids=[k0,k1]) (f0:Fm k0) (f1:Fm k1) (fa:Fm (Tm.mk x1 x2 x3 x4 x5 x6)) (hp:RX true phi) (I:Int×Int×BA×LT×Int->OS S):
  ∃ks c,ax3 k l 0 phi x1 x2 x3 x4 x5 x6 I=I (8,0,alH,ks,c)/\(dS 8 ks,c)=az6 phi k0 k1 (Tm.mk x1 x2 x3 x4 x5 x6)/\In k (dS 8 ks):=by
 have hk:=q.f3
 obtain ⟨g0,g1⟩:=KQ A
 generalize ha:Tm.mk x1 x2 x3 x4 x5 x6=a at fa
 unfold az6
 dsimp only
 have a9:=awd (kd:=9) (by omega) (.inl fa)
 have j:=awd (kd:=10) (by omega) (.inl fa)
 have i9:In k (dS 9 [a]):=a9.1.isIn hk (by omega)
 generalize J:mM 0 (aso k0 phi (dS 9 [a]) ⟨0,1⟩ [⟨3,0⟩])=R
 generalize hB:mM R.2 (ri 0 k1 R.1)=B
 have L:Q2 R.1:=by rw [<-J];exact atC fun t h=>ayY hk f0.ok a9.1.ok hp.1 aCx QD h
 have E:Q2 B.1:=by rw [<-hB];exact atC fun t h=>azK f1.ok L.1.ok h
 have F:=aol (G9 hp) f0.sm a9.1 (by have:=f0.dep;omega) (by have:=a9.2;omega)
 have z:=aol (G9 hp) E.1 j.1 (by have:=E.2;omega) (by have:=j.2;omega)
 have d14:am (aml phi k0 (dS 9 [a]))<=202:=by unfold aml;rw [am,aH,aH,aH,aO];have:=f0.dep;have:=a9.2;omega
 have M:am (aml phi B.1 (dS 10 [a]))<=202:=by unfold aml;rw [am,aH,aH,aH,aO];have:=E.2;have:=j.2;omega
 have T:=at6 (kd:=8) (by omega) (n:=100002) (ks:=[aml phi k0 (dS 9 [a]),aml phi B.1 (dS 10 [a])]) (fun x O=>by
  simp at O
  rcases O with rfl|rfl
  ·exact ⟨F.mono (by omega),by omega⟩
  ·exact ⟨z.mono (by omega),by omega⟩) (by simp)
 refine ⟨_,B.2, ?_,rfl,T.1.isIn hk (by omega)⟩
 simp only [ax3,ag hk.fu,ar,g0,g1,sf,zc,aup,tO,ha]
 have W:Tm.mk 9 0 alH [] [a] []=dS 9 [a]:=rfl
 rw [W,aDh hk (f0.isIn hk) i9 (G9 hp),J,Hf q (fun _=>⟨f1.isIn hk,L.isIn hk⟩),hB]
 rfl
end
def auA (c:Int) (f:LC):LC×Int:=if c=0 then agS f 0 1 else ([],c)
def atM (b:Int) (r:LC) (a u v:Tm) (c:Int):Tm×Int:=
 let P:=mM c (wA 0 b a)
 let X:=mM P.2 (wA 0 b u)
 let Y:=mM X.2 (wA 0 b v)
 (pap r P.1 X.1 Y.1,Y.2)
def az2 (phi:LC) (a u v:Tm) (c:Int):LB×Int:=
 if phi.length=0 then ([],c) else
  let f:=auA c phi
  let q:=atM 2 [⟨2,0⟩] a u v f.2
  ([⟨f.1,[q.1]⟩],q.2)
def az4 (phi:LC) (k0 l r a:Tm):Tm×Int:=
 let u:=mM 0 (an8 0 [] l)
 let v:=mM u.2 (an8 0 [] r)
 let L:=mM v.2 (avm k0)
 let b:=atM 1 [⟨1,0⟩] a u.1 v.1 L.2
 let s:=az2 phi a u.1 v.1 b.2
 let h:=mM s.2 (pH 1 1 l)
 let r1:=mM h.2 (pH 1 1 r)
 let sys:=s.1++[⟨[⟨0,1⟩],[h.1]⟩]++[⟨[⟨1,0⟩],[r1.1]⟩]
 let C:=mM r1.2 (c6 [L.1,b.1,J4 sys] (dF L.1 b.1 sys))
 (dS 12 [C.1],C.2)
section
variable {phi:LC} {x1 x2:Int} {x3:BA} {x4:LC} {x5:LT} {x6:LB}
theorem aAI {b:Int} (hb:0<=b/\b<=1000) {r:LC} {a u v:Tm} {c:Int} (q:OkT a) (x:OkT u) (z:OkT v) (A:aq r/\r.length<1073741824):Sm 60001 (atM b r a u v c).1/\am (atM b r a u v c).1<=201:=by
 have f: ∀ {t:Tm} (j:OkT t) (c:Int),FN (mM c (wA 0 b t)).1:=fun j c=>arW fun t h=>mD (by omega) (auk j h).1 (auk j h).2
 exact azW A (f q _) (f x _) (f z _)
theorem aDe (hk:F3 k) {b c:Int} (hb:0<=b/\b<1000) {r:Cl} {u v:Tm} (h:In k (Tm.mk x1 x2 x3 x4 x5 x6)) (j:In k u) (q:In k v) (I:Int×Int×BA×LC×LT×Int->OS S):
  ∃ks,aww k b r u v c phi x1 x2 x3 x4 x5 x6 I=I (13,0,alH,[r],ks,(atM b [r] (Tm.mk x1 x2 x3 x4 x5 x6) u v c).2)/\Tm.mk 13 0 alH [r] ks []=(atM b [r] (Tm.mk x1 x2 x3 x4 x5 x6) u v c).1:=by
 refine ⟨_, ?_,rfl⟩
 simp only [aww,ag hk.fu,ar,tO]
 rw [ajn hk (fun _=>h) (by omega) hb,ajn hk (fun _=>j) (by omega) hb,ajn hk (fun _=>q) (by omega) hb]
 rfl
theorem aH4 (hk:F3 k) {t:Tm} {c:Int} (h:In k t) (I:Tm×Int->OS S):ax4 k t c phi x1 x2 x3 x4 x5 x6 I=I (mM c (avm t)):=by
 simp only [ax4,ag hk.fu,ar,aIF hk h]
 by_cases hc:c=0
 ·subst hc;rw [show (!((0:Int)==0))=false from rfl,n3,kR]
 ·rw [dj hc,aqD,ae,n9 hc];rfl
theorem aHP {c:Int} {f:LC} (h:RF f):aq (auA c f).1/\(auA c f).1.length<1073741824:=by
 unfold auA
 split
 ·exact aoE h
 ·exact ⟨fun c hc=>(by cases hc),by simp⟩
theorem aDf (hk:F3 k) {t k0 l r:Tm} (B:t.kids=[k0,l,r]) (f0:Fm k0) (f1:Fm l) (f2:Fm r) (fa:Fm (Tm.mk x1 x2 x3 x4 x5 x6)) (hp:RX true phi) (I:Int×Int×BA×LT×Int->OS S):
  ∃ks c,ax1 k t 0 phi x1 x2 x3 x4 x5 x6 I=I (12,0,alH,ks,c)/\(dS 12 ks,c)=az4 phi k0 l r (Tm.mk x1 x2 x3 x4 x5 x6)/\In k (dS 12 ks):=by
 have g0:af t.kids 0=some k0:=ED (n:=0) rfl (by rw [B];rfl)
 have g1:af t.kids 1=some l:=ED (n:=1) rfl (by rw [B];rfl)
 have g2:af t.kids 2=some r:=ED (n:=2) rfl (by rw [B];rfl)
 have ia:=fa.isIn hk
 unfold az4
 dsimp only
 generalize hu:mM 0 (an8 0 [] l)=u
 generalize hv:mM u.2 (an8 0 [] r)=v
 generalize hL:mM v.2 (avm k0)=L
 have W:Q2 u.1:=by rw [<-hu];exact atC fun t h=>avn f1.ok h
 have Y:Q2 v.1:=by rw [<-hv];exact atC fun t h=>avn f2.ok h
 have qL:Q2 L.1:=by rw [<-hL];exact atC fun t h=>aIW f0.ok h
 have ad:=fun c=>aAI (b:=1) (r:=[⟨1,0⟩]) (c:=c) (by omega) fa.ok W.1.ok Y.1.ok (at3 (by omega) (by omega))
 have ao:=fun c=>aAI (b:=2) (r:=[⟨2,0⟩]) (c:=c) (by omega) fa.ok W.1.ok Y.1.ok (at3 (by omega) (by omega))
 have sb:=ad L.2
 have O:=fun (g:Int×Int×BA×LC×LT×Int->OS S)=>aDe (phi:=phi) hk (b:=1) (c:=L.2) (by omega) (r:=⟨1,0⟩) ia (W.isIn hk) (Y.isIn hk) g
 generalize az:atM 1 [⟨1,0⟩] (Tm.mk x1 x2 x3 x4 x5 x6) u.1 v.1 L.2=b at sb O ⊢
 have fin: ∀ (s:LB×Int),BrP 60001 s.1->s.1.length<=10->
   (∀c,FN (mM c (pH 1 1 l)).1)/\(∀c,FN (mM c (pH 1 1 r)).1)/\
   ∀j r1:Tm×Int,FN j.1->FN r1.1->In k (J4 (s.1++[⟨[⟨0,1⟩],[j.1]⟩]++[⟨[⟨1,0⟩],[r1.1]⟩])):=fun s hs hl=>by
  refine ⟨fun c=>arW fun t h=>azc (by omega) f1.ok h,fun c=>arW fun t h=>azc (by omega) f2.ok h,fun j r1 h1 h2=> ?_⟩
  have ax:BrP 60001 (s.1++[⟨[⟨0,1⟩],[j.1]⟩]++[⟨[⟨1,0⟩],[r1.1]⟩]):=au0 (au0 hs (atT (at3 (by omega) (by omega)) (h1.sm.1.mono (by omega)) (by have:=h1.sm.2;omega) (atK _))) (atT (at3 (by omega) (by omega)) (h2.sm.1.mono (by omega)) (by have:=h2.sm.2;omega) (atK _))
  obtain ⟨b1,b2⟩:=avs ax
  exact Jb hk (by omega) b1 (by simp;omega) b2
 have last: ∀ {c:Int} {bb:Tm} {sys:LB},In k bb->In k (J4 sys)->In k (dS 12 [(mM c (c6 [L.1,bb,J4 sys] (dF L.1 bb sys))).1]):=by
  intro c bb sys h1 h2
  have q:=(azg hk (qL.isIn hk) h1 h2 c).sm
  have:=at6 (kd:=12) (by omega) (n:=20000) (ks:=[(mM c (c6 [L.1,bb,J4 sys] (dF L.1 bb sys))).1]) (fun x hx=>by
   rw [List.mem_singleton] at hx;subst hx
   exact ⟨q.1,by have:=q.2;omega⟩) (by simp)
  exact this.1.isIn hk (by omega)
 have ib:In k b.1:=sb.1.isIn hk (by omega)
 simp only [ax1,ag hk.fu,ar,g0,g1,g2,sf,zc,aq3]
 rw [wa hk (fun _=>f1.isIn hk) ayD,hu,wa hk (fun _=>f2.isIn hk) ayD,hv,aH4 hk (f0.isIn hk),hL]
 obtain ⟨a6,h1,h2⟩:=O _
 rw [h1]
 dsimp only
 by_cases hl:phi.length=0
 ·rw [decide_eq_false (by omega),n3]
  obtain ⟨fl,fr,fw⟩:=fin ([],b.2) (atK _) (by simp)
  have E:az2 phi (Tm.mk x1 x2 x3 x4 x5 x6) u.1 v.1 b.2=([],b.2):=if_pos hl
  rw [E]
  dsimp only
  generalize z:mM b.2 (pH 1 1 l)=j
  generalize A:mM j.2 (pH 1 1 r)=r1
  have F:FN j.1:=z▸fl _
  have J:FN r1.1:=A▸fr _
  have M:=fw j r1 F J
  dsimp only at M ⊢
  rw [as2] at M ⊢
  refine ⟨_,_, ?_,rfl,last ib M⟩
  rw [v6 hk (fun _=>f1.isIn hk) (by omega),z,J5 (by simp),v6 hk (fun _=>f2.isIn hk) (by omega),A,J5 (by simp),h2,Rx hk (fun _=>⟨qL.isIn hk,ib,M⟩) (fun e h=>BJ (fun e h=>o_ h) h)]
 ·rw [decide_eq_true (by omega),ae]
  have E:az2 phi (Tm.mk x1 x2 x3 x4 x5 x6) u.1 v.1 b.2=([⟨(auA b.2 phi).1,[(atM 2 [⟨2,0⟩] (Tm.mk x1 x2 x3 x4 x5 x6) u.1 v.1 (auA b.2 phi).2).1]⟩],(atM 2 [⟨2,0⟩] (Tm.mk x1 x2 x3 x4 x5 x6) u.1 v.1 (auA b.2 phi).2).2):=if_neg hl
  rw [E]
  dsimp only
  have T:=aHP (c:=b.2) hp.1
  have hrow:(if b.2=0 then agS phi 0 1 else ([],b.2))=auA b.2 phi:=rfl
  rw [v_ hk hp.1.2 (G9 hp).2 (by omega),hrow]
  generalize auA b.2 phi=f at T ⊢
  obtain ⟨a7,h3,h4⟩:=aDe (phi:=phi) hk (b:=2) (c:=f.2) (by omega) (r:=⟨2,0⟩) ia (W.isIn hk) (Y.isIn hk) _
  rw [h3]
  have sq:=ao f.2
  generalize atM 2 [⟨2,0⟩] (Tm.mk x1 x2 x3 x4 x5 x6) u.1 v.1 f.2=q at h4 sq ⊢
  dsimp only
  obtain ⟨fl,fr,fw⟩:=fin ([⟨f.1,[q.1]⟩],q.2) (atT T sq.1 (by have:=sq.2;omega) (atK _)) (by simp)
  generalize z:mM q.2 (pH 1 1 l)=j
  generalize A:mM j.2 (pH 1 1 r)=r1
  have F:FN j.1:=z▸fl _
  have J:FN r1.1:=A▸fr _
  have M:=fw j r1 F J
  refine ⟨_,_, ?_,rfl,last ib M⟩
  rw [J5 (by simp),v6 hk (fun _=>f1.isIn hk) (by omega),z,J5 (by simp),v6 hk (fun _=>f2.isIn hk) (by omega),A,J5 (by simp),h2,h4,Rx hk (fun _=>⟨qL.isIn hk,ib,M⟩) (fun e h=>BJ (fun e h=>o_ h) h)]
end
end Go.Proofs.YtgmmefmmnakbpaaGreatDoor
namespace Go.Proofs.YtgmmefmmnakbpaaGreatDoor
open Go PI
set_option maxRecDepth 20000
section
variable {kd:Int}
theorem aoD (t:Tm): ∀ {V D:Int},aqp true V D t=true->aqp false V D t=true:=by
 induction t using gq with
 |h kd n A r B sys j q=>
  intro V D h
  have hk: ∀ {l:LT} {i:Nat},(∀x∈l,∀ {V D:Int},aqp true V D x=true->aqp false V D x=true)->bO true V D kd i l=true->bO false V D kd i l=true:=by
   intro l
   induction l<;>grind [bO]
  rw [aqp,anZ,anZ,anZ] at h ⊢
  refine ⟨rfl,h.2.1,hk j h.2.2.1, ?_⟩
  have:=h.2.2.2
  rw [wH,ars] at this ⊢
  intro b hb
  have:=this b hb
  rw [ars] at this ⊢
  exact fun x z=>q b hb x z (this x z)
end
abbrev Wk0 (V D:Int) (t:Tm):Prop:=aqp false V D t=true
theorem aJj {V D:Int} {r:LC} {t t':Tm} (hf:Fm t) (z:0<=D) (q:RF r) (hl:dg r D=true) (hs:Wk0 V (D+1) t) (h:ame 0 r t= .ok t'):Wk0 V D t':=by
 unfold ame at h
 obtain ⟨s,A,h⟩:=i8 h
 obtain ⟨x,rfl⟩:=rR A
 refine aoV (c:=D) (kQ x) ?_ t (Int.le_refl 0) z (by omega) hf.ok hf.rows hs h
 exact aot (n:=0) q x (anY ((an1 q).1 hl) fun j hj=>by
  have:up1 0 1 j=j+1:=by unfold up1;rw [if_neg (by omega)]
  rw [this];omega)
section
variable {n V D kd:Int} {u:Tm}
end
variable {S:Type} {k:Nat}
theorem aIX {r:LC} {t y:Tm} (j:Fm t) (q:RF r) (hl:dg r 24=true) (h:ame 0 r t= .ok y):Fm y:=by
 obtain ⟨x,q2,A⟩:=akM j h
 have ha:=(eU j.2).2.2
 have hs:Wk0 (-1) (24+1) t:=by
  show aqp false (-1) (24+1) t=true
  rw [at8 t (d:=24+1) (d':=24) (by decide) (by decide)];exact ha
 have z:=aJj j (by decide) q hl hs h
 refine ⟨x, ?_⟩
 unfold bw
 rw [if_neg (by omega),if_neg (by omega),if_pos z]
theorem aBA {D:Int} (h:0<=D):dg [⟨0,0⟩] D=true:=aov (d:=0) Qz (by decide) h
theorem aBC {D:Int} (h:0<=D):dg [] D=true:=aov (d:=0) rA (by decide) h
def aut (c:Cl):Bool:= !(bP (ep c.pos c.neg) 0)
def atH (f:LC):LC×Int:=bp (f.filter aut)
theorem aGS (hk:Fu k) (I:LC->OS S) {l:LC} (hl:aq l) (hlen:l.length<2147483648):
  ∀ (r p:LC) (m:Nat) (o:LC),l=p++r->r.length<m->o.length+r.length<4294967296->avN k I 0 l m (p.length:Int) o=I (o++r.filter aut):=by
 intro r
 induction r with
 |nil=>
  intro p m o h z ho
  obtain ⟨m,rfl,j⟩:=amr z
  simp only [avN,aw1,akb h,n3,List.filter_nil,arE]
 |cons x r A=>
  intro p m o h z ho
  obtain ⟨m,rfl,j⟩:=amr z
  obtain ⟨E,F,J,B⟩:=apy h (by omega)
  have q:aX x:=hl x (by rw [h];simp)
  simp only [aq5] at ho
  have L:U32 (ep x.pos x.neg):=FX q.1 q.2
  simp only [avN,aw1,E,ae,F,sf,ag hk,ay3,awS q.1 q.2,rF hk L,J]
  show ab (aut x) _ _=_
  cases hf:aut x with
  |true=>
   rw [ae,J5 (by simp;omega),A (p++[x]) m (o++[x]) B j (by rw [List.length_append,List.length_singleton];omega),List.filter_cons_of_pos hf,List.append_assoc];rfl
  |false=>
   rw [n3,A (p++[x]) m o B j (by omega),List.filter_cons_of_neg (by rw [hf];decide)]
theorem aH7 (h:F3 k) {f:LC} (hf:aq f) (j:cV f=true) (hlen:f.length<2147483648) (I:LC×Int->OS S):axu k f 0 I=I (atH f):=by
 have q:4294968296<=k:=h
 have hk:=h.fu
 have ho:aq (f.filter aut):=fun c hc=>hf c (List.mem_filter.1 hc).1
 have hl:=List.length_filter_le aut f
 simp only [axu,ag hk,Hb hk hf hlen,j,aq6,n3,ai8 hk]
 rw [show (!(decide ((0:Int)<=0/\(0:Int)<24)))=false from by decide,n3]
 simp only [ay4,az7]
 rw [show ((0:Int))=((([]:LC).length:Nat):Int) from rfl]
 refine (aGS hk _ hf hlen f [] k [] rfl (by omega) (by simp;omega)).trans ?_
 rw [as2,kX hk ho (by omega)]
 rfl
theorem aAD {f:LC} (h:RX true f):(atH f).2=0/\RX true (atH f).1/\(∀j:Nat->Prop,b7 j f->b7 j (atH f).1):=by
 have hs: ∀c∈f.filter aut,c∈f:=fun c hc=>(List.mem_filter.1 hc).1
 have q:(atH f).2=0:=LH (fun c hc=>h.1.rc (hs c hc)) (by have:=h.1.len;have:=List.length_filter_le aut f;omega)
 have ho:aq (f.filter aut):=fun c hc=>h.1.2 c (hs c hc)
 have:=LG ho (fun c hc=>h.2 rfl c (hs c hc)) q
 exact ⟨q,⟨this.1,fun _=>this.2⟩,fun j hl=>jy (azw hl hs)⟩
def atd (c:Int) (f:LC):LC×Int:=
 if c=0 then ((tE (an8 0 [] (aml (atH f).1 arD arD))).1.r,(tE (an8 0 [] (aml (atH f).1 arD arD))).2) else ([],c)
theorem uni_q:Q2 arD:=by
 refine ⟨⟨?_, ?_, ?_⟩, ?_⟩
 ·rw [OkT,aZ,ba];exact ⟨⟨by unfold aG;omega,by unfold aG;omega,by decide,(fun c hc=>by cases hc),by simp,by simp,by simp⟩,trivial,trivial⟩
 ·rw [au,ay,aI];omega
 ·rw [am,aH,aO];omega
 ·rw [am,aH,aO];omega
theorem aI_ {r:LC} (h:RX true r) (hk:F3 k):In k (aml r arD arD):=by
 have:=aol (G9 h) uni_q.1 uni_q.1 (by have:=uni_q.2;omega) (by have:=uni_q.2;omega)
 exact this.isIn hk (by omega)
theorem aIt (hk:F3 k) {f:LC} {c:Int} (h:RX true f) (I:LC×Int->OS S):axT k f c I=I (atd c f):=by
 simp only [axT,ag hk.fu,dG,ar,rJ]
 unfold atd
 by_cases hc:c=0
 case neg=>rw [dj hc,aqD,ae,if_neg hc]
 subst hc
 obtain ⟨a0,a1,_⟩:=aAD h
 have hlen:=(G9 h).2
 have j:cV f=true:=RFa.right ⟨h.1,h.2 rfl⟩
 rw [show (!((0:Int)==0))=false from rfl,n3,aH7 hk h.1.2 j (by omega)]
 rw [a0]
 simp only [if_pos]
 rw [show (!((0:Int)==0))=false from rfl,n3]
 simp only [zc,tK]
 have e:Tm.mk 14 0 alH (atH f).1 [Tm.mk 3 0 alH [] [] [],Tm.mk 3 0 alH [] [] []] []=aml (atH f).1 arD arD:=rfl
 rw [e,ap8 hk (aI_ a1 hk) (i:=0) (by decide) rA]
 cases an8 0 [] (aml (atH f).1 arD arD) with
 |error e=>
  show I (noT.r,_)=I (noT.r,e)
  by_cases he:e=0
  ·subst he;rfl
  ·rw [show (tE (.error e)).2=e from rfl,if_neg he]
 |ok y=>rfl
def ark {α β:Type} (F:Int->β->α×Int):Int->List β->List α×Int
 |c,[]=>([],c)
 |c,x::r=>((F c x).1::(ark F (F c x).2 r).1,(ark F (F c x).2 r).2)
theorem aur {α β:Type} {F:Int->β->α×Int}: ∀ {l:List β} {c:Int},(ark F c l).1.length=l.length:=by
 intro l
 induction l with
 |nil=>intro c;rfl
 |cons x l h=>intro c;rw [ark,aq5,aq5,h]
theorem au7 {α β:Type} {F:Int->β->α×Int} {Q:α->Prop}: ∀ {l:List β} {c:Int},(∀x∈l,∀c,Q (F c x).1)-> ∀y∈(ark F c l).1,Q y:=by
 intro l
 induction l with
 |nil=>intro c _ y hy;cases hy
 |cons x l j=>
  intro c h y hy
  rw [ark] at hy
  rcases arH.1 hy with rfl|hy
  ·exact h x (by simp) c
  ·exact j (fun x q=>h x (by simp [q])) y hy
theorem ax7 {α β:Type} {l:List β} {L:Nat->Int->Int->List α->OS S} {F:Int->β->α×Int} {I:List α×Int->OS S}
  (q: ∀ (m:Nat) (c:Int) (acc:List α),acc.length=l.length->L (m+1) c (l.length:Int) acc=I (acc,c))
  (j: ∀ (m:Nat) (c:Int) (x:β) (p r:List β) (acc:List α),l=p++x::r->acc.length=p.length->L (m+1) c (p.length:Int) acc=L m (F c x).2 (((p++[x]).length:Nat):Int) (acc++[(F c x).1])):
  ∀ (r p:List β) (acc:List α) (m:Nat) (c:Int),l=p++r->r.length<m->acc.length=p.length->L m c (p.length:Int) acc=I (acc++(ark F c r).1,(ark F c r).2):=by
 intro r
 induction r with
 |nil=>
  intro p acc m c h A ha
  obtain ⟨m,rfl,z⟩:=amr A
  rw [arE] at h
  subst h
  rw [q m c acc ha,ark,arE]
 |cons x r B=>
  intro p acc m c h A ha
  obtain ⟨m,rfl,z⟩:=amr A
  rw [j m c x p r acc h ha,B (p++[x]) _ m _ (by rw [h];simp) z (by simp [ha]),ark,List.append_assoc];rfl
def atD:Int->LB->LB×Int
 |c,[]=>([],c)
 |c,x::r=>if (atd c x.face).1.length=0 then atD (atd c x.face).2 r else (⟨(atd c x.face).1,x.kids⟩::(atD (atd c x.face).2 r).1,(atD (atd c x.face).2 r).2)
theorem aAE {c:Int} {f:LC} (h:RX true f):aq (atd c f).1/\(atd c f).1.length<1073741824:=by
 have j:aq ([]:LC)/\([]:LC).length<1073741824:=⟨fun c hc=>(by cases hc),by simp⟩
 unfold atd
 split
 ·have hk:OkT (aml (atH f).1 arD arD):=(aol (G9 (aAD h).2.1) uni_q.1 uni_q.1 (by have:=uni_q.2;omega) (by have:=uni_q.2;omega)).ok
  cases q:an8 0 [] (aml (atH f).1 arD arD) with
  |error e=>exact j
  |ok y=>
   have:=(avn hk q).1.ok.no
   exact ⟨this.2.2.2.1,this.2.2.2.2.1⟩
 ·exact j
theorem aIT: ∀ {l:LB} {c:Int},(atD c l).1.length<=l.length:=by
 intro l
 induction l with
 |nil=>intro c;exact arq _
 |cons x l h=>
  intro c
  rw [atD]
  split
  ·have:=h (c:=(atd c x.face).2);simp;omega
  ·have:=h (c:=(atd c x.face).2);simp;omega
def StB (b:Br Tm):Prop:=b.kids=[AK b,k1 b]/\Fm (AK b)/\Fm (k1 b)/\aq b.face/\b.face.length<1073741824
theorem aIU: ∀ {l:LB} {c:Int},(∀b∈l,b.kids=[AK b,k1 b]/\Fm (AK b)/\Fm (k1 b)/\RX true b.face)-> ∀b∈(atD c l).1,StB b:=by
 intro l
 induction l with
 |nil=>intro c _ b hb;cases hb
 |cons x l j=>
  intro c h b hb
  rw [atD] at hb
  obtain ⟨q,q2,z,A⟩:=h x (by simp)
  split at hb
  ·exact j (fun b hb=>h b (by simp [hb])) b hb
  ·rcases arH.1 hb with rfl|hb
   ·have:=aAE (c:=c) A
    exact ⟨q,q2,z,this.1,this.2⟩
   ·exact j (fun b hb=>h b (by simp [hb])) b hb
def asb (phi:LC) (F:Int->Tm×Int) (c:Int):LB×Int:=
 if phi.length=0 then ([],c) else ([⟨phi,[(F c).1]⟩],(F c).2)
theorem aJa: ∀ {l:LB},(∀b∈l,b.kids=[AK b,k1 b])->2*l.length<=aI l:=by
 intro l
 induction l with
 |nil=>simp
 |cons x l j=>
  intro h
  have h1:=j fun b hb=>h b (by simp [hb])
  have h2:=h x (by simp)
  obtain ⟨f,q⟩:=x
  grind [aI,fG,ay,mB]
theorem ayb {g:Tm} (j:Fm g) (q:g.kind=16):g.sys.length<=10000:=by
 have h:=aJa fun b hb=>((j.gl q).1 b hb).1
 have:=j.siz
 cases g<;>grind [au,Tm.sys]
def GN (x:Tm):Prop:=Fm x/\x.kind=16\/x=noT
theorem GN.es (hk:F3 k) {x:Tm} (h:GN x) (I:LB->OS S):au4 k x I=I (eh x):=by
 have j:4294968296<=k:=hk
 simp only [au4,ag hk.fu,axE,ayK]
 rcases h with ⟨h1,h2⟩|rfl
 ·obtain ⟨q,hl,_⟩:=h1.gl h2
  exact azu hk I (fun b hb=>(q b hb).1) hl x.sys [] [] k rfl (by omega) (by grind)
 ·exact azu (l:=[]) hk I (fun b hb=>by cases hb) (by simp) [] [] [] k rfl (by grind) (by simp)
theorem GN.un {x a:Tm} (h:GN x) (ha:Fm a):Sm 40002 (arZ a (eh x))/\am (arZ a (eh x))<=201:=by
 have:=ha.dep;have:=ha.siz
 rcases h with ⟨h1,h2⟩|rfl
 ·obtain ⟨j,q,A,B,_,_⟩:=aze h1 h2
  have d:=h1.dep;have z:=h1.siz
  have E:aO x.sys+1<=am x:=by cases x<;>grind [am,Tm.sys]
  have F:aI x.sys+1<=au x:=by cases x<;>grind [au,Tm.sys]
  have I:=ayb h1 h2
  have d1:am (arZ a (eh x))<=201:=by grind [am,aH]
  refine ⟨⟨?_, ?_,by omega⟩,d1⟩
  ·rw [OkT,aZ,aZ];exact ⟨⟨by unfold aG;omega,by unfold aG;omega,by decide,(fun c hc=>by cases hc),by simp,by simp,by omega⟩,⟨ha.ok,trivial⟩,j⟩
  grind [au,ay]
 ·have d1:am (arZ a (eh noT))<=201:=by rw [am,aH,aH];show max _ (aO [])+1<=_;rw [aO];omega
  refine ⟨⟨?_, ?_,by omega⟩,d1⟩
  ·rw [OkT,aZ,aZ];refine ⟨⟨by unfold aG;omega,by unfold aG;omega,by decide,(fun c hc=>by cases hc),by simp,by simp,by simp [eh,noT,Tm.sys]⟩,⟨ha.ok,trivial⟩, ?_⟩
   show ba [];rw [ba];trivial
  ·rw [au,ay,ay];show _+aI []<=_;rw [aI];omega
theorem ayc {c:Int} {r:LC} {g:Tm} (h:Fm g) (j:g.kind=16) (q:RF r) (hl:dg r 24=true):GN (mM c (an8 0 r g)).1:=by
 unfold mM
 split
 ·cases x:an8 0 r g with
  |error e=>exact .inr rfl
  |ok y=>
   obtain ⟨h1,h2⟩:=aDo h.ok x
   exact .inl ⟨aIX h q hl h2,(TZ h2).trans j⟩
 ·exact .inr rfl
def awb (phi:LC) (a:Tm) (c:Int) (b:Br Tm):Br Tm×Int:=
 (⟨b.face,[dS 6 [dS 9 [k1 b],(mM c (aso (AK b) phi a ⟨0,1⟩ [⟨3,0⟩])).1]]⟩,(mM c (aso (AK b) phi a ⟨0,1⟩ [⟨3,0⟩])).2)
def hdT (g:Tm):Tm:=g.kids.headD noT
structure BegR where
 st:LB
 a1:Tm
 c:Int
def auE (phi:LC) (a a0:Tm) (st:LB) (c:Int):LB×Int:=
 ((asb phi (fun c=>mM c (wA 0 1 a0)) c).1++(ark (awb phi a) (asb phi (fun c=>mM c (wA 0 1 a0)) c).2 st).1,(ark (awb phi a) (asb phi (fun c=>mM c (wA 0 1 a0)) c).2 st).2)
def atI (g:Tm) (phi:LC) (a a0:Tm) (st:LB) (c:Int):Tm×Int:=
 mM (auE phi a a0 st c).2 (c6 [hdT g,a0,J4 (auE phi a a0 st c).1] (dF (hdT g) a0 (auE phi a a0 st c).1))
def auY (g:Tm) (phi:LC) (a:Tm):BegR:=
 let T:=mM 0 (an8 0 [] g)
 let st:=atD T.2 g.sys
 let C:=atI g phi a (arZ a (eh T.1)) st.1 st.2
 ⟨st.1,C.1,C.2⟩
section
variable {phi:LC} {x1 x2:Int} {x3:BA} {x4:LC} {x5:LT} {x6 st0:LB} {y1 y2:Int} {y3:BA} {y4:LC} {y5:LT} {y6:LB} {z1 z2:Int} {z3:BA} {z4:LC} {z5:LT} {z6:LB}
theorem aIz (hk:F3 k) (fa:Fm (Tm.mk x1 x2 x3 x4 x5 x6)) (hp:RX true phi) {st:LB} (hs: ∀b∈st,StB b) (hl:st.length<=10000) (c:Int) (I:LB×Int->OS S):
  awq k st c phi x1 x2 x3 x4 x5 x6 st0 y1 y2 y3 y4 y5 y6 z1 z2 z3 z4 z5 z6 I=I (ark (awb phi (Tm.mk x1 x2 x3 x4 x5 x6)) c st):=by
 have j:4294968296<=k:=hk
 simp only [awq,aAa]
 have:=ax7 (S:=S) (l:=st) (L:=fun m c i acc=>avQ k I phi y2 y3 y4 y5 y6 z1 z2 z3 z4 z5 x1 z6 x2 x3 x4 x5 x6 st0 y1 st m c i acc) (F:=awb phi (Tm.mk x1 x2 x3 x4 x5 x6)) (I:=I)
  (fun m c acc ha=>by
   grind [avQ,aw5,n3])
  (fun m c x p r acc h ha=>by
   obtain ⟨q,z,A,_⟩:=apy h (by omega)
   have hlen:p.length<st.length:=by grind
   obtain ⟨B,q2,E,J⟩:=hs x (by grind)
   have g0:af x.kids 0=some (AK x):=ED (n:=0) rfl (by grind)
   have g1:af x.kids 1=some (k1 x):=ED (n:=1) rfl (by grind)
   simp only [avQ,aw5,q,ae,z,sf,ag hk.fu,ay7,g0,g1,ar,aum,zc,aq3,A]
   rw [aDh hk (q2.isIn hk) (fa.isIn hk) (G9 hp),J5 (by grind)]
   rfl)
  st [] [] k c rfl (by omega) rfl
 grind
theorem aIJ (hk:F3 k) {st:LB} {a0:Tm} (ha:In k a0) (c:Int) (I:LB×Int->OS S):
  awp k c phi x1 x2 x3 x4 x5 x6 st y1 y2 y3 y4 y5 y6 z1 z2 z3 z4 z5 z6 a0 I=I (asb phi (fun c=>mM c (wA 0 1 a0)) c):=by
 simp only [awp,ag hk.fu,ar,avw,aq3]
 rw [ajn hk (fun _=>ha) (by omega) (by omega)]
 unfold asb
 by_cases h:phi.length=0<;>simp_all [ae,beq_false_of_ne,n3]
theorem awX {F:Int->Tm×Int} (hp:RX true phi) {n:Nat} (h: ∀c,Sm n (F c).1/\am (F c).1<=290) (c:Int):BrP n (asb phi F c).1/\(asb phi F c).1.length<=1:=by
 grind [asb,atK,atT,G9]
theorem aHQ (hk:F3 k) {a:Tm} (fa:Fm a) (hp:RX true phi) {st:LB} (hs: ∀b∈st,StB b) (c:Int):BrP 400000 (ark (awb phi a) c st).1:=by
 intro y z
 refine au7 (Q:=fun y=> ∃t,y.kids=[t]/\Sm 400000 t/\am t<=299/\aq y.face/\y.face.length<1073741824) (F:=awb phi a) (l:=st) (c:=c) (fun x j c=> ?_) y z
 obtain ⟨J,q2,A,B,E⟩:=hs x j
 have a9:=awd (kd:=9) (by omega) (.inl A)
 have q:Q2 (mM c (aso (AK x) phi a ⟨0,1⟩ [⟨3,0⟩])).1:=atC fun t h=>ayY hk q2.ok fa.ok hp.1 aCx QD h
 have I:=at6 (kd:=6) (by omega) (n:=80001) (ks:=[dS 9 [k1 x],(mM c (aso (AK x) phi a ⟨0,1⟩ [⟨3,0⟩])).1]) (fun x j=>by
  simp at j
  rcases j with rfl|rfl
  ·grind
  ·exact ⟨q.1.mono (by omega),by have:=q.2;omega⟩) (by simp)
 exact ⟨_,rfl,I.1.mono (by omega),by omega,B,E⟩
theorem aAL (hk:F3 k) {a a0:Tm} (fa:Fm a) (j:OkT a0) (hp:RX true phi) {st:LB} (hs: ∀b∈st,StB b) (hl:st.length<=10000) (c:Int):In k (J4 (auE phi a a0 st c).1):=by
 have q: ∀c,FN (mM c (wA 0 1 a0)).1:=fun c=>arW fun t h=>mD (by omega) (auk j h).1 (auk j h).2
 obtain ⟨x,B⟩:=awX (F:=fun c=>mM c (wA 0 1 a0)) hp (n:=400000) (fun c=>⟨(q c).sm.1.mono (by omega),by have:=(q c).sm.2;omega⟩) c
 have hb:BrP 400000 (auE phi a a0 st c).1:=au0 x (aHQ hk fa hp hs _)
 obtain ⟨z,A⟩:=avs hb
 refine Jb hk (by omega) z ?_ A
 grind [auE,aur]
theorem aH2 (hk:F3 k) {g a0:Tm} (A:Fm g) (B:g.kind=16) (fa:Fm (Tm.mk x1 x2 x3 x4 x5 x6)) (j:In k a0) (hp:RX true phi) {st:LB} (hs: ∀b∈st,StB b) (hl:st.length<=10000) (c:Int) (I:Int×LB×Int×Int×BA×LC×LT×LB->OS S):
  (awp k c phi x1 x2 x3 x4 x5 x6 st y1 y2 y3 y4 y5 y6 z1 z2 z3 z4 z5 z6 a0 fun r8=>awq k st r8.2 phi x1 x2 x3 x4 x5 x6 st y1 y2 y3 y4 y5 y6 z1 z2 z3 z4 z5 z6 fun r9=>asP (aw 1099511627776 r8.1.length r9.1.length) fun E=>asP (af g.kids 0) fun x=>y9 k x a0 (r8.1++r9.1) r9.2 fun r12=>I (r12.2,st,r12.1.kind,r12.1.n,r12.1.name,r12.1.r,r12.1.kids,r12.1.sys))=
   I ((atI g phi (Tm.mk x1 x2 x3 x4 x5 x6) a0 st c).2,st,(atI g phi (Tm.mk x1 x2 x3 x4 x5 x6) a0 st c).1.kind,(atI g phi (Tm.mk x1 x2 x3 x4 x5 x6) a0 st c).1.n,(atI g phi (Tm.mk x1 x2 x3 x4 x5 x6) a0 st c).1.name,(atI g phi (Tm.mk x1 x2 x3 x4 x5 x6) a0 st c).1.r,(atI g phi (Tm.mk x1 x2 x3 x4 x5 x6) a0 st c).1.kids,(atI g phi (Tm.mk x1 x2 x3 x4 x5 x6) a0 st c).1.sys):=by
 obtain ⟨_,_,b,hb,fb⟩:=A.gl B
 have J:af g.kids 0=some b:=ED (n:=0) rfl (by grind)
 have hd:hdT g=b:=by grind [hdT]
 have L:=(awX (F:=fun c=>mM c (wA 0 1 a0)) hp (n:=20000) (fun c=>by
  have z:FN (mM c (wA 0 1 a0)).1:=arW fun t h=>mD (by omega) (auk j.1 h).1 (auk j.1 h).2
  exact ⟨z.sm.1,by have:=z.sm.2;omega⟩) c).2
 rw [aIJ hk j,aIz hk fa hp hs hl,J5 (by rw [aur];omega),J,sf]
 have q:=aAL hk fa j.1 hp hs hl c
 unfold auE at q
 rw [Rx hk (fun _=>⟨fb.isIn hk,j,q⟩) (fun e h=>BJ (fun e h=>o_ h) h)]
 grind [atI,auE]
theorem aGJ (hk:F3 k) {g a0:Tm} (A:Fm g) (B:g.kind=16) (fa:Fm (Tm.mk x1 x2 x3 x4 x5 x6)) {es:LB} (E:Tm.mk 18 0 alH [] [Tm.mk x1 x2 x3 x4 x5 x6] es=a0) (Y:In k a0) (hp:RX true phi) (I:Int×LB×Int×Int×BA×LC×LT×LB->OS S):
  ∀ (r p st:LB) (m:Nat) (c:Int),g.sys=p++r->r.length<m->(∀b∈st,StB b)->st.length+r.length<=10000->
   avP k I phi y2 y3 y4 y5 y6 z1 z2 z3 z4 z5 x1 z6 x2 x3 x4 x5 x6 y1 g (18,0,alH,[Tm.mk x1 x2 x3 x4 x5 x6],es) m c st (p.length:Int)=
    (fun C:Tm×Int=>I (C.2,st++(atD c r).1,C.1.kind,C.1.n,C.1.name,C.1.r,C.1.kids,C.1.sys)) (atI g phi (Tm.mk x1 x2 x3 x4 x5 x6) a0 (st++(atD c r).1) (atD c r).2):=by
 obtain ⟨F,hl,_⟩:=A.gl B
 intro r
 induction r with
 |nil=>
  intro p st m c h j hs ha
  obtain ⟨m,rfl,q⟩:=amr j
  simp only [avP,aw4,akb h,n3,ag hk.fu,ar,atD,arE,E]
  simp_all [aH2]
 |cons x r ih=>
  intro p st m c h j hs ha
  obtain ⟨m,rfl,q⟩:=amr j
  obtain ⟨J,L,M,e4⟩:=apy h (by omega)
  rw [aq5] at ha
  obtain ⟨O,q2,T,z⟩:=F x (by grind)
  simp only [avP,aw4,J,ae,L,sf,ag hk.fu,M,aq3]
  rw [aIt hk z,atD]
  by_cases W:(atd c x.face).1.length=0
  ·grind [decide_eq_false,n3]
  ·rw [if_neg W,decide_eq_true (by omega),ae,J5 (by grind)]
   have:=aAE (c:=c) z
   have hb:StB ⟨(atd c x.face).1,x.kids⟩:=⟨O,q2,T,this.1,this.2⟩
   grind
theorem aH1 (hk:F3 k) {g:Tm} (h:Fm g) (j:g.kind=16) (fa:Fm (Tm.mk x1 x2 x3 x4 x5 x6)) (hp:RX true phi) (I:Int×LB×Int×Int×BA×LC×LT×LB->OS S):
  axB k g 0 phi x1 x2 x3 x4 x5 x6 y1 y2 y3 y4 y5 y6 z1 z2 z3 z4 z5 z6 I=(fun B:BegR=>I (B.c,B.st,B.a1.kind,B.a1.n,B.a1.name,B.a1.r,B.a1.kids,B.a1.sys)) (auY g phi (Tm.mk x1 x2 x3 x4 x5 x6)):=by
 have x:4294968296<=k:=hk
 simp only [axB,az_,ag hk.fu,ar]
 rw [wa hk (fun _=>h.isIn hk) ayD]
 have q:GN (mM 0 (an8 0 [] g)).1:=ayc h j rA (aBC (by decide))
 rw [q.es hk]
 simp only [aun,ag hk.fu,JM,ar]
 have hu:=q.un fa
 have z:=hu.1.isIn hk (by omega)
 have hlen:=ayb h j
 refine (aGJ hk h j fa rfl z hp I g.sys [] [] k _ rfl (by omega) (fun b hb=>by cases hb) (by grind)).trans ?_
 rfl
end
def azJ (w z:Tm):Tm:=dS 8 [w,dS 12 [z]]
def ayl (u w z:Tm):Tm:=pap [⟨1,0⟩] (dS 6 [dS 10 [u],azJ w z]) (dS 9 [u]) (azJ w z)
def atP (a1 cen x:Tm) (c:Int):Tm×Int:=
 let u:=mM c (wA 0 1 cen)
 let w:=mM u.2 (wA 0 1 x)
 let z:=mM w.2 (wA 0 2 a1)
 (ayl u.1 w.1 z.1,z.2)
def auF (e a1:Tm):Tm:=dS 6 [dS 10 [e],a1]
def awx (phi:LC) (a a1 cen:Tm) (c:Int) (b:Br Tm):Br Tm×Int:=
 (⟨b.face,[(atP a1 cen (aml phi (AK b) a) c).1]⟩,(atP a1 cen (aml phi (AK b) a) c).2)
def awy (phi:LC) (a a1 cen:Tm) (st:LB) (c:Int):LB×Int:=
 ((asb phi (atP a1 cen a) c).1++(ark (awx phi a a1 cen) (asb phi (atP a1 cen a) c).2 st).1,(ark (awx phi a a1 cen) (asb phi (atP a1 cen a) c).2 st).2)
def aya (phi:LC) (a a1 t1:Tm) (st:LB) (t e:Tm) (c:Int):Tm×Int:=
 let f:=mM c (c6 [t,t1,dS 9 [e],a1] (atO t t1 (dS 9 [e]) a1))
 let s:=awy phi a a1 (auF e a1) st f.2
 (.mk 15 0 alH [] [f.1,dS 9 [auF e a1]] s.1,s.2)
theorem atm {kd:Int} (h:0<=kd/\kd<=28) {n m d:Nat} {x y:Tm} (j:Sm n x/\am x<=d) (q:Sm m y/\am y<=d) (hd:d<=290):Sm (n+m+1) (dS kd [x,y])/\am (dS kd [x,y])<=d+1:=by
 unfold dS
 refine ⟨(Hn (kd:=kd) h (r:=[]) ⟨(fun c hc=>by cases hc),by simp⟩ (ks:=[x,y]) (sys:=[]) (n:=n+m) (m:=0) (fun z A=>by
  simp at A
  rcases A with rfl|rfl
  ·exact ⟨j.1.ok,by omega⟩
  ·exact ⟨q.1.ok,by omega⟩) (by simp) (by rw [ay,ay,ay];have:=j.1.siz;have:=q.1.siz;omega) (by rw [ba];trivial) (by simp) (by rw [aO];omega) (by rw [aI];omega)).mono (by omega), ?_⟩
 grind [am,aH,aO]
theorem at5 {kd:Int} (h:0<=kd/\kd<=28) {n d:Nat} {x:Tm} (j:Sm n x/\am x<=d) (hd:d<=290):Sm (n+1) (dS kd [x])/\am (dS kd [x])<=d+1:=by
 unfold dS
 refine ⟨(Hn (kd:=kd) h (r:=[]) ⟨(fun c hc=>by cases hc),by simp⟩ (ks:=[x]) (sys:=[]) (n:=n) (m:=0) (fun z q=>by
  simp at q;subst q
  exact ⟨j.1.ok,by omega⟩) (by simp) (by rw [ay,ay];have:=j.1.siz;omega) (by rw [ba];trivial) (by simp) (by rw [aO];omega) (by rw [aI];omega)).mono (by omega), ?_⟩
 grind [am,aH,aO]
theorem azY {r:LC} (E:aq r/\r.length<1073741824) {n m j d:Nat} {x y z:Tm} (h:Sm n x/\am x<=d) (q:Sm m y/\am y<=d) (A:Sm j z/\am z<=d) (hd:d<=290):Sm (n+m+j+1) (pap r x y z)/\am (pap r x y z)<=d+1:=by
 refine ⟨(Hn (kd:=13) (by omega) E (ks:=[x,y,z]) (sys:=[]) (n:=n+m+j) (m:=0) (fun w B=>by
  simp at B
  rcases B with rfl|rfl|rfl
  ·exact ⟨h.1.ok,by omega⟩
  ·exact ⟨q.1.ok,by omega⟩
  ·exact ⟨A.1.ok,by omega⟩) (by simp) (by rw [ay,ay,ay,ay];have:=h.1.siz;have:=q.1.siz;have:=A.1.siz;omega) (by rw [ba];trivial) (by simp) (by rw [aO];omega) (by rw [aI];omega)).mono (by omega), ?_⟩
 grind [am,aH,aO]
theorem asl {c a b:Int} (ha:0<=a/\a<=1000) (hb:0<=b/\b<=1000) {t:Tm} (j:OkT t):FN (mM c (wA a b t)).1:=arW fun t h=>mD (by omega) (auk j h).1 (auk j h).2
theorem aHd {u w z:Tm} (hu:FN u) (q:FN w) (A:FN z):Sm 200000 (ayl u w z)/\am (ayl u w z)<=210:=by
 have h:=at5 (kd:=12) (by omega) A.sm (by omega)
 have x:=atm (kd:=8) (by omega) (d:=201) ⟨q.sm.1,by have:=q.sm.2;omega⟩ h (by omega)
 have j:=at5 (kd:=10) (by omega) hu.sm (by omega)
 have B:=at5 (kd:=9) (by omega) hu.sm (by omega)
 have E:=atm (kd:=6) (by omega) (d:=202) ⟨j.1,by omega⟩ ⟨x.1,by omega⟩ (by omega)
 have:=azY (at3 (a:=1) (b:=0) (by omega) (by omega)) (d:=203) ⟨E.1,by omega⟩ ⟨B.1,by omega⟩ ⟨x.1,by omega⟩ (by omega)
 exact ⟨this.1.mono (by omega),by grind [ayl,azJ]⟩
theorem aCB {a1 cen x:Tm} {c:Int} (h1:OkT a1) (h2:OkT cen) (h:OkT x):Sm 200000 (atP a1 cen x c).1/\am (atP a1 cen x c).1<=210:=
 aHd (asl (by omega) (by omega) h2) (asl (by omega) (by omega) h) (asl (by omega) (by omega) h1)
theorem ay1 {e a1:Tm} (he:FN e) (h1:FN a1):Sm 40002 (auF e a1)/\am (auF e a1)<=202:=by
 have h:=at5 (kd:=10) (by omega) he.sm (by omega)
 have:=atm (kd:=6) (by omega) (d:=201) ⟨h.1,by omega⟩ ⟨h1.sm.1,by have:=h1.sm.2;omega⟩ (by omega)
 grind [auF]
section
variable {phi:LC} {x1 x2:Int} {x3:BA} {x4:LC} {x5:LT} {x6 st0:LB} {y1 y2:Int} {y3:BA} {y4:LC} {y5:LT} {y6:LB} {z1 z2:Int} {z3:BA} {z4:LC} {z5:LT} {z6:LB}
theorem aDc (hk:F3 k) {x cen:Tm} (i1:In k (Tm.mk y1 y2 y3 y4 y5 y6)) (i2:In k cen) (i3:In k x) (c:Int) (I:Int×Int×BA×LC×LT×Int->OS S):
  ∃ks,awo k x cen c phi x1 x2 x3 x4 x5 x6 st0 y1 y2 y3 y4 y5 y6 z1 z2 z3 z4 z5 z6 I=I (13,0,alH,[⟨1,0⟩],ks,(atP (Tm.mk y1 y2 y3 y4 y5 y6) cen x c).2)/\Tm.mk 13 0 alH [⟨1,0⟩] ks []=(atP (Tm.mk y1 y2 y3 y4 y5 y6) cen x c).1:=by
 refine ⟨_, ?_,rfl⟩
 simp only [awo,ag hk.fu,ar,zc,tO]
 rw [ajn hk (fun _=>i2) (by omega) (by omega),ajn hk (fun _=>i3) (by omega) (by omega),ajn hk (fun _=>i1) (by omega) (by omega)]
 rfl
theorem aIK (hk:F3 k) {cen:Tm} (i1:In k (Tm.mk y1 y2 y3 y4 y5 y6)) (i2:In k cen) (i3:In k (Tm.mk x1 x2 x3 x4 x5 x6)) (c:Int) (I:LB×Int->OS S):
  axD k c phi x1 x2 x3 x4 x5 x6 st0 y1 y2 y3 y4 y5 y6 z1 z2 z3 z4 z5 z6 cen I=I (asb phi (atP (Tm.mk y1 y2 y3 y4 y5 y6) cen (Tm.mk x1 x2 x3 x4 x5 x6)) c):=by
 simp only [axD,ag hk.fu,ar,avx,aq3]
 obtain ⟨j,h1,h2⟩:=aDc (phi:=phi) (x1:=x1) (x2:=x2) (x3:=x3) (x4:=x4) (x5:=x5) (x6:=x6) (st0:=st0) (z1:=z1) (z2:=z2) (z3:=z3) (z4:=z4) (z5:=z5) (z6:=z6) hk i1 i2 i3 c (fun r1=>I ([⟨phi,[Tm.mk r1.1 r1.2.1 r1.2.2.1 r1.2.2.2.1 r1.2.2.2.2.1 []]⟩],r1.2.2.2.2.2))
 rw [h1]
 dsimp only
 rw [h2]
 unfold asb
 by_cases h:phi.length=0<;>simp_all [ae,beq_false_of_ne,n3]
theorem aIc (hk:F3 k) {cen:Tm} (i1:In k (Tm.mk y1 y2 y3 y4 y5 y6)) (i2:In k cen) (fa:Fm (Tm.mk x1 x2 x3 x4 x5 x6)) (hp:RX true phi) {st:LB} (hs: ∀b∈st,StB b) (hl:st.length<=10000) (c:Int) (I:LB×Int->OS S):
  axF k st cen c phi x1 x2 x3 x4 x5 x6 st0 y1 y2 y3 y4 y5 y6 z1 z2 z3 z4 z5 z6 I=I (ark (awx phi (Tm.mk x1 x2 x3 x4 x5 x6) (Tm.mk y1 y2 y3 y4 y5 y6) cen) c st):=by
 have z:4294968296<=k:=hk
 simp only [axF,aAd]
 have:=ax7 (S:=S) (l:=st) (L:=fun m c i acc=>avd k I cen phi y2 y3 y4 y5 y6 z1 z2 z3 z4 z5 x1 z6 x2 x3 x4 x5 x6 st0 y1 st m c i acc) (F:=awx phi (Tm.mk x1 x2 x3 x4 x5 x6) (Tm.mk y1 y2 y3 y4 y5 y6) cen) (I:=I)
  (fun m c acc ha=>by
   grind [avd,axa,n3])
  (fun m c x p r acc h ha=>by
   obtain ⟨A,B,E,_⟩:=apy h (by omega)
   have hlen:p.length<st.length:=by grind
   obtain ⟨M,q2,O,T⟩:=hs x (by grind)
   have g0:af x.kids 0=some (AK x):=ED (n:=0) rfl (by grind)
   have q:=(aol (G9 hp) q2.sm fa.sm (by have:=q2.dep;omega) (by have:=fa.dep;omega)).isIn hk (by omega)
   simp only [avd,axa,A,ae,B,sf,ag hk.fu,ay8,g0,ar,tO,aq3,E]
   obtain ⟨W,h1,h2⟩:=aDc (phi:=phi) (x1:=x1) (x2:=x2) (x3:=x3) (x4:=x4) (x5:=x5) (x6:=x6) (st0:=st0) (z1:=z1) (z2:=z2) (z3:=z3) (z4:=z4) (z5:=z5) (z6:=z6) hk i1 i2 q c (fun j=>asP (aw 1099511627776 acc.length [(⟨x.face,[Tm.mk j.1 j.2.1 j.2.2.1 j.2.2.2.1 j.2.2.2.2.1 []]⟩:Br Tm)].length) fun J=>avd k I cen phi y2 y3 y4 y5 y6 z1 z2 z3 z4 z5 x1 z6 x2 x3 x4 x5 x6 st0 y1 st m j.2.2.2.2.2 (((p++[x]).length:Nat):Int) (acc++[⟨x.face,[Tm.mk j.1 j.2.1 j.2.2.1 j.2.2.2.1 j.2.2.2.2.1 []]⟩]))
   refine alQ ?_ (h1.trans ?_)
   ·rfl
   dsimp only
   rw [J5 (by grind),h2]
   rfl)
  st [] [] k c rfl (by omega) rfl
 grind
end
theorem aA6 {a a1 cen:Tm} (fa:Fm a) (h1:OkT a1) (h2:OkT cen) {phi:LC} (hp:RX true phi) {st:LB} (hs: ∀b∈st,StB b) (c:Int):BrP 200000 (awy phi a a1 cen st c).1/\(awy phi a a1 cen st c).1.length<=st.length+1:=by
 obtain ⟨j,E⟩:=awX (F:=atP a1 cen a) hp (n:=200000) (fun c=>by
  have:=aCB (c:=c) h1 h2 fa.ok
  exact ⟨this.1,by have:=this.2;omega⟩) c
 refine ⟨au0 j ?_, ?_⟩
 ·intro y q
  refine au7 (Q:=fun y=> ∃t,y.kids=[t]/\Sm 200000 t/\am t<=299/\aq y.face/\y.face.length<1073741824) (F:=awx phi a a1 cen) (l:=st) (c:=(asb phi (atP a1 cen a) c).2) (fun x z c=> ?_) y q
  obtain ⟨I,q2,J,A,B⟩:=hs x z
  have h:=(aol (G9 hp) q2.sm fa.sm (by have:=q2.dep;omega) (by have:=fa.dep;omega)).ok
  have:=aCB (c:=c) h1 h2 h
  exact ⟨_,rfl,this.1,by have:=this.2;omega,A,B⟩
 ·unfold awy
  rw [List.length_append,aur];omega
theorem aF0 (hk:F3 k) {phi:LC} {a a1 t1 t e:Tm} {st:LB} {c:Int} (fa:Fm a) (f1:FN a1) (j:FN t1) (ft:Fm t) (q:Fm e) (hp:RX true phi) (hs: ∀b∈st,StB b) (hl:st.length<=10000):
  FN (mM c (c6 [t,t1,dS 9 [e],a1] (atO t t1 (dS 9 [e]) a1))).1->Sm 50000000000 (aya phi a a1 t1 st t e c).1/\am (aya phi a a1 t1 st t e c).1<=300:=by
 intro hf
 have hc:=ay1 (.inl q) f1
 have h:=at5 (kd:=9) (by omega) hc (by omega)
 obtain ⟨x,z⟩:=aA6 (st:=st) (cen:=auF e a1) fa f1.sm.1.ok hc.1.ok hp hs (mM c (c6 [t,t1,dS 9 [e],a1] (atO t t1 (dS 9 [e]) a1))).2
 have:=ayH (n:=50000) (m:=200000) (hf.sm.1.mono (by omega)) (h.1.mono (by omega)) (by have:=hf.sm.2;omega) (by have:=h.2;omega) (by omega) x (by omega) (by omega)
 exact ⟨this,this.dep⟩
section
variable {phi:LC} {x1 x2:Int} {x3:BA} {x4:LC} {x5:LT} {x6 st0:LB} {y1 y2:Int} {y3:BA} {y4:LC} {y5:LT} {y6:LB} {z1 z2:Int} {z3:BA} {z4:LC} {z5:LT} {z6:LB}
theorem aIw (hk:F3 k) {t a f y:Tm} {c:Int} (j:In k t) (ha:In k a) (hf:In k f) (q:In k y) (I:Tm×Int->OS S):axW k t a f y c I=I (mM c (c6 [t,a,f,y] (atO t a f y))):=by
 simp only [axW,ag hk.fu,dG,ar,rJ]
 exact Az c (fun h g=>aHT hk j ha hf q g) (fun e h=>BJ (fun e h=>aFT h) h) I
theorem aH_ (hk:F3 k) {t e:Tm} (ft:Fm t) (h:Fm e) (fa:Fm (Tm.mk x1 x2 x3 x4 x5 x6)) (f1:FN (Tm.mk y1 y2 y3 y4 y5 y6)) (j:FN (Tm.mk z1 z2 z3 z4 z5 z6)) (hp:RX true phi) {st:LB} (hs: ∀b∈st,StB b) (hl:st.length<=10000) (c:Int) (I:Int×Int×BA×LT×LB×Int->OS S):
  axC k t e c phi x1 x2 x3 x4 x5 x6 st y1 y2 y3 y4 y5 y6 z1 z2 z3 z4 z5 z6 I=(fun F:Tm×Int=>I (15,0,alH,F.1.kids,F.1.sys,F.2)) (aya phi (Tm.mk x1 x2 x3 x4 x5 x6) (Tm.mk y1 y2 y3 y4 y5 y6) (Tm.mk z1 z2 z3 z4 z5 z6) st t e c):=by
 have i1:=f1.sm.1.isIn hk (by omega)
 have i2:=(ay1 (.inl h) f1).1.isIn hk (by omega)
 have i9:=(at5 (kd:=9) (by omega) (FN.sm (.inl h)) (by omega)).1.isIn hk (by omega)
 simp only [axC,ag hk.fu,ar,zc,aum,JM]
 have q:Tm.mk 9 0 alH [] [e] []=dS 9 [e]:=rfl
 have x:Tm.mk 6 0 alH [] [Tm.mk 10 0 alH [] [e] [],Tm.mk y1 y2 y3 y4 y5 y6] []=auF e (Tm.mk y1 y2 y3 y4 y5 y6):=rfl
 rw [q,x,aIw hk (ft.isIn hk) (j.sm.1.isIn hk (by omega)) i9 i1,aIK hk i1 i2 (fa.isIn hk),aIc hk i1 i2 fa hp hs hl]
 have hb:=(aA6 (st:=st) (cen:=auF e (Tm.mk y1 y2 y3 y4 y5 y6)) (a1:=Tm.mk y1 y2 y3 y4 y5 y6) fa f1.sm.1.ok (ay1 (.inl h) f1).1.ok hp hs (mM c (c6 [t,Tm.mk z1 z2 z3 z4 z5 z6,dS 9 [e],Tm.mk y1 y2 y3 y4 y5 y6] (atO t (Tm.mk z1 z2 z3 z4 z5 z6) (dS 9 [e]) (Tm.mk y1 y2 y3 y4 y5 y6)))).2).2
 unfold awy at hb
 rw [List.length_append] at hb
 rw [J5 (by omega)]
 rfl
end
theorem azT (hk:F3 k) {t:Tm} {c:Int} (h:OkT t) (hd:am t<=400) (I:Tm×Bool×Int×Int->OS S):ly k t c I=I ((dM c t).1,(dM c t).2==0,(dM c t).2,(dM c t).2):=by
 have h2:Fd k (am t):=hk.fd (by omega)
 simp only [ly,ag hk.fu,dG,ar,rJ,amv h h2 (by omega)]
 have:OkT (dM c t).1/\Fd k (am (dM c t).1):=by
  unfold dM
  split
  ·split
   ·grind
   ·exact ⟨(gQ hk).1,(gQ hk).2.1⟩
  ·exact ⟨(gQ hk).1,(gQ hk).2.1⟩
 grind [vU,dM]
def wsF (phi:LC) (a a1 t1:Tm) (st:LB) (c:Int) (b:Br Tm):Tm×Int:=aya phi a a1 t1 st (AK b) (k1 b) c
def auc (a1:Tm) (c:Int) (q:Br Tm×Tm):Br Tm×Int:=
 let x:=mM c (wA 0 1 q.2)
 let h:=mM x.2 (wA 0 1 a1)
 let e:=mM h.2 (wA 0 1 (k1 q.1))
 (⟨q.1.face,[pap [⟨1,0⟩] (dS 10 [x.1]) h.1 (dS 6 [dS 9 [e.1],dS 9 [x.1]])]⟩,e.2)
def awT (q:Br Tm×Tm):Br Tm:=⟨q.1.face,[dS 9 [q.2]]⟩
def asR (l:LT):Tm:=match l with
 |[x]=>x
 |_=>noT
theorem aFU (hk:F3 k) {t a f y:Tm} (q:In k t) (ha:In k a) (hf:In k f) (A:In k y) (c:Int):FN (mM c (c6 [t,a,f,y] (atO t a f y))).1:=arW fun z h=>by
 obtain ⟨so,ff,j⟩:=BI h
 have:=avl (l:=[t,a,f,y]) (fun x j=>by
  simp at j
  rcases j with rfl|rfl|rfl|rfl
  ·exact q.1
  ·exact ha.1
  ·exact hf.1
  ·exact A.1) so
 exact ⟨((aA5 (by omega) (by omega) (this t (by simp)).f2 (this a (by simp)).f2 (this f (by simp)).f2 (this y (by simp)).f2 j).isIn hk (by omega) (by omega)).1,ff⟩
section
variable {phi:LC} {x1 x2:Int} {x3:BA} {x4:LC} {x5:LT} {x6 st:LB} {y1 y2:Int} {y3:BA} {y4:LC} {y5:LT} {y6:LB} {z1 z2:Int} {z3:BA} {z4:LC} {z5:LT} {z6:LB}
def GB (l:LB):Prop:= ∀b∈l,b.kids=[AK b,k1 b]/\Fm (AK b)/\Fm (k1 b)/\RX true b.face
theorem aDv (hk:F3 k) {a a1 t1:Tm} (fa:Fm a) (f1:FN a1) (h:FN t1) (hp:RX true phi) (hs: ∀b∈st,StB b) (hl:st.length<=10000) {l:LB} (q:GB l) {c:Int}: ∀w∈(ark (wsF phi a a1 t1 st) c l).1,Sm 50000000000 w/\am w<=300:=
 au7 fun b hb c=>by
  obtain ⟨x,q2,j,z⟩:=q b hb
  exact aF0 hk fa f1 h q2 j hp hs hl (aFU hk (q2.isIn hk) (h.sm.1.isIn hk (by omega)) ((at5 (kd:=9) (by omega) (FN.sm (.inl j)) (by omega)).1.isIn hk (by omega)) (f1.sm.1.isIn hk (by omega)) _)
theorem aIO (hk:F3 k) (fa:Fm (Tm.mk x1 x2 x3 x4 x5 x6)) (f1:FN (Tm.mk y1 y2 y3 y4 y5 y6)) (j:FN (Tm.mk z1 z2 z3 z4 z5 z6)) (hp:RX true phi) (hs: ∀b∈st,StB b) (hl:st.length<=10000) {l:LB} (q:GB l) (z:l.length<=10000) (c:Int) (I:LT×Int->OS S):
  avz k l c phi x1 x2 x3 x4 x5 x6 st y1 y2 y3 y4 y5 y6 z1 z2 z3 z4 z5 z6 I=I (ark (wsF phi (Tm.mk x1 x2 x3 x4 x5 x6) (Tm.mk y1 y2 y3 y4 y5 y6) (Tm.mk z1 z2 z3 z4 z5 z6) st) c l):=by
 have A:4294968296<=k:=hk
 simp only [avz,aAc]
 have:=ax7 (S:=S) (l:=l) (L:=fun m c i acc=>avU k I phi y2 y3 y4 y5 y6 z1 z2 z3 z4 z5 x1 z6 x2 x3 x4 x5 x6 st y1 l m c i acc) (F:=wsF phi (Tm.mk x1 x2 x3 x4 x5 x6) (Tm.mk y1 y2 y3 y4 y5 y6) (Tm.mk z1 z2 z3 z4 z5 z6) st) (I:=I)
  (fun m c acc ha=>by
   grind [avU,aw9,n3])
  (fun m c x p r acc h ha=>by
   obtain ⟨B,E,J,_⟩:=apy h (by omega)
   have hlen:p.length<l.length:=by grind
   obtain ⟨O,q2,M,T⟩:=q x (by grind)
   have g0:af x.kids 0=some (AK x):=ED (n:=0) rfl (by grind)
   have g1:af x.kids 1=some (k1 x):=ED (n:=1) rfl (by grind)
   simp only [avU,aw9,B,ae,E,sf,ag hk.fu,ay5,g0,g1,ar,J]
   rw [aH_ hk q2 M fa f1 j hp hs hl]
   dsimp only
   rw [J5 (by grind)]
   rfl)
  l [] [] k c rfl (by omega) rfl
 grind
theorem aIL (hk:F3 k) (i1:In k (Tm.mk y1 y2 y3 y4 y5 y6)) (c:Int) (I:LB×Int->OS S):
  avy k c phi x1 x2 x3 x4 x5 x6 st y1 y2 y3 y4 y5 y6 z1 z2 z3 z4 z5 z6 I=I (asb phi (fun c=>mM c (wA 0 1 (Tm.mk y1 y2 y3 y4 y5 y6))) c):=by
 simp only [avy,ag hk.fu,ar,avv,aq3]
 rw [ajn hk (fun _=>i1) (by omega) (by omega)]
 unfold asb
 by_cases h:phi.length=0<;>simp_all [ae,beq_false_of_ne,n3]
end
def awz (phi:LC) (g a:Tm):Tm×Int:=
 let B:=auY g phi a
 let G:=mM B.c (an8 0 [⟨0,0⟩] g)
 let t1:=asR G.1.kids
 let ws:=ark (wsF phi a B.a1 t1 B.st) G.2 G.1.sys
 let W:=asb phi (fun c=>mM c (wA 0 1 B.a1)) ws.2
 let Z:=ark (auc B.a1) W.2 (G.1.sys.zip ws.1)
 (.mk 17 0 alH [] [.mk 15 0 alH [] [t1,B.a1] (W.1++Z.1)] ((G.1.sys.zip ws.1).map awT),Z.2)
def awA (t:Tm):Tm×Bool×Int:=
 if bw t≠0 then (noT,false,bw t) else
 if t.kind=14/\(t.kids.getD 0 noT).kind=16 then
  (fun q:Tm×Int=>((dM q.2 q.1).1,(dM q.2 q.1).2==0,(dM q.2 q.1).2)) (awz t.r (t.kids.getD 0 noT) (t.kids.getD 1 noT))
 else (noT,false,0)
theorem aAK (hk:F3 k) {g a:Tm} {phi:LC} (h:Fm g) (j:g.kind=16) (fa:Fm a) (hp:RX true phi):FN (auY g phi a).a1/\(∀b∈(auY g phi a).st,StB b)/\(auY g phi a).st.length<=10000:=by
 obtain ⟨x,_,b,hb,fb⟩:=h.gl j
 have hlen:=ayb h j
 have z:GN (mM 0 (an8 0 [] g)).1:=ayc h j rA (aBC (by decide))
 have hs:=aIU (l:=g.sys) (c:=(mM 0 (an8 0 [] g)).2) x
 have hl:=aIT (l:=g.sys) (c:=(mM 0 (an8 0 [] g)).2)
 have hd:hdT g=b:=by grind [hdT]
 have q:=(z.un fa).1.isIn hk (by omega)
 refine ⟨?_,hs,aru hl hlen⟩
 show FN (atI g phi a _ _ _).1
 unfold atI
 rw [hd]
 exact azg hk (fb.isIn hk) q (aAL hk fa q.1 hp hs (aru hl hlen) _) _
theorem aBc {x:Tm} (h:GN x):FN (asR x.kids)/\GB x.sys/\x.sys.length<=10000/\(x.kids.length=1/\x.kids=[asR x.kids]\/x.kids.length=0/\asR x.kids=noT):=by
 rcases h with ⟨h1,h2⟩|rfl
 ·obtain ⟨j,_,b,hb,fb⟩:=h1.gl h2
  rw [hb]
  exact ⟨.inl fb,j,ayb h1 h2,.inl ⟨rfl,rfl⟩⟩
 ·exact ⟨.inr rfl,(fun b hb=>by cases hb),by simp [noT,Tm.sys],.inr ⟨rfl,rfl⟩⟩
section
variable {z1 z2:Int} {z3:BA} {z4:LC} {z5:LT} {z6:LB}
theorem aGR (hk:F3 k) (I:Tm×Bool×Int->OS S) {r3 x4:Tm} {r6:Int×LB×Int×Int×BA×LC×LT×LB} {r8:Tm×Int} {a1:Tm} (J:Tm.mk r6.2.2.1 r6.2.2.2.1 r6.2.2.2.2.1 r6.2.2.2.2.2.1 r6.2.2.2.2.2.2.1 r6.2.2.2.2.2.2.2=a1) (o1:OkT a1) (i1:In k a1) (L:GB r8.1.sys) (M:r8.1.sys.length<=10000) {ws:LT} (O: ∀w∈ws,In k w) (T:ws.length=r8.1.sys.length) {END:LB->LB->Int->OS S}
  (F: ∀ (m:Nat) (c:Int) (j sy:LB),auQ k I r3 r6 x4 r8 (m+1) c z1 z2 z3 z4 z5 z6 j (r8.1.sys.length:Int) ws sy=END j sy c):
  ∀ (r p:LB) (rw z:LT) (j sy:LB) (m:Nat) (c:Int),r8.1.sys=p++r->ws=z++rw->z.length=p.length->r.length<m->j.length=p.length->sy.length<=p.length+1->
   auQ k I r3 r6 x4 r8 m c z1 z2 z3 z4 z5 z6 j (p.length:Int) ws sy=END (j++(r.zip rw).map awT) (sy++(ark (auc a1) c (r.zip rw)).1) (ark (auc a1) c (r.zip rw)).2:=by
 intro r
 induction r with
 |nil=>
  grind [amr,List.zip_nil_left,ark]
 |cons x r W=>
  intro p q z j sy m c h h' A Y ad ao
  obtain ⟨m,rfl,B⟩:=amr Y
  obtain ⟨E,e2,e3,e4⟩:=apy h (by omega)
  have hlen:p.length<r8.1.sys.length:=by grind
  cases q with
  |nil=>grind
  |cons w q=>
  have gw:af ws (p.length:Int)=some w:=by
   rw [h',<-A]
   exact ED (n:=z.length) rfl (by simp)
  obtain ⟨q1,q2,q3,q4⟩:=L x (by grind)
  have g1:af x.kids 1=some (k1 x):=ED (n:=1) rfl (by grind)
  have iw:=O w (by grind)
  simp only [auQ,aw3,E,ae,e2,sf,gw,ag hk.fu,ar,J,g1,aum,zc,tO,aq3,e3]
  rw [ajn hk (fun _=>iw) (by omega) (by omega),ajn hk (fun _=>i1) (by omega) (by omega),ajn hk (fun _=>q3.isIn hk) (by omega) (by omega),J5 (by grind),J5 (by grind)]
  refine alQ (W (p++[x]) q (z++[w]) _ _ m _ e4 (by grind) (by simp_all) B (by simp_all) (by grind)) ?_
  rw [List.zip_cons_cons,List.map_cons,ark,List.append_assoc,List.append_assoc]
  rfl
end
theorem ayJ {n:Nat}: ∀ {l:LB},(∀x∈l,∃t,x.kids=[t]/\OkT t/\am t<=n/\aq x.face/\x.face.length<1073741824)->ba l/\aO l<=n+2:=by
 intro l
 induction l with
 |nil=>grind [ba,aO]
 |cons x l j=>
  intro h
  obtain ⟨h1,h2⟩:=j fun y q=>h y (by simp [q])
  obtain ⟨t,z,q2,A,B,E⟩:=h x (by simp)
  obtain ⟨f,F⟩:=x
  grind [ba,fc,aZ,aO,eB,aH]
theorem aA7 {a1:Tm} (x:OkT a1) {q:Br Tm×Tm} (z:OkT q.2) (A:OkT (k1 q.1)) (hf:aq q.1.face/\q.1.face.length<1073741824) (c:Int):
  ∃t,(auc a1 c q).1.kids=[t]/\OkT t/\am t<=299/\aq (auc a1 c q).1.face/\(auc a1 c q).1.face.length<1073741824:=by
 have fx:=asl (c:=c) (a:=0) (b:=1) (by omega) (by omega) z
 have fl:=asl (c:=(mM c (wA 0 1 q.2)).2) (a:=0) (b:=1) (by omega) (by omega) x
 have B:=asl (c:=(mM (mM c (wA 0 1 q.2)).2 (wA 0 1 a1)).2) (a:=0) (b:=1) (by omega) (by omega) A
 have h:=at5 (kd:=10) (by omega) fx.sm (by omega)
 have E:=at5 (kd:=9) (by omega) fx.sm (by omega)
 have j:=at5 (kd:=9) (by omega) B.sm (by omega)
 have F:=atm (kd:=6) (by omega) (d:=201) j E (by omega)
 have:=azY (at3 (a:=1) (b:=0) (by omega) (by omega)) (d:=202) ⟨h.1,by omega⟩ ⟨fl.sm.1,by have:=fl.sm.2;omega⟩ ⟨F.1,by omega⟩ (by omega)
 exact ⟨_,rfl,this.1.ok,by omega,hf.1,hf.2⟩
theorem pj (a b:Int) (c:BA) (d:LC) (e:LT) (f:LB):(Tm.mk a b c d e f).kind=a/\(Tm.mk a b c d e f).n=b/\(Tm.mk a b c d e f).name=c/\(Tm.mk a b c d e f).r=d/\(Tm.mk a b c d e f).kids=e/\(Tm.mk a b c d e f).sys=f:=⟨rfl,rfl,rfl,rfl,rfl,rfl⟩
theorem aIe (hk:F3 k) {t:Tm} (O:In k t) (I:Tm×Bool×Int->OS S):axx k t I=I (awA t):=by
 have a7:4294968296<=k:=hk
 simp only [axx,az9,ag hk.fu,ar,amv O.1 O.2.1 O.dep]
 unfold awA
 by_cases h0:bw t=0
 case neg=>rw [dj h0,aqD,ae,if_pos h0];rfl
 rw [h0,show (!((0:Int)==0))=false from rfl,n3,if_neg (by simp)]
 have ft:Fm t:=⟨O.1,h0⟩
 by_cases A:t.kind=14
 case neg=>rw [beq_false_of_ne A,aqD,ae,if_neg (fun h=>A h.1)];rfl
 rw [A,show (!((14:Int)==14))=false from rfl,n3]
 obtain ⟨g,a,Y⟩:=I8 (E5 ft A (n:=2) rfl)
 obtain ⟨g0,g1⟩:=KQ Y
 obtain ⟨d0,d1⟩:=EC Y
 have fg:Fm g:=ft.kid (by grind)
 have fa:Fm a:=ft.kid (by grind)
 have hp:=ft.r14 A
 rw [g0,sf,d0,d1]
 by_cases x:g.kind=16
 case neg=>rw [beq_false_of_ne x,aqD,ae,if_neg (fun h=>x h.2)];rfl
 rw [x,show (!((16:Int)==16))=false from rfl,n3,vU t O.1 _ O.2.1,if_pos ⟨rfl,rfl⟩]
 simp only [g0,g1,sf]
 generalize a6:t.r=phi at hp
 obtain ⟨x1,x2,x3,x4,x5,x6⟩:=a
 simp only [pj x1 x2 x3 x4 x5 x6]
 rw [aH1 hk fg x fa hp]
 unfold awz
 dsimp only
 obtain ⟨E,sB,lB⟩:=aAK hk fg x fa hp
 generalize auY g phi (Tm.mk x1 x2 x3 x4 x5 x6)=B at E sB lB ⊢
 obtain ⟨st,⟨y1,y2,y3,y4,y5,y6⟩,c0⟩:=B
 dsimp only at E sB lB ⊢
 simp only [pj y1 y2 y3 y4 y5 y6]
 rw [vZ hk (fun _=>fg.isIn hk)]
 have gG:GN (mM c0 (an8 0 [⟨0,0⟩] g)).1:=ayc fg x Qz (aBA (by decide))
 generalize mM c0 (an8 0 [⟨0,0⟩] g)=G at gG ⊢
 obtain ⟨f1,T,lG,ad⟩:=aBc gG
 have i1:=E.sm.1.isIn hk (by omega)
 have main: ∀ {z1 z2:Int} {z3:BA} {z4:LC} {z5:LT} {z6:LB},Tm.mk z1 z2 z3 z4 z5 z6=asR G.1.kids->
   (avz k G.1.sys G.2 phi x1 x2 x3 x4 x5 x6 st y1 y2 y3 y4 y5 y6 z1 z2 z3 z4 z5 z6 fun ao=>avy k ao.2 phi x1 x2 x3 x4 x5 x6 st y1 y2 y3 y4 y5 y6 z1 z2 z3 z4 z5 z6 fun ax=>auQ k I t (c0,st,y1,y2,y3,y4,y5,y6) (Tm.mk x1 x2 x3 x4 x5 x6) G k ax.2 z1 z2 z3 z4 z5 z6 [] 0 ao.1 ax.1)=
    (fun q:Tm×Int=>I ((dM q.2 q.1).1,(dM q.2 q.1).2==0,(dM q.2 q.1).2)) (.mk 17 0 alH [] [.mk 15 0 alH [] [asR G.1.kids,Tm.mk y1 y2 y3 y4 y5 y6] ((asb phi (fun c=>mM c (wA 0 1 (Tm.mk y1 y2 y3 y4 y5 y6))) (ark (wsF phi (Tm.mk x1 x2 x3 x4 x5 x6) (Tm.mk y1 y2 y3 y4 y5 y6) (asR G.1.kids) st) G.2 G.1.sys).2).1++(ark (auc (Tm.mk y1 y2 y3 y4 y5 y6)) (asb phi (fun c=>mM c (wA 0 1 (Tm.mk y1 y2 y3 y4 y5 y6))) (ark (wsF phi (Tm.mk x1 x2 x3 x4 x5 x6) (Tm.mk y1 y2 y3 y4 y5 y6) (asR G.1.kids) st) G.2 G.1.sys).2).2 (G.1.sys.zip (ark (wsF phi (Tm.mk x1 x2 x3 x4 x5 x6) (Tm.mk y1 y2 y3 y4 y5 y6) (asR G.1.kids) st) G.2 G.1.sys).1)).1)] ((G.1.sys.zip (ark (wsF phi (Tm.mk x1 x2 x3 x4 x5 x6) (Tm.mk y1 y2 y3 y4 y5 y6) (asR G.1.kids) st) G.2 G.1.sys).1).map awT),(ark (auc (Tm.mk y1 y2 y3 y4 y5 y6)) (asb phi (fun c=>mM c (wA 0 1 (Tm.mk y1 y2 y3 y4 y5 y6))) (ark (wsF phi (Tm.mk x1 x2 x3 x4 x5 x6) (Tm.mk y1 y2 y3 y4 y5 y6) (asR G.1.kids) st) G.2 G.1.sys).2).2 (G.1.sys.zip (ark (wsF phi (Tm.mk x1 x2 x3 x4 x5 x6) (Tm.mk y1 y2 y3 y4 y5 y6) (asR G.1.kids) st) G.2 G.1.sys).1)).2):=by
  intro z1 z2 z3 z4 z5 z6 hz
  rw [<-hz] at f1
  rw [aIO hk fa E f1 hp sB lB T lG,<-hz]
  have J:=aDv (phi:=phi) (st:=st) (c:=G.2) hk fa E f1 hp sB lB T
  have az:(ark (wsF phi (Tm.mk x1 x2 x3 x4 x5 x6) (Tm.mk y1 y2 y3 y4 y5 y6) (Tm.mk z1 z2 z3 z4 z5 z6) st) G.2 G.1.sys).1.length=G.1.sys.length:=aur
  generalize ark (wsF phi (Tm.mk x1 x2 x3 x4 x5 x6) (Tm.mk y1 y2 y3 y4 y5 y6) (Tm.mk z1 z2 z3 z4 z5 z6) st) G.2 G.1.sys=ws at J az ⊢
  rw [aIL hk i1]
  have fU: ∀c,FN (mM c (wA 0 1 (Tm.mk y1 y2 y3 y4 y5 y6))).1:=fun c=>asl (by omega) (by omega) E.sm.1.ok
  obtain ⟨w1,w2⟩:=awX (F:=fun c=>mM c (wA 0 1 (Tm.mk y1 y2 y3 y4 y5 y6))) hp (n:=20000) (fun c=>⟨(fU c).sm.1,by have:=(fU c).sm.2;omega⟩) ws.2
  generalize asb phi (fun c=>mM c (wA 0 1 (Tm.mk y1 y2 y3 y4 y5 y6))) ws.2=W at w1 w2 ⊢
  have j: ∀q∈G.1.sys.zip ws.1,q.1∈G.1.sys/\q.2∈ws.1:=fun q L=>⟨(List.of_mem_zip L).1,(List.of_mem_zip L).2⟩
  have key:=aGR (z1:=z1) (z2:=z2) (z3:=z3) (z4:=z4) (z5:=z5) (z6:=z6) hk I (r3:=t) (x4:=Tm.mk x1 x2 x3 x4 x5 x6) (r6:=(c0,st,y1,y2,y3,y4,y5,y6)) (r8:=G) (a1:=Tm.mk y1 y2 y3 y4 y5 y6) rfl E.sm.1.ok i1 T lG (ws:=ws.1) (fun w hw=>(J w hw).1.isIn hk (by omega)) az
   (END:=fun pa sy c=>ly k (.mk 17 0 alH [] [.mk 15 0 alH [] [Tm.mk z1 z2 z3 z4 z5 z6,Tm.mk y1 y2 y3 y4 y5 y6] sy] pa) c fun M=>I (M.1,M.2.1,M.2.2.1)) (fun m c pa sy=>by
    have:=akb (l:=G.1.sys) (p:=G.1.sys) (by simp)
    simp only [auQ,aw3,this,n3,ag hk.fu,ar,JM])
   G.1.sys [] ws.1 [] [] W.1 k W.2 rfl rfl rfl (by omega) rfl (by omega)
  refine alQ ?_ (key.trans ?_)
  ·rfl
  rw [as2]
  dsimp only
  generalize hZ:ark (auc (Tm.mk y1 y2 y3 y4 y5 y6)) W.2 (G.1.sys.zip ws.1)=Z
  have zq: ∀y∈Z.1,∃t,y.kids=[t]/\OkT t/\am t<=299/\aq y.face/\y.face.length<1073741824:=by
   rw [<-hZ]
   exact au7 fun q L c=>aA7 E.sm.1.ok (J q.2 (j q L).2).1.ok (T q.1 (j q L).1).2.2.1.ok (G9 (T q.1 (j q L).1).2.2.2) c
  have zl:Z.1.length=(G.1.sys.zip ws.1).length:=by grind [aur]
  have pq: ∀y∈(G.1.sys.zip ws.1).map awT,∃t,y.kids=[t]/\OkT t/\am t<=301/\aq y.face/\y.face.length<1073741824:=fun y hy=>by
   obtain ⟨q,L,rfl⟩:=arR.1 hy
   obtain ⟨h1,h2⟩:=J q.2 (j q L).2
   have r:=G9 (T q.1 (j q L).1).2.2.2
   refine ⟨_,rfl, ?_, ?_,r.1,r.2⟩
   ·unfold dS;rw [OkT,aZ,aZ,ba];exact ⟨⟨by unfold aG;omega,by unfold aG;omega,by decide,(fun c hc=>by cases hc),by simp,by simp,by simp⟩,⟨h1.ok,trivial⟩,trivial⟩
   grind [dS,am,aH,aO]
  obtain ⟨o1,o2⟩:=ayJ (l:=W.1++Z.1) (n:=299) fun y hy=>by
   rcases atc.1 hy with hy|hy
   ·obtain ⟨t,q1,q2,q3,q4,q5⟩:=w1 y hy;exact ⟨t,q1,q2.ok,q3,q4,q5⟩
   grind
  obtain ⟨o3,o4⟩:=ayJ pq
  have a8:(G.1.sys.zip ws.1).length<=10000:=by grind
  have b1:=f1.sm;have b2:=E.sm
  refine azT hk ?_ ?_ _
  ·rw [OkT,aZ,aZ,OkT,aZ,aZ,aZ]
   exact ⟨⟨by unfold aG;omega,by unfold aG;omega,by decide,(fun c hc=>by cases hc),by simp,by simp,by grind⟩,⟨⟨⟨by unfold aG;omega,by unfold aG;omega,by decide,(fun c hc=>by cases hc),by simp,by simp,by grind⟩,⟨b1.1.ok,b2.1.ok,trivial⟩,o1⟩,trivial⟩,o3⟩
  grind [am,aH]
 rcases ad with ⟨e1,e2⟩|⟨e1,e2⟩
 ·have gk:af G.1.kids 0=some (asR G.1.kids):=by rw [e2];rfl
  rw [e1,show ((((1:Nat):Int))==1)=true from rfl,ae,gk,sf]
  generalize hz:asR G.1.kids=z at main ⊢
  obtain ⟨z1,z2,z3,z4,z5,z6⟩:=z
  grind [pj]
 ·rw [e1,show ((((0:Nat):Int))==1)=false from rfl,n3]
  exact main e2.symm
theorem azt {t:Tm} (h:t.kids.length=3): ∃a b c,t.kids=[a,b,c]:=by
 match hk:t.kids,h with
 |[a,b,c],_=>simp
def atL (q:Tm×Int):Tm×Bool×Int:=((dM q.2 q.1).1,(dM q.2 q.1).2==0,(dM q.2 q.1).2)
def trO (t:Tm):Tm×Bool×Int:=
 if bw t≠0 then (noT,false,bw t) else
 if t.kind≠14 then (noT,false,0) else
 let l:=t.kids.getD 0 noT
 let a:=t.kids.getD 1 noT
 let k0:=l.kids.getD 0 noT
 let k1:=l.kids.getD 1 noT
 if l.kind=3\/l.kind=19 then atL (a,0) else
 if l.kind=4 then atL (tPi t.r k0 k1 a) else
 if l.kind=7 then atL (az6 t.r k0 k1 a) else
 if l.kind=11 then atL (az4 t.r k0 k1 (l.kids.getD 2 noT) a) else
 if l.kind=23 then h_ t else
 if l.kind=16 then awA t else (noT,false,0)
theorem aIE (B:F4 k) {t:Tm} (F:In k t) (I:Tm×Bool×Int->OS S):axZ k t I=I (trO t):=by
 have hk:=B.f3
 have az:4294968296<=k:=hk
 simp only [axZ,ag hk.fu,ar,amv F.1 F.2.1 F.dep]
 unfold trO
 by_cases h0:bw t=0
 case neg=>rw [dj h0,aqD,ae,if_pos h0];rfl
 rw [h0,show (!((0:Int)==0))=false from rfl,n3,if_neg (by simp)]
 have ft:Fm t:=⟨F.1,h0⟩
 by_cases q:t.kind=14
 case neg=>rw [beq_false_of_ne q,aqD,ae,if_pos q];rfl
 rw [q,show (!((14:Int)==14))=false from rfl,n3,if_neg (by simp)]
 obtain ⟨l,a,J⟩:=I8 (E5 ft q (n:=2) rfl)
 obtain ⟨g0,g1⟩:=KQ J
 obtain ⟨d0,d1⟩:=EC J
 have fl:Fm l:=ft.kid (by grind)
 have fa:Fm a:=ft.kid (by grind)
 have hp:=ft.r14 q
 rw [vU t F.1 _ F.2.1]
 simp only [g0,g1,sf,d0,d1]
 have L:=fun {x:Tm} {c:Int} (hx:In k x) (g:Tm×Bool×Int->OS S)=>Ry hk (c:=c) hx (fun r=>g (r.1,r.2.1,r.2.2.1))
 generalize ax:t.r=phi at hp
 obtain ⟨x1,x2,x3,x4,x5,x6⟩:=a
 simp only [pj x1 x2 x3 x4 x5 x6]
 by_cases h3:l.kind=3
 ·rw [h3,show ((3:Int)==3)=true from rfl,ae,if_pos (.inl rfl),L (fa.isIn hk)];rfl
 rw [beq_false_of_ne h3,n3]
 by_cases E:l.kind=19
 ·rw [E,show ((19:Int)==19)=true from rfl,ae,if_pos (.inr rfl),L (fa.isIn hk)];rfl
 rw [beq_false_of_ne E,n3,if_neg (fun h=>h.elim h3 E)]
 by_cases h4:l.kind=4
 ·obtain ⟨k0,ao,hb⟩:=I8 (E5 fl h4 (n:=2) rfl)
  obtain ⟨M,O⟩:=EC hb
  rw [h4,show ((4:Int)==4)=true from rfl,ae,if_pos rfl,M,O]
  obtain ⟨ks,c,T,q2,W⟩:=aDg (phi:=phi) B hb (fl.kid (by grind)) (fl.kid (by grind)) fa hp (fun j=>ly k (Tm.mk j.1 j.2.1 j.2.2.1 [] j.2.2.2.1 []) j.2.2.2.2 fun z=>I (z.1,z.2.1,z.2.2.1))
  rw [T,<-q2]
  exact L W I
 rw [beq_false_of_ne h4,n3,if_neg h4]
 by_cases h7:l.kind=7
 ·obtain ⟨k0,ao,hb⟩:=I8 (E5 fl h7 (n:=2) rfl)
  obtain ⟨M,O⟩:=EC hb
  rw [h7,show ((7:Int)==7)=true from rfl,ae,if_pos rfl,M,O]
  obtain ⟨ks,c,T,q2,W⟩:=aDi (phi:=phi) B hb (fl.kid (by grind)) (fl.kid (by grind)) fa hp (fun j=>ly k (Tm.mk j.1 j.2.1 j.2.2.1 [] j.2.2.2.1 []) j.2.2.2.2 fun z=>I (z.1,z.2.1,z.2.2.1))
  rw [T,<-q2]
  exact L W I
 rw [beq_false_of_ne h7,n3,if_neg h7]
 by_cases A:l.kind=11
 ·obtain ⟨k0,kl,kr,hb⟩:=azt (E5 fl A (n:=3) rfl)
  have M:l.kids.getD 0 noT=k0:=by grind
  have O:l.kids.getD 1 noT=kl:=by grind
  have e2:l.kids.getD 2 noT=kr:=by simp_all
  rw [A,show ((11:Int)==11)=true from rfl,ae,if_pos rfl,M,O,e2]
  obtain ⟨ks,c,T,q2,W⟩:=aDf (phi:=phi) hk hb (fl.kid (by grind)) (fl.kid (by grind)) (fl.kid (by grind)) fa hp (fun j=>ly k (Tm.mk j.1 j.2.1 j.2.2.1 [] j.2.2.2.1 []) j.2.2.2.2 fun z=>I (z.1,z.2.1,z.2.2.1))
  rw [T,<-q2]
  exact L W I
 rw [beq_false_of_ne A,n3,if_neg A]
 by_cases Y:l.kind=23
 ·grind [ae,ap_]
 rw [beq_false_of_ne Y,n3,if_neg Y]
 by_cases ad:l.kind=16
 ·grind [ae,aIe]
 rw [beq_false_of_ne ad,n3,if_neg ad]
 rfl
def auu (f:LC):Bool:=decide (f=[⟨0,0⟩])
def auj (l:LB):Option (Br Tm):=l.find? fun b=>auu b.face
def atU (r:LC):Int:=if r.length=0 then 0 else if auu r then 1 else-1
theorem aCz {f:LC} (h:f.length≠1):auu f=false:=by
 grind [auu]
theorem aCA (c:Cl):auu [c]=((c.pos==0)&&((c.neg==0)&&true)):=by
 unfold auu
 obtain ⟨p,n⟩:=c
 grind
theorem azS (r:LC) (I:Int->OS S):aW k r I=I (atU r):=by
 simp only [aW]
 unfold atU
 match r with
 |[]=>rfl
 |[c]=>
  rw [show ((([c]:LC).length:Int)==0)=false from rfl,n3,show ((([c]:LC).length:Int)==1)=true from rfl,ae,show af [c] 0=some c from rfl,sf,<-aCA,if_neg (by simp)]
  cases auu [c]<;>rfl
 |c::d::r=>
  rw [beq_false_of_ne (by grind),n3,beq_false_of_ne (by grind),n3,if_neg (by simp),aCz (by simp)]
  rfl
theorem aIG (b:Br Tm) (I:Bool->OS S):cW k b I=I (auu b.face):=by
 simp only [cW]
 match h:b.face with
 |[]=>rfl
 |[c]=>simp_all [ae,af,aCA]
 |c::d::r=>rw [beq_false_of_ne (by grind),n3,aCz (by simp)]
theorem aGY (hk:Fu k) (I:Int->OS S) {l:LB} (hl:l.length<4611686018427387904):
  ∀ (r p:LB) (m:Nat),l=p++r->r.length<m-> ∃i,av4 k I l m (p.length:Int)=I i/\(i<0/\auj r=none\/0<=i/\ ∃b,af l i=some b/\auj r=some b):=by
 intro r
 induction r with
 |nil=>
  intro p m h j
  obtain ⟨m,rfl,q⟩:=amr j
  refine ⟨-1, ?_,.inl ⟨by omega,rfl⟩⟩
  grind [av4,cm,n3]
 |cons x r z=>
  intro p m h j
  obtain ⟨m,rfl,q⟩:=amr j
  obtain ⟨A,B,E,F⟩:=apy h (by omega)
  grind [av4,cm,ae,aIG,ag,auj,n3]
theorem aIH (hk:F3 k) {l:LB} (hl:l.length<=20000) (I:Int->OS S): ∃i,cS k l I=I i/\(i<0/\auj l=none\/0<=i/\ ∃b,af l i=some b/\auj l=some b):=by
 have h:4294968296<=k:=hk
 obtain ⟨i,h1,h2⟩:=aGY hk.fu (fun r1=>I r1) (l:=l) (by omega) l [] k rfl (by omega)
 grind [cS,cP,aAn,ag]
theorem Fm.parts {t:Tm} (h:Fm t): ∀b∈t.sys,(b.kids.length:Int)=cz t.kind:=fun b hb=>by
 have ho:=h.own
 obtain ⟨kd,n,j,r,q,sys⟩:=t
 have hb:b∈sys:=hb
 by_cases hp:cz kd=0
 ·have:sys.length=0:=by
   have ho:((_&&(_&&(_&&decide (cz kd=0->sys.length=0))))&&_)=true:=ho
   grind
  grind
 ·have hk:kd=16\/kd=15\/kd=17\/kd=18:=by
   grind [cz]
  have key:sys.all (bX kd 24)=true:=by
   rcases hk with rfl|rfl|rfl|rfl
   ·have ho:(_&&(sys.all (bX 16 24)&&_))=true:=ho
    grind
   ·have ho:(_&&(sys.all (bX 15 24)&&_))=true:=ho
    grind
   ·have ho:(_&&(sys.all (bX 17 24)&&_))=true:=ho
    grind
   ·have ho:(_&&(sys.all (bX 18 24)&&_))=true:=ho
    grind
  have:=ars.1 key b hb
  unfold bX at this
  simp only [anZ,decide_eq_true_eq] at this
  exact this.1
theorem aDq {l:LB} {b:Br Tm} (h:auj l=some b):b∈l:=List.mem_of_find?_eq_some h
def asN (t:Tm):Tm×Bool×Int:=match auj t.sys with
 |none=>(noT,false,0)
 |some b=>if t.kind=15 then ((tE (an8 0 [⟨0,0⟩] (AK b))).1,true,(tE (an8 0 [⟨0,0⟩] (AK b))).2)
  else if t.kind=18 then (dS 6 [dS 9 [AK b],t.kids.getD 0 noT],true,0)
  else if t.kind=16\/t.kind=17 then (AK b,true,0) else (noT,false,0)
theorem aH0 (hk:F3 k) {t:Tm} (ft:Fm t) (I:Tm×Bool×Int->OS S):aJ k t 0 I=I (asN t):=by
 have hz:=ft.siz
 have hl:t.sys.length<=20000:=by
  have: ∀ {l:LB},(∀b∈l,(b.kids.length:Int)=cz t.kind)->l≠[]->cz t.kind≠0->l.length<=aI l:=by
   intro l
   induction l with
   |nil=>simp
   |cons b l ih=>
    intro hb _ hp
    have h1:=hb b (by simp)
    have h2:1<=ay b.kids:=by
     cases hk:b.kids<;>grind [ay,mB]
    obtain ⟨f,E⟩:=b
    have h2:1<=ay E:=h2
    rw [aI,fG,aq5]
    by_cases hn:l=[]<;>grind
  by_cases hn:t.sys=[]
  ·grind
  ·have hp:cz t.kind≠0:=by
    intro M
    cases hs:t.sys with
    |nil=>simp_all
    |cons b l=>
     have ho:=ft.own
     obtain ⟨kd,n,nm,r,E,sys⟩:=t
     have ho:((_&&(_&&(_&&decide (cz kd=0->sys.length=0))))&&_)=true:=ho
     simp only [anZ,decide_eq_true_eq] at ho
     have:=ho.1.2.2.2 M
     have hs:sys=b::l:=hs
     grind
   have h1:=this ft.parts hn hp
   have h2:aI t.sys+1<=au t:=by cases t<;>grind [au,Tm.sys]
   omega
 obtain ⟨i,h1,h2⟩:=aIH hk hl (fun r1=>ab (decide ((r1:Int)<0)) (I (noT,false,0)) (asP (af t.sys r1) fun x2=>ab (t.kind==15) (asP (af x2.kids 0) fun x3=>JI k x3 0 fun F=>I (F.1,true,F.2)) (ab (t.kind==18) (asP (af x2.kids 0) fun x5=>asP (af t.kids 0) fun O=>I (dS 6 [dS 9 [x5],O],true,0)) (ab (t.kind==16) (asP (af x2.kids 0) fun T=>I (T,true,0)) (ab (t.kind==17) (asP (af x2.kids 0) fun z=>I (z,true,0)) (I (noT,false,0)))))))
 simp only [aJ,ag hk.fu,ar,zc]
 refine alQ ?_ (h1.trans ?_)
 ·rfl
 unfold asN
 rcases h2 with ⟨h2,J⟩|⟨h2,b,J,L⟩
 ·grind [ae]
 ·rw [L,decide_eq_false (by omega),n3,J,sf]
  have hb:=aDq L
  have hp:=ft.parts b hb
  have fb:t.kind=15\/t.kind=16\/t.kind=17\/t.kind=18->af b.kids 0=some (AK b)/\Fm (AK b):=fun A=>by
   have W:cz t.kind≠0:=by rcases A with h|h|h|h<;>rw [h]<;>decide
   cases hk:b.kids with
   |nil=>grind
   |cons x r=>
    have e:AK b=x:=by grind [AK]
    rw [e]
    exact ⟨rfl,ft.brk hb (by grind)⟩
  dsimp only
  by_cases q:t.kind=15
  ·obtain ⟨B,f0⟩:=fb (.inl q)
   rw [q,show ((15:Int)==15)=true from rfl,ae,if_pos rfl,B,sf,vZ hk (fun _=>f0.isIn hk)]
   rfl
  rw [beq_false_of_ne q,n3,if_neg q]
  by_cases j:t.kind=18
  ·obtain ⟨B,f0⟩:=fb (.inr (.inr (.inr j)))
   obtain ⟨a,ha⟩: ∃a,t.kids=[a]:=by
    have:=E5 ft j (n:=1) rfl
    match h:t.kids,this with
    |[a],_=>simp
   rw [j,show ((18:Int)==18)=true from rfl,ae,if_pos rfl,B,sf,ha]
   rfl
  rw [beq_false_of_ne j,n3,if_neg j]
  by_cases Y:t.kind=16<;>grind [ae,n3]
abbrev kd0 (t:Tm):Tm:=t.kids.getD 0 noT
abbrev kd1 (t:Tm):Tm:=t.kids.getD 1 noT
abbrev kd2 (t:Tm):Tm:=t.kids.getD 2 noT
abbrev kd3 (t:Tm):Tm:=t.kids.getD 3 noT
abbrev kd4 (t:Tm):Tm:=t.kids.getD 4 noT
theorem arL {t:Tm} {n i:Nat} (h:t.kids.length=n) (j:i<n):af t.kids (i:Int)=some (t.kids.getD i noT)/\t.kids.getD i noT∈t.kids:=by
 grind [pU]
theorem aAY (r:LC):atU r= -1\/atU r=0\/atU r=1:=by
 grind [atU]
def aw0 (t:Tm):Tm×Bool×Int:=
 if atU t.r=0 then (kd1 t,true,0) else if atU t.r=1 then (kd2 t,true,0) else
 if (kd0 t).kind=12 then ((tE (an8 0 t.r (kd0 (kd0 t)))).1,true,(tE (an8 0 t.r (kd0 (kd0 t)))).2) else (noT,false,0)
theorem Fm.r13 {t:Tm} (h:Fm t) (hk:t.kind=13):RF t.r:=by
 have ho:=h.own
 obtain ⟨kd,n,j,r,q,sys⟩:=t
 have hk:kd=13:=hk
 subst hk
 have ho:(_&&(ary r&&_))=true:=ho
 simp only [anZ] at ho
 exact (atQ (h.ok.no.2.2.2.1)).1 ho.2.1
theorem aHX (hk:F3 k) {t:Tm} (ft:Fm t) (q:t.kind=13) (I:Tm×Bool×Int->OS S):cA k t 0 I=I (aw0 t):=by
 have hl:=E5 ft q (n:=3) rfl
 obtain ⟨g0,m0⟩:=arL hl (i:=0) (by omega)
 obtain ⟨g1,_⟩:=arL hl (i:=1) (by omega)
 obtain ⟨g2,_⟩:=arL hl (i:=2) (by omega)
 simp only [cA,ag hk.fu,ar,azS]
 unfold aw0
 rcases aAY t.r with h|h|h
 ·rw [h,show decide ((-1:Int)>=0)=false from rfl,n3,if_neg (by decide),if_neg (by decide)]
  simp only [Int.natCast_zero] at g0
  rw [g0,sf]
  by_cases j:(kd0 t).kind=12
  ·rw [j,show ((12:Int)==12)=true from rfl,ae,if_pos rfl,sf]
   have f0:=ft.kid m0
   have x:=E5 f0 j (n:=1) rfl
   obtain ⟨g,m⟩:=arL x (i:=0) (by omega)
   simp only [Int.natCast_zero] at g
   rw [g,sf,wa hk (fun _=>(f0.kid m).isIn hk) (ft.r13 q)]
   rfl
  ·rw [beq_false_of_ne j,n3,if_neg j];rfl
 ·rw [h,show decide ((0:Int)>=0)=true from rfl,ae,if_pos rfl]
  have:su .i64 (1+0)=((1:Nat):Int):=rfl
  grind
 ·rw [h,show decide ((1:Int)>=0)=true from rfl,ae,if_neg (by decide),if_pos rfl]
  have:su .i64 (1+1)=((2:Nat):Int):=rfl
  grind
def auX (t:Tm):Tm×Bool:=
 if atU t.r= -1 then (noT,false) else if t.kind=21 then (dS 20 [],true) else if atU t.r=0 then (dS 24 [],true) else (dS 25 [],true)
theorem aC7 (hk:F3 k) (t:Tm) (I:Tm×Bool->OS S):bA k t I=I (auX t):=by
 simp only [bA,ag hk.fu,azS,zc]
 unfold auX
 rcases aAY t.r with h|h|h
 ·rw [h,show decide ((-1:Int)<0)=true from rfl,ae,if_pos rfl];rfl
 ·rw [h,show decide ((0:Int)<0)=false from rfl,n3,if_neg (by decide)]
  by_cases j:t.kind=21
  ·rw [j,show ((21:Int)==21)=true from rfl,ae,if_pos rfl];rfl
  ·rw [beq_false_of_ne j,n3,if_neg j,show ((0:Int)==0)=true from rfl,ae,if_pos rfl];rfl
 ·rw [h,show decide ((1:Int)<0)=false from rfl,n3,if_neg (by decide)]
  by_cases j:t.kind=21
  ·rw [j,show ((21:Int)==21)=true from rfl,ae,if_pos rfl];rfl
  ·rw [beq_false_of_ne j,n3,if_neg j,show ((1:Int)==0)=false from rfl,n3,if_neg (by decide)];rfl
def awi (t:Tm):Tm×Bool:=
 if (kd3 t).kind=20 then (kd1 t,true) else if (kd3 t).kind=21 then (pap (kd3 t).r (kd2 t) (kd1 t) (kd1 t),true) else (noT,false)
theorem aHW (hk:F3 k) {t:Tm} (ft:Fm t) (j:t.kind=22) (I:Tm×Bool->OS S):axm k t I=I (awi t):=by
 have hl:=E5 ft j (n:=4) rfl
 obtain ⟨g1,_⟩:=arL hl (i:=1) (by omega)
 obtain ⟨g2,_⟩:=arL hl (i:=2) (by omega)
 obtain ⟨g3,_⟩:=arL hl (i:=3) (by omega)
 have g1:af t.kids 1=some (kd1 t):=g1
 have g2:af t.kids 2=some (kd2 t):=g2
 have g3:af t.kids 3=some (kd3 t):=g3
 simp only [axm,ag hk.fu,ar,g1,g2,g3,sf,tO]
 unfold awi
 by_cases h:(kd3 t).kind=20
 ·grind [ae]
 rw [beq_false_of_ne h,n3,if_neg h]
 by_cases h:(kd3 t).kind=21
 ·grind [ae]
 rw [beq_false_of_ne h,n3,if_neg h];rfl
def awj (t:Tm):Tm×Bool:=
 if (kd4 t).kind=24 then (kd1 t,true) else if (kd4 t).kind=25 then (kd2 t,true) else
 if (kd4 t).kind=26 then (pap (kd4 t).r (dS 6 [kd3 t,kd0 (kd4 t)]) (kd1 t) (kd2 t),true) else (noT,false)
theorem aHZ (hk:F3 k) {t:Tm} (ft:Fm t) (j:t.kind=27) (I:Tm×Bool->OS S):axn k t I=I (awj t):=by
 have hl:=E5 ft j (n:=5) rfl
 obtain ⟨g1,_⟩:=arL hl (i:=1) (by omega)
 obtain ⟨g2,_⟩:=arL hl (i:=2) (by omega)
 obtain ⟨g3,_⟩:=arL hl (i:=3) (by omega)
 obtain ⟨g4,m4⟩:=arL hl (i:=4) (by omega)
 have g1:af t.kids 1=some (kd1 t):=g1
 have g2:af t.kids 2=some (kd2 t):=g2
 have g3:af t.kids 3=some (kd3 t):=g3
 have g4:af t.kids 4=some (kd4 t):=g4
 simp only [axn,ag hk.fu,ar,g1,g2,g3,g4,sf,tO,zc]
 unfold awj
 by_cases h:(kd4 t).kind=24
 ·grind [ae]
 rw [beq_false_of_ne h,n3,if_neg h]
 by_cases h:(kd4 t).kind=25
 ·grind [ae]
 rw [beq_false_of_ne h,n3,if_neg h]
 by_cases h:(kd4 t).kind=26
 ·have q:=E5 (ft.kid m4) h (n:=1) rfl
  obtain ⟨g,_⟩:=arL q (i:=0) (by omega)
  have g:af (kd4 t).kids 0=some (kd0 (kd4 t)):=g
  rw [h,show ((26:Int)==26)=true from rfl,ae,if_pos rfl,g,sf];rfl
 rw [beq_false_of_ne h,n3,if_neg h];rfl
def aul (t:Tm):Tm×Bool×Int:=
 if t.kind=6 then (if (kd0 t).kind=5 then ((tE (ri 0 (kd0 (kd0 t)) (kd1 t))).1,true,(tE (ri 0 (kd0 (kd0 t)) (kd1 t))).2) else asN t) else
 if t.kind=9 then (if (kd0 t).kind=8 then (kd0 (kd0 t),true,0) else asN t) else
 if t.kind=10 then (if (kd0 t).kind=8 then (kd1 (kd0 t),true,0) else asN t) else
 if t.kind=13 then aw0 t else
 if t.kind=21 then ((auX t).1,(auX t).2,0) else
 if t.kind=26 then ((auX t).1,(auX t).2,0) else
 if t.kind=22 then ((awi t).1,(awi t).2,0) else
 if t.kind=27 then ((awj t).1,(awj t).2,0) else
 if t.kind=28 then (kd0 t,true,0) else
 if t.kind=14 then (kd1 t,atU t.r==1,0) else
 if t.kind=18 then (if (asN t).2.1=true then ((asN t).1,true,(asN t).2.2) else if (kd0 t).kind=17 then (kd0 (kd0 t),true,(asN t).2.2) else asN t) else asN t
theorem aEW {t:Tm} (h:t.kind=18):(asN t).2.2=0:=by
 grind [asN]
theorem aHY (B:F4 k) {t:Tm} (ft:Fm t) (I:Tm×Bool×Int->OS S):cD k t 0 I=I (aul t):=by
 have hk:=B.f3
 have W: ∀g:Tm×Bool×Int->OS S,aJ k t 0 g=g (asN t):=fun g=>aH0 hk ft g
 simp only [cD,ag hk.fu,ar,W]
 unfold aul
 by_cases E:t.kind=6
 ·have hl:=E5 ft E (n:=2) rfl
  obtain ⟨g0,m0⟩:=arL hl (i:=0) (by omega)
  obtain ⟨g1,m1⟩:=arL hl (i:=1) (by omega)
  have g0:af t.kids 0=some (kd0 t):=g0
  have g1:af t.kids 1=some (kd1 t):=g1
  rw [if_pos E,E,show ((6:Int)==6)=true from rfl,ae,g0,sf]
  by_cases Y:(kd0 t).kind=5
  ·have h:=E5 (ft.kid m0) Y (n:=1) rfl
   obtain ⟨g,m⟩:=arL h (i:=0) (by omega)
   have g:af (kd0 t).kids 0=some (kd0 (kd0 t)):=g
   rw [if_pos Y,Y,show ((5:Int)==5)=true from rfl,ae,sf,g,sf,g1,sf,Hf B (fun _=>⟨((ft.kid m0).kid m).isIn hk,(ft.kid m1).isIn hk⟩)]
   rfl
  grind [n3]
 rw [if_neg E,beq_false_of_ne E,n3]
 by_cases F:t.kind=9
 ·have hl:=E5 ft F (n:=1) rfl
  obtain ⟨g0,m0⟩:=arL hl (i:=0) (by omega)
  have g0:af t.kids 0=some (kd0 t):=g0
  rw [if_pos F,F,show ((9:Int)==9)=true from rfl,ae,g0,sf]
  by_cases x:(kd0 t).kind=8
  ·have h:=E5 (ft.kid m0) x (n:=2) rfl
   obtain ⟨g,_⟩:=arL h (i:=0) (by omega)
   have g:af (kd0 t).kids 0=some (kd0 (kd0 t)):=g
   rw [if_pos x,x,show ((8:Int)==8)=true from rfl,ae,sf,show su .i64 ((9:Int)-9)=0 from rfl,g,sf]
  grind [n3]
 rw [if_neg F,beq_false_of_ne F,n3]
 by_cases j:t.kind=10
 ·have hl:=E5 ft j (n:=1) rfl
  obtain ⟨g0,m0⟩:=arL hl (i:=0) (by omega)
  have g0:af t.kids 0=some (kd0 t):=g0
  rw [if_pos j,j,show ((10:Int)==10)=true from rfl,ae,g0,sf]
  by_cases x:(kd0 t).kind=8
  ·have h:=E5 (ft.kid m0) x (n:=2) rfl
   obtain ⟨g,_⟩:=arL h (i:=1) (by omega)
   have g:af (kd0 t).kids 1=some (kd1 (kd0 t)):=g
   rw [if_pos x,x,show ((8:Int)==8)=true from rfl,ae,sf,show su .i64 ((10:Int)-9)=1 from rfl,g,sf]
  grind [n3]
 rw [if_neg j,beq_false_of_ne j,n3]
 by_cases J:t.kind=13
 ·grind [ae,aHX]
 rw [if_neg J,beq_false_of_ne J,n3]
 by_cases L:t.kind=21
 ·grind [ae,aC7]
 rw [if_neg L,beq_false_of_ne L,n3]
 by_cases M:t.kind=26
 ·grind [ae,aC7]
 rw [if_neg M,beq_false_of_ne M,n3]
 by_cases O:t.kind=22
 ·grind [ae,aHW]
 rw [if_neg O,beq_false_of_ne O,n3]
 by_cases T:t.kind=27
 ·grind [ae,aHZ]
 rw [if_neg T,beq_false_of_ne T,n3]
 by_cases z:t.kind=28
 ·have hl:=E5 ft z (n:=2) rfl
  grind [af,ae]
 rw [if_neg z,beq_false_of_ne z,n3]
 by_cases A:t.kind=14
 ·have hl:=E5 ft A (n:=2) rfl
  grind [af,ae,azS]
 rw [if_neg A,beq_false_of_ne A,n3]
 by_cases q:t.kind=18
 ·have hl:=E5 ft q (n:=1) rfl
  obtain ⟨g0,m0⟩:=arL hl (i:=0) (by omega)
  have g0:af t.kids 0=some (kd0 t):=g0
  rw [if_pos q,q,show ((18:Int)==18)=true from rfl,ae,aEW q]
  by_cases hb:(asN t).2.1=true
  ·grind [ae]
  ·have ad:(asN t).2.1=false:=by grind
   rw [if_neg hb,ad,n3,g0,sf]
   by_cases ao:(kd0 t).kind=17
   ·have h:=E5 (ft.kid m0) ao (n:=1) rfl
    grind [af,ae]
   grind [n3]
 grind [n3]
def Ob (x:Tm):Prop:=OkT x/\am x<=300
theorem Fm.ob {x:Tm} (h:Fm x):Ob x:=⟨h.ok,by have:=h.dep;omega⟩
theorem Q2.ob {x:Tm} (h:Q2 x):Ob x:=⟨h.1.ok,by have:=h.2;omega⟩
theorem auR:Ob noT:=q2_no.ob
theorem azs {t:Tm} (ft:Fm t) (i:Nat):FN (t.kids.getD i noT):=by
 by_cases h:i<t.kids.length
 ·exact .inl (ft.kid (arL (t:=t) rfl h).2)
 ·rw [List.getD_eq_getElem?_getD,List.getElem?_eq_none (by omega)];exact .inr rfl
theorem FN.ob {x:Tm} (h:FN x):Ob x:=h.elim Fm.ob fun e=>by rw [e];exact auR
theorem aGG {t:Tm} (ft:FN t) (i:Nat):FN (t.kids.getD i noT):=by
 rcases ft with h|h
 ·exact azs h i
 ·rw [h];exact .inr (by rfl)
theorem az3 {x:Except Int Tm} (h: ∀t,x= .ok t->Q2 t):Ob (tE x).1:=by
 cases x with
 |error e=>exact auR
 |ok t=>exact (h t rfl).ob
theorem azo (n:Int) (h:0<=n/\n<=28):Ob (dS n []):=by
 unfold dS
 refine ⟨?_, ?_⟩
 ·rw [OkT,aZ,ba];exact ⟨⟨by unfold aG;omega,by unfold aG;omega,by decide,(fun c hc=>by cases hc),by simp,by simp,by simp⟩,trivial,trivial⟩
 grind [am,aH,aO]
theorem aEX {t:Tm} (ft:Fm t):Ob (asN t).1:=by
 unfold asN
 split
 ·exact auR
 rename_i b hb
 have j:=aDq hb
 have fb:FN (AK b):=by
  unfold AK
  cases hk:b.kids with
  |nil=>exact .inr rfl
  |cons x r=>exact .inl (ft.brk j (by grind))
 split
 ·exact az3 fun t h=>avn fb.sm.1.ok h
 split
 ·have q:=at5 (kd:=9) (by omega) fb.sm (by omega)
  have z:=(azs ft 0).sm
  have:=atm (kd:=6) (by omega) (d:=201) q ⟨z.1,by omega⟩ (by omega)
  exact ⟨this.1.ok,aru this.2 (by omega)⟩
 split
 ·exact fb.ob
 ·exact auR
theorem aCC {r:LC} (q:aq r/\r.length<1073741824) {x y z:Tm} {n:Nat} (A:Sm n x/\am x<=201) (h:FN y) (j:FN z):Ob (pap r x y z):=by
 have:=azY q (d:=201) A ⟨h.sm.1,by have:=h.sm.2;omega⟩ ⟨j.sm.1,by have:=j.sm.2;omega⟩ (by omega)
 exact ⟨this.1.ok,by omega⟩
theorem aA9 {x:Tm} (h:FN x):aq x.r/\x.r.length<1073741824:=⟨h.sm.1.ok.no.2.2.2.1,h.sm.1.ok.no.2.2.2.2.1⟩
theorem asJ {c:Prop} [Decidable c] {a b:Tm×Bool×Int} (ha:Ob a.1) (hb:Ob b.1):Ob (if c then a else b).1:=by
 grind
theorem auO {c:Prop} [Decidable c] {a b:Tm×Bool} (ha:Ob a.1) (hb:Ob b.1):Ob (if c then a else b).1:=by
 grind
theorem aAJ {t:Tm} (ft:Fm t):Ob (aul t).1:=by
 have q:=aEX ft
 have c:=azs ft
 have cc:=fun i j=>aGG (c i) j
 have z:Ob (aw0 t).1:=asJ (c 1).ob (asJ (c 2).ob (asJ (az3 fun y h=>avn (cc 0 0).sm.1.ok h) auR))
 have x:Ob (auX t).1:=auO auR (auO (azo 20 (by omega)) (auO (azo 24 (by omega)) (azo 25 (by omega))))
 have A:Ob (awi t).1:=auO (c 1).ob (auO (aCC (aA9 (c 3)) ⟨(c 2).sm.1,aru (c 2).sm.2 (by omega)⟩ (c 1) (c 1)) auR)
 have B:Ob (awj t).1:=auO (c 1).ob (auO (c 2).ob (auO (aCC (aA9 (c 4)) (atm (kd:=6) (by omega) (c 3).sm (cc 4 0).sm (by omega)) (c 1) (c 2)) auR))
 unfold aul
 exact asJ (asJ (az3 fun y h=>azK (cc 0 0).sm.1.ok (c 1).sm.1.ok h) q) (asJ (asJ (cc 0 0).ob q) (asJ (asJ (cc 0 1).ob q) (asJ z (asJ x (asJ x (asJ A (asJ B (asJ (c 0).ob (asJ (c 1).ob (asJ (asJ q (asJ (cc 0 0).ob q)) q))))))))))
def avr (t:Tm):Tm×Bool×Int:=
 if bw t≠0 then (noT,false,bw t) else
 if (aul t).2.1=true then atL ((aul t).1,(aul t).2.2) else (noT,false,0)
theorem aH3 (j:F4 k) {t:Tm} (h:In k t) (I:Tm×Bool×Int->OS S):axl k t I=I (avr t):=by
 have hk:=j.f3
 simp only [axl,ag hk.fu,ar,amv h.1 h.2.1 h.dep]
 unfold avr
 by_cases q:bw t=0
 case neg=>rw [dj q,aqD,ae,if_pos q];rfl
 rw [q,show (!((0:Int)==0))=false from rfl,n3,if_neg (by simp),vU t h.1 _ h.2.1]
 have ft:Fm t:=⟨h.1,q⟩
 rw [aHY j ft]
 have ob:=aAJ ft
 by_cases hb:(aul t).2.1=true
 ·rw [if_pos hb,hb,aq6,n3]
  exact azT hk ob.1 (by have:=ob.2;omega) _
 ·have x:(aul t).2.1=false:=by grind
  rw [if_neg hb,x,aqD,ae];rfl
theorem auB (hk:F3 k) {c a b:Int} {t:Tm} (ha:0<=a/\a<1000) (hb:0<=b/\b<1000) (h:In k t) (I:Tm×Int->OS S):arP k t a b c I=I (mM c (wA a b t)):=by
 by_cases hc:c=0
 ·subst hc
  simp only [arP,ag hk.fu,de,ar,rI,if_true]
  rw [show ((0:Int)==0)=true from rfl,aq6,n3,aiH hk h (vb:=a) (db:=b) (by omega) (by omega)]
  rfl
 grind [Hh,n9]
def auK (c:Int) (t a f y:Tm):Tm×Int:=
 (dS 7 [t,dS 11 [(mM c (wA 1 1 a)).1,(mM (mM c (wA 1 1 a)).2 (wA 1 0 y)).1,dS 6 [(mM (mM (mM c (wA 1 1 a)).2 (wA 1 0 y)).2 (wA 1 0 f)).1,vN 0]]],(mM (mM (mM c (wA 1 1 a)).2 (wA 1 0 y)).2 (wA 1 0 f)).2)
theorem aIb (hk:F3 k) {c:Int} {t a f y:Tm} (ha:In k a) (hf:In k f) (h:In k y) (I:Int×Int×BA×LT×Int->OS S):
  au2 k t a f y c I=I (7,0,alH,(auK c t a f y).1.kids,(auK c t a f y).2):=by
 simp only [au2,ag hk.fu,ar,asX,arj]
 rw [auB hk (by omega) (by omega) ha,auB hk (by omega) (by omega) h,auB hk (by omega) (by omega) hf]
 rfl
def auG (c:Int) (t:Tm):Tm×Int:=(dS 7 [t,dS 4 [(mM c (wA 1 0 t)).1,dS 11 [(mM (mM c (wA 1 0 t)).2 (wA 2 1 t)).1,vN 1,vN 0]]],(mM (mM c (wA 1 0 t)).2 (wA 2 1 t)).2)
theorem aH5 (hk:F3 k) {c:Int} {t:Tm} (h:In k t) (I:Int×Int×BA×LT×Int->OS S):
  axt k t c I=I (7,0,alH,(auG c t).1.kids,(auG c t).2):=by
 simp only [axt,ag hk.fu,ar,asX,arj]
 rw [auB hk (by omega) (by omega) h,auB hk (by omega) (by omega) h]
 rfl
def au8 (c:Int) (t a:Tm):Tm×Int:=
 let h:=mM c (wA 1 0 a)
 let j:=mM h.2 (wA 1 0 a)
 let q:=mM j.2 (wA 2 0 t)
 let x:=mM q.2 (wA 2 0 a)
 let z:=auK x.2 q.1 x.1 (vN 1) (vN 0)
 let A:=auG z.2 z.1
 (dS 7 [dS 4 [t,h.1],dS 4 [j.1,A.1]],A.2)
def aus (t a:Tm):Except Int Tm:=al_ (tmE (au8 (alE [t,a]) t a))
theorem aDl {kd:Int} (h:0<=kd/\kd<=28) {n m j d:Nat} {x y z:Tm} (q:Sm n x/\am x<=d) (A:Sm m y/\am y<=d) (B:Sm j z/\am z<=d) (hd:d<=290):Sm (n+m+j+1) (dS kd [x,y,z])/\am (dS kd [x,y,z])<=d+1:=by
 unfold dS
 refine ⟨(Hn (kd:=kd) h (r:=[]) ⟨(fun c hc=>by cases hc),by simp⟩ (ks:=[x,y,z]) (sys:=[]) (n:=n+m+j) (m:=0) (fun w E=>by
  simp at E
  rcases E with rfl|rfl|rfl
  ·exact ⟨q.1.ok,by omega⟩
  ·exact ⟨A.1.ok,by omega⟩
  ·exact ⟨B.1.ok,by omega⟩) (by simp) (by rw [ay,ay,ay,ay];have:=q.1.siz;have:=A.1.siz;have:=B.1.siz;omega) (by rw [ba];trivial) (by simp) (by rw [aO];omega) (by rw [aI];omega)).mono (by omega), ?_⟩
 grind [am,aH,aO]
theorem aA2 {c:Int} {t a f y:Tm} (q:Sm 20000 t/\am t<=200) (ha:OkT a) (hf:OkT f) (x:OkT y):Sm 150000 (auK c t a f y).1/\am (auK c t a f y).1<=204:=by
 have fa:=asl (c:=c) (a:=1) (b:=1) (by omega) (by omega) ha
 have fy:=asl (c:=(mM c (wA 1 1 a)).2) (a:=1) (b:=0) (by omega) (by omega) x
 have ff:=asl (c:=(mM (mM c (wA 1 1 a)).2 (wA 1 0 y)).2) (a:=1) (b:=0) (by omega) (by omega) hf
 have v0:=at7 (n:=0) (by omega)
 have z:=atm (kd:=6) (by omega) (d:=200) ff.sm v0 (by omega)
 have h:=aDl (kd:=11) (by omega) (d:=201) ⟨fa.sm.1,by have:=fa.sm.2;omega⟩ ⟨fy.sm.1,by have:=fy.sm.2;omega⟩ z (by omega)
 have j:=atm (kd:=7) (by omega) (d:=202) ⟨q.1,by omega⟩ h (by omega)
 exact ⟨j.1.mono (by omega),aru j.2 (by omega)⟩
theorem aE9 {c:Int} {t:Tm} {n d:Nat} (h:Sm n t/\am t<=d) (hd:200<=d/\d<=280):Sm (n+100000) (auG c t).1/\am (auG c t).1<=d+3:=by
 have f1:=asl (c:=c) (a:=1) (b:=0) (by omega) (by omega) h.1.ok
 have f2:=asl (c:=(mM c (wA 1 0 t)).2) (a:=2) (b:=1) (by omega) (by omega) h.1.ok
 have v0:=at7 (n:=0) (by omega)
 have v1:=at7 (n:=1) (by omega)
 have j:=aDl (kd:=11) (by omega) (d:=200) f2.sm v1 v0 (by omega)
 have x:=atm (kd:=4) (by omega) (d:=201) ⟨f1.sm.1,by have:=f1.sm.2;omega⟩ j (by omega)
 have q:=atm (kd:=7) (by omega) (d:=d+2) ⟨h.1,by omega⟩ ⟨x.1,by omega⟩ (by omega)
 exact ⟨q.1.mono (by omega),aru q.2 (by omega)⟩
theorem aA0 {c:Int} {t a:Tm} {n d:Nat} (q:Sm n t/\am t<=d) (hd:200<=d/\d<=270) (ha:OkT a):Sm (n+400000) (au8 c t a).1/\am (au8 c t a).1<=d+10:=by
 have f1:=asl (c:=c) (a:=1) (b:=0) (by omega) (by omega) ha
 have f2:=asl (c:=(mM c (wA 1 0 a)).2) (a:=1) (b:=0) (by omega) (by omega) ha
 have f3:=asl (c:=(mM (mM c (wA 1 0 a)).2 (wA 1 0 a)).2) (a:=2) (b:=0) (by omega) (by omega) q.1.ok
 have f4:=asl (c:=(mM (mM (mM c (wA 1 0 a)).2 (wA 1 0 a)).2 (wA 2 0 t)).2) (a:=2) (b:=0) (by omega) (by omega) ha
 unfold au8
 dsimp only
 generalize mM (mM (mM (mM c (wA 1 0 a)).2 (wA 1 0 a)).2 (wA 2 0 t)).2 (wA 2 0 a)=h at f4 ⊢
 generalize mM (mM (mM c (wA 1 0 a)).2 (wA 1 0 a)).2 (wA 2 0 t)=x at f3 ⊢
 have z:=aA2 (c:=h.2) (t:=x.1) (a:=h.1) (f:=vN 1) (y:=vN 0) f3.sm f4.sm.1.ok (at7 (by omega)).1.ok (at7 (by omega)).1.ok
 generalize auK h.2 x.1 h.1 (vN 1) (vN 0)=j at z ⊢
 have A:=aE9 (c:=j.2) z (by omega)
 generalize auG j.2 j.1=E at A ⊢
 have a1:=atm (kd:=4) (by omega) (d:=d+7) ⟨q.1,by omega⟩ ⟨f1.sm.1,by have:=f1.sm.2;omega⟩ (by omega)
 have a2:=atm (kd:=4) (by omega) (d:=d+7) ⟨f2.sm.1,by have:=f2.sm.2;omega⟩ ⟨A.1,by omega⟩ (by omega)
 have B:=atm (kd:=7) (by omega) (d:=d+8) a1 a2 (by omega)
 exact ⟨B.1.mono (by omega),by omega⟩
theorem aHS (hk:F3 k) {t a:Tm} (j:Q2 t) (ha:Q2 a) (I:Tm×Int->OS S):axp k t a I=I (tE (aus t a)):=by
 have it:=j.isIn hk
 have q:=ha.isIn hk
 have z: ∀x∈[t,a],In k x:=fun x L=>by
  grind
 have A:Tm.mk 1 0 alH [] [] []=vN 0:=rfl
 have B:Tm.mk 1 1 alH [] [] []=vN 1:=rfl
 have i0:=(at7 (n:=0) (by omega)).isIn hk
 have i1:=(at7 (n:=1) (by omega)).isIn hk
 simp only [axp,ag hk.fu,ar,Re hk z (by simp),vU t it.1 _ it.2.1,arj,asX]
 unfold aus
 have h:=aA0 (c:=alE [t,a]) (t:=t) (a:=a) (n:=20000) (d:=200) j (by omega) ha.1.ok
 generalize alE [t,a]=c at h ⊢
 have f3:=asl (c:=(mM (mM c (wA 1 0 a)).2 (wA 1 0 a)).2) (a:=2) (b:=0) (by omega) (by omega) j.1.ok
 have f4:=asl (c:=(mM (mM (mM c (wA 1 0 a)).2 (wA 1 0 a)).2 (wA 2 0 t)).2) (a:=2) (b:=0) (by omega) (by omega) ha.1.ok
 have E:=aA2 (c:=(mM (mM (mM (mM c (wA 1 0 a)).2 (wA 1 0 a)).2 (wA 2 0 t)).2 (wA 2 0 a)).2) (t:=(mM (mM (mM c (wA 1 0 a)).2 (wA 1 0 a)).2 (wA 2 0 t)).1) (a:=(mM (mM (mM (mM c (wA 1 0 a)).2 (wA 1 0 a)).2 (wA 2 0 t)).2 (wA 2 0 a)).1) (f:=vN 1) (y:=vN 0) f3.sm f4.sm.1.ok (at7 (by omega)).1.ok (at7 (by omega)).1.ok
 rw [auB hk (by omega) (by omega) q,auB hk (by omega) (by omega) q,auB hk (by omega) (by omega) it,auB hk (by omega) (by omega) q,A,B,aIb hk (f4.sm.1.isIn hk (by omega)) i1 i0]
 have F: ∀c t a f y,Tm.mk 7 0 alH [] (auK c t a f y).1.kids []=(auK c t a f y).1:=fun _ _ _ _ _=>rfl
 have J: ∀c t,Tm.mk 7 0 alH [] (auG c t).1.kids []=(auG c t).1:=fun _ _=>rfl
 dsimp only
 rw [F,aH5 hk (E.1.isIn hk (by omega))]
 dsimp only
 rw [J]
 exact Rk (t:=(au8 c t a).1) (c:=(au8 c t a).2) hk (fun _=>h.1.isIn hk (by omega)) I
theorem aFN {t a:Tm} {e:Int} (h:aus t a= .error e):e≠0:=by
 grind [aus,al_,tmE,aD,lk]
theorem aIv (hk:F3 k) {t a:Tm} {c:Int} (j:Q2 t) (ha:Q2 a) (I:Tm×Int->OS S):axV k t a c I=I (mM c (aus t a)):=by
 simp only [axV,ag hk.fu,dG,ar,rJ]
 exact Az c (fun h g=>aHS hk j ha g) (fun e h=>aFN h) I
theorem aFM {t a y:Tm} (x:Q2 t) (ha:OkT a) (h:aus t a= .ok y):Fm y:=by
 have j:=aA0 (c:=alE [t,a]) (t:=t) (a:=a) (n:=20000) (d:=200) x (by omega) ha
 unfold aus al_ tmE at h
 by_cases q:(au8 (alE [t,a]) t a).2=0
 ·rw [if_pos q,aD] at h
  split at h
  ·rename_i hf
   injection h with h;subst h
   exact ⟨j.1.ok,hf⟩
  ·cases h
 ·rw [if_neg q,lk] at h;cases h
def atS (a:Tm) (c:Int) (x:Br Tm):Br Tm×Int:=
 let E:=mM c (an8 0 [⟨0,0⟩] (AK x))
 let A:=mM E.2 (wA 0 1 a)
 let Q:=mM A.2 (aus (AK x) A.1)
 (⟨x.face,[E.1,dS 14 [Q.1,idT]]⟩,Q.2)
section
variable {x1 x2:Int} {x3:BA} {x4:LC} {x5:LT} {x6 sys:LB}
theorem aIo (hk:F3 k) (fa:Fm (Tm.mk x1 x2 x3 x4 x5 x6)) (sy: ∀b∈sys,b.kids=[AK b]/\Fm (AK b)/\RX true b.face) (A:sys.length<=20000) (I:Int×Int×BA×LT×LB×Int->OS S):
  axK k 0 x1 x2 x3 x4 x5 x6 sys I=(fun l:LB×Int=>I (16,0,alH,[Tm.mk x1 x2 x3 x4 x5 x6],l.1,l.2)) (ark (atS (Tm.mk x1 x2 x3 x4 x5 x6)) 0 sys):=by
 have B:4294968296<=k:=hk
 obtain ⟨q,E⟩: ∃q,k=q+100:=⟨k-100,by omega⟩
 have j: ∀g:Int×Int×BA×LT->OS S,axr k g=g (8,0,alH,idL):=fun g=>by rw [E];exact aF9 q g
 generalize ha:Tm.mk x1 x2 x3 x4 x5 x6=a at fa
 simp only [axK,ag hk.fu,avB,aAg,ha,JM]
 have:=fun RET=>ax7 (S:=S) (l:=sys) (L:=fun m c i acc=>avY k RET x1 x2 x3 x4 x5 x6 sys m c i acc) (F:=atS a) (I:=RET)
  (fun m c acc _=>by
   have:=akb (l:=sys) (p:=sys) (by simp)
   simp only [avY,axd,this,n3])
  (fun m c x p r acc h z=>by
   obtain ⟨J,M,O,_⟩:=apy h (by omega)
   have hlen:p.length<sys.length:=by rw [h];simp
   obtain ⟨T,q2,_⟩:=sy x (by rw [h];simp)
   have W:af x.kids 0=some (AK x):=ED (n:=0) rfl (by rw [T];rfl)
   have Y:=asl (c:=(mM c (an8 0 [⟨0,0⟩] (AK x))).2) (a:=0) (b:=1) (by omega) (by omega) fa.ok
   simp only [avY,axd,J,ae,M,sf,W,ag hk.fu,ar,azb,ha,aq3,zc,O,j]
   rw [vZ hk (fun _=>q2.isIn hk),ajn hk (fun _=>fa.isIn hk) (by omega) (by omega),aIv hk q2.q2 Y.sm,J5 (by simp;omega)]
   rfl)
  sys [] [] k 0 rfl (by omega) rfl
 refine (this _).trans ?_
 rw [as2]
end
theorem aDr {a:Tm} (fa:Fm a) {x:Br Tm} (h:Fm (AK x)/\RX true x.face) (c:Int):awZ (atS a c x).1:=by
 have z:Q2 (mM c (an8 0 [⟨0,0⟩] (AK x))).1:=atC fun t q=>avn h.1.ok q
 have A:=asl (c:=(mM c (an8 0 [⟨0,0⟩] (AK x))).2) (a:=0) (b:=1) (by omega) (by omega) fa.ok
 have B:FN (mM (mM (mM c (an8 0 [⟨0,0⟩] (AK x))).2 (wA 0 1 a)).2 (aus (AK x) (mM (mM c (an8 0 [⟨0,0⟩] (AK x))).2 (wA 0 1 a)).1)).1:=arW fun t q=>aFM h.1.q2 A.sm.1.ok q
 have j:=atm (kd:=14) (by omega) (d:=200) B.sm ⟨id_fm.sm,id_fm.dep⟩ (by omega)
 have r:=G9 h.2
 exact ⟨_,_,rfl,z.1,j.1.mono (by omega),z.2,j.2,r.1,r.2⟩
def hcG (t:Tm):Tm×Bool×Int:=
 if bw t≠0 then (noT,false,bw t) else
 if t.kind=15/\(t.kids.getD 0 noT).kind=3 then atL (.mk 16 0 alH [] [t.kids.getD 1 noT] (ark (atS (t.kids.getD 1 noT)) 0 t.sys).1,(ark (atS (t.kids.getD 1 noT)) 0 t.sys).2)
 else ava t
theorem aIn (M:F4 k) {t:Tm} (F:In k t) (ad:(t.kids.getD 0 noT).kind≠3) (I:Tm×Bool×Int->OS S):cG k t I=I (ava t):=by
 have hk:=M.f3
 simp only [cG,ag hk.fu,ar,amv F.1 F.2.1 F.dep]
 unfold ava
 by_cases T:bw t=0
 case neg=>rw [dj T,aqD,ae,if_pos T];rfl
 rw [T,show (!((0:Int)==0))=false from rfl,n3,if_neg (by simp)]
 have ft:Fm t:=⟨F.1,T⟩
 by_cases x:t.kind=15
 case neg=>rw [beq_false_of_ne x,aqD,ae,if_neg (fun h=>x h.1)];rfl
 rw [x,show (!((15:Int)==15))=false from rfl,n3,vU t F.1 _ F.2.1]
 obtain ⟨k0,a,O⟩:=I8 (E5 ft x (n:=2) rfl)
 obtain ⟨g0,g1⟩:=KQ O
 obtain ⟨d0,d1⟩:=EC O
 have A:Fm k0:=ft.kid (by grind)
 have fa:Fm a:=ft.kid (by grind)
 obtain ⟨sy,B⟩:=ft.sy x
 have W:Tm.mk a.kind a.n a.name a.r a.kids a.sys=a:=by cases a;rfl
 have E:Fm (Tm.mk a.kind a.n a.name a.r a.kids a.sys):=by grind
 simp only [g0,g1,sf]
 unfold azm
 rw [d0,d1]
 dsimp only
 by_cases J:k0.kind=4
 ·obtain ⟨p,b,hb⟩:=I8 (E5 A J (n:=2) rfl)
  obtain ⟨w1,i1,i2,i3,i4,i5⟩:=aC_ hk hb (A.kid (by grind)) E sy B (fun j=>ly k (Tm.mk j.1 j.2.1 j.2.2.1 [] j.2.2.2.1 []) j.2.2.2.2 fun z=>I (z.1,z.2.1,z.2.2.1))
  rw [if_pos ⟨trivial,.inl J⟩,if_pos J,J,show ((4:Int)==4)=true from rfl,ae]
  refine i2.trans ?_
  refine (Ry hk i3 _).trans ?_
  rw [(EC hb).2]
  rw [W] at i4 i5
  exact aAu i4 i5 I
 rw [if_neg J,beq_false_of_ne J,n3]
 by_cases L:k0.kind=7
 ·obtain ⟨p,b,hb⟩:=I8 (E5 A L (n:=2) rfl)
  obtain ⟨w1,i1,i2,i3,i4,i5⟩:=aDa M hb (A.kid (by grind)) (A.kid (by grind)) E sy B (fun j=>ly k (Tm.mk j.1 j.2.1 j.2.2.1 [] j.2.2.2.1 []) j.2.2.2.2 fun z=>I (z.1,z.2.1,z.2.2.1))
  rw [if_pos ⟨trivial,.inr (.inl L)⟩,if_pos L,L,show ((7:Int)==7)=true from rfl,ae]
  refine i2.trans ?_
  refine (Ry hk i3 _).trans ?_
  rw [(EC hb).1,(EC hb).2]
  rw [W] at i4 i5
  exact aAu i4 i5 I
 rw [if_neg L,beq_false_of_ne L,n3]
 by_cases q:k0.kind=11
 ·obtain ⟨p,l,r,hb⟩: ∃p l r,k0.kids=[p,l,r]:=by
   have:=E5 A q (n:=3) rfl
   match h:k0.kids,this with
   |[p,l,r],_=>simp
  obtain ⟨w1,i1,i2,i3,i4,i5⟩:=aC9 hk hb (A.kid (by grind)) (A.kid (by grind)) (A.kid (by grind)) E sy B (fun j=>ly k (Tm.mk j.1 j.2.1 j.2.2.1 [] j.2.2.2.1 []) j.2.2.2.2 fun z=>I (z.1,z.2.1,z.2.2.1))
  rw [if_pos ⟨trivial,.inr (.inr (.inl q))⟩,if_pos q,q,show ((11:Int)==11)=true from rfl,ae]
  refine i2.trans ?_
  refine (Ry hk i3 _).trans ?_
  rw [hb]
  rw [W] at i4 i5
  exact aAu i4 i5 I
 rw [if_neg q,beq_false_of_ne q,n3]
 by_cases h3:k0.kind=3
 ·grind
 rw [if_neg h3,beq_false_of_ne h3,n3]
 by_cases Y:k0.kind=16
 ·grind [ae,aIf,azI]
 ·rw [beq_false_of_ne Y,n3,if_neg (fun h=>by omega)];rfl
theorem aIm (E:F4 k) {t:Tm} (q:In k t) (I:Tm×Bool×Int->OS S):cG k t I=I (hcG t):=by
 have hk:=E.f3
 by_cases hc:bw t=0/\t.kind=15/\(t.kids.getD 0 noT).kind=3
 case neg=>
  have e:hcG t=ava t:=by
   grind [hcG,ava]
  rw [e]
  by_cases B:(t.kids.getD 0 noT).kind=3
  case neg=>grind [aIn]
  simp only [cG,ag hk.fu,ar,amv q.1 q.2.1 q.dep]
  unfold ava
  by_cases z:bw t=0
  case neg=>rw [dj z,aqD,ae,if_pos z];rfl
  rw [z,show (!((0:Int)==0))=false from rfl,n3,if_neg (by simp)]
  have j:t.kind≠15:=fun h=>hc ⟨z,h,B⟩
  rw [beq_false_of_ne j,aqD,ae,if_neg (fun h=>j h.1)];rfl
 obtain ⟨z,j,B⟩:=hc
 have ft:Fm t:=⟨q.1,z⟩
 have e:hcG t=atL (.mk 16 0 alH [] [t.kids.getD 1 noT] (ark (atS (t.kids.getD 1 noT)) 0 t.sys).1,(ark (atS (t.kids.getD 1 noT)) 0 t.sys).2):=by
  grind [hcG]
 rw [e]
 obtain ⟨k0,a,A⟩:=I8 (E5 ft j (n:=2) rfl)
 obtain ⟨g0,g1⟩:=KQ A
 obtain ⟨d0,d1⟩:=EC A
 rw [d0] at B
 rw [d1]
 have fa:Fm a:=ft.kid (by grind)
 obtain ⟨sy,J⟩:=ft.sy j
 simp only [cG,ag hk.fu,ar,amv q.1 q.2.1 q.dep,z,j,vU t q.1 _ q.2.1,g0,g1,sf,B]
 rw [show (!((0:Int)==0))=false from rfl,n3,show (!((15:Int)==15))=false from rfl,n3,show ((3:Int)==4)=false from rfl,n3,show ((3:Int)==7)=false from rfl,n3,show ((3:Int)==11)=false from rfl,n3,show ((3:Int)==3)=true from rfl,ae]
 obtain ⟨x1,x2,x3,x4,x5,x6⟩:=a
 simp only [pj x1 x2 x3 x4 x5 x6]
 rw [aIo hk fa sy J]
 dsimp only
 have M:=au7 (F:=atS (Tm.mk x1 x2 x3 x4 x5 x6)) (Q:=awZ) (l:=t.sys) (c:=0) fun x L c=>aDr fa ⟨(sy x L).2.1,(sy x L).2.2⟩ c
 have hl:(ark (atS (Tm.mk x1 x2 x3 x4 x5 x6)) 0 t.sys).1.length=t.sys.length:=aur
 obtain ⟨O,T,W⟩:=aAN M
 refine azT hk ?_ ?_ _
 ·rw [OkT,aZ,aZ]
  exact ⟨⟨by unfold aG;omega,by unfold aG;omega,by decide,(fun c hc=>by cases hc),by simp,by simp,by omega⟩,⟨fa.ok,trivial⟩,O⟩
 ·rw [am,aH,aH];have:=fa.dep;omega
def atn (defs:List Df) (t:Tm):Tm×Bool:=
 if t.kind=2 then (match defs.find? fun d=>decide (d.name=t.name) with
  |none=>(noT,false)
  |some d=>(d.body,anW d.body 0 0==0)) else (noT,false)
def asU (k:Nat) (defs:List Df):Prop:=defs.length<1073741824/\ ∀d∈defs,In k d.body
theorem aGZ (hk:F3 k) (I:Tm×Bool->OS S) {t:Tm} {defs:List Df} (hd:asU k defs):
  ∀ (r p:List Df) (m:Nat),defs=p++r->r.length<m->bM k I t defs m (p.length:Int)=I (match r.find? fun d=>decide (d.name=t.name) with
   |none=>(noT,false)
   |some d=>(d.body,anW d.body 0 0==0)):=by
 intro r
 induction r with
 |nil=>
  intro p m h j
  obtain ⟨m,rfl,q⟩:=amr j
  simp only [bM,cr,akb h,n3,List.find?_nil]
  rfl
 |cons x r J=>
  intro p m h j
  obtain ⟨m,rfl,q⟩:=amr j
  have hl:=hd.1
  obtain ⟨A,B,E,L⟩:=apy h (by omega)
  have z:=hd.2 x (by grind)
  simp only [bM,cr,A,ae,B,sf,ag hk.fu,ar,Jq,E]
  by_cases F:x.name=t.name
  ·rw [decide_eq_true F,ae,vU x.body z.1 _ z.2.1,nK z hk (by omega) (by omega),List.find?_cons_of_pos (by grind)]
  grind [n3]
theorem aII (hk:F3 k) {t:Tm} {defs:List Df} (hd:asU k defs) (I:Tm×Bool->OS S):cR k defs t I=I (atn defs t):=by
 have j:4294968296<=k:=hk
 simp only [cR,aAq]
 unfold atn
 by_cases h:t.kind=2
 ·rw [h,show (!((2:Int)==2))=false from rfl,n3,if_pos rfl]
  exact aGZ hk I hd defs [] k rfl (by have:=hd.1;omega)
 ·rw [beq_false_of_ne h,aqD,ae,if_neg h];rfl
def aux (r:Tm×Bool×Int) (s:Tm×Bool×Int):Tm×Bool×Int:=if r.2.1=true\/r.2.2≠0 then r else s
def nf (defs:List Df) (t:Tm):Tm×Bool×Int:=
 if bw t≠0 then (noT,false,bw t) else
 aux (avr t) (aux (pP t) (aux (trO t) (aux (hcG t) (if (atn defs t).2=true then ((atn defs t).1,true,0) else (noT,false,0)))))
theorem pick (I:Tm×Bool×Int->OS S) (r s:Tm×Bool×Int) {J N:OS S} (h:r.2.1=false->r.2.2=0->N=I s):
  ab r.2.1 (ab r.2.1 (I (r.1,r.2.1,r.2.2)) (ab (!(r.2.2==0)) (I (r.1,r.2.1,r.2.2)) J)) (ab (!(r.2.2==0)) (ab r.2.1 (I (r.1,r.2.1,r.2.2)) (ab (!(r.2.2==0)) (I (r.1,r.2.1,r.2.2)) J)) N)=I (aux r s):=by
 obtain ⟨x,b,e⟩:=r
 unfold aux
 dsimp only
 cases b<;>grind [ae,n3]
theorem aIA (F:F4 k) {t:Tm} {defs:List Df} (hd:asU k defs) (L:In k t) (I:Tm×Bool×Int->OS S):a_ k defs t I=I (nf defs t):=by
 have hk:=F.f3
 have O:4294968296<=k:=hk
 simp only [a_,aAp,ag hk.fu,ar,amv L.1 L.2.1 L.dep]
 unfold nf
 by_cases M:bw t=0
 case neg=>rw [dj M,aqD,ae,if_pos M];rfl
 rw [M,show (!((0:Int)==0))=false from rfl,n3,if_neg (by simp)]
 obtain ⟨m,T⟩: ∃m,k=m+5:=⟨k-5,by omega⟩
 have last: ∀q x z A B E,bH k I t defs (m+1) q x z A B E 0 4 false=I (if (atn defs t).2=true then ((atn defs t).1,true,0) else (noT,false,0)):=fun q x z A B E=>by
  simp only [bH,bu]
  rw [show decide ((4:Int)<4)=false from rfl,n3,n3,show (!((0:Int)==0))=false from rfl,n3]
  obtain ⟨j,hj⟩: ∃j,k=j+1:=⟨k-1,by omega⟩
  have:bK k I t defs k=co k I t defs:=by
   conv=>lhs;rw [hj]
   rw [hj];rfl
  rw [this]
  simp only [co,ag hk.fu,ar,aII hk hd]
  cases (atn defs t).2 with
  |true=>rfl
  |false=>rfl
 have rd: ∀ {n:Nat} {v:Int} (o s:Tm×Bool×Int),(∀q x z A B E,bH k I t defs n q x z A B E 0 (v+1) false=I s)->su .i64 (v+1)=v+1-> ∀J,ab o.2.1 (ab o.2.1 (I (o.1,o.2.1,o.2.2)) (ab (!(o.2.2==0)) (I (o.1,o.2.1,o.2.2)) J)) (ab (!(o.2.2==0)) (ab o.2.1 (I (o.1,o.2.1,o.2.2)) (ab (!(o.2.2==0)) (I (o.1,o.2.1,o.2.2)) J)) (bH k I t defs n o.1.kind o.1.n o.1.name o.1.r o.1.kids o.1.sys o.2.2 (su .i64 (v+1)) o.2.1))=I (aux o s):=fun {n v} o s h hw J=>
  pick I o s fun h1 h2=>by grind
 have W: ∀q x z A B E,bH k I t defs (m+2) q x z A B E 0 3 false=I _:=fun q x z A B E=>by
  rw [bH]
  simp only [bu,ag hk.fu,ar,aIm F L]
  rw [show decide ((3:Int)<4)=true from rfl,ae,show ((3:Int)==0)=false from rfl,n3,show ((3:Int)==1)=false from rfl,n3,show ((3:Int)==2)=false from rfl,n3,show ((3:Int)==3)=true from rfl,ae]
  exact rd (v:=3) (hcG t) _ last rfl _
 have Y: ∀q x z A B E,bH k I t defs (m+3) q x z A B E 0 2 false=I _:=fun q x z A B E=>by
  rw [bH]
  simp only [bu,ag hk.fu,ar,aIE F L]
  rw [show decide ((2:Int)<4)=true from rfl,ae,show ((2:Int)==0)=false from rfl,n3,show ((2:Int)==1)=false from rfl,n3,show ((2:Int)==2)=true from rfl,ae]
  exact rd (v:=2) (trO t) _ W rfl _
 have r1: ∀q x z A B E,bH k I t defs (m+4) q x z A B E 0 1 false=I _:=fun q x z A B E=>by
  rw [bH]
  simp only [bu,ag hk.fu,ar,ajh F L]
  rw [show decide ((1:Int)<4)=true from rfl,ae,show ((1:Int)==0)=false from rfl,n3,show ((1:Int)==1)=true from rfl,ae]
  exact rd (v:=1) (pP t) _ Y rfl _
 have e: ∀q x z A B E,bH k I t defs k q x z A B E 0 0 false=bH k I t defs (m+5) q x z A B E 0 0 false:=fun q x z A B E=>congrArg (fun n=>bH k I t defs n q x z A B E 0 0 false) T
 rw [e,bH]
 simp only [bu,ag hk.fu,ar,aH3 F L]
 rw [show decide ((0:Int)<4)=true from rfl,ae,show ((0:Int)==0)=true from rfl,ae]
 exact rd (v:=0) (avr t) _ r1 rfl _
end Go.Proofs.YtgmmefmmnakbpaaGreatDoor
namespace Go.Proofs.YtgmmefmmnakbpaaGreatDoor
open Go PI
def atR (t:Tm) (i:Nat) (u:Tm):Tm:= .mk t.kind t.n t.name t.r (t.kids.set i u) t.sys
def arp (t:Tm) (i:Nat):Tm:=t.kids.getD i noT
section
variable (st:Tm->Tm×Bool×Int) (pl:Tm->List Nat) (eF:Int)
mutual
noncomputable def sk:Nat->Nat->Tm->Except Int (Tm×Nat)
 |0,_,_=> .error 0
 |n+1,f,t=>
  if (st t).2.2≠0/\f≠0 then .error (st t).2.2
  else if (st t).2.1=false/\(st t).2.2=0 then hdP n f t (pl t)
  else if f=0 then .error eF else sk n (f-1) (st t).1
termination_by n=>(n,0)
noncomputable def hdP:Nat->Nat->Tm->List Nat->Except Int (Tm×Nat)
 |_,f,t,[]=> .ok (t,f)
 |n,f,t,i::l=>match sk n f (arp t i) with
  | .error e=> .error e
  | .ok (k,h)=>if @decide (k=arp t i) (Classical.propDecidable _) then hdP n h t l else sk n h (atR t i k)
termination_by n _ _ l=>(n,l.length+1)
end
end
variable {st:Tm->Tm×Bool×Int} {pl:Tm->List Nat} {eF:Int}
theorem aF6 (x:eF≠0) (j:Nat): ∀ (n:Nat),(∀f t,(∀a l,sk st pl eF n f t= .ok (a,l)->sk st pl eF n (f+j) t= .ok (a,l+j))/\ ∀e,sk st pl eF n f t= .error e->e≠0->e≠eF->sk st pl eF n (f+j) t= .error e)/\
  ∀ (l:List Nat) f t,(∀a r,hdP st pl eF n f t l= .ok (a,r)->hdP st pl eF n (f+j) t l= .ok (a,r+j))/\ ∀e,hdP st pl eF n f t l= .error e->e≠0->e≠eF->hdP st pl eF n (f+j) t l= .error e:=by
 intro n
 induction n with
 |zero=>
  have hA: ∀f t,sk st pl eF 0 f t= .error 0:=fun f t=>by rw [sk]
  refine ⟨fun f t=>⟨fun a l h=>(by grind),fun e h h1 _=>by grind⟩, ?_⟩
  intro l
  cases l<;>grind [hdP]
 |succ n q=>
  obtain ⟨z,A⟩:=q
  have hA: ∀f t,(∀a l,sk st pl eF (n+1) f t= .ok (a,l)->sk st pl eF (n+1) (f+j) t= .ok (a,l+j))/\ ∀e,sk st pl eF (n+1) f t= .error e->e≠0->e≠eF->sk st pl eF (n+1) (f+j) t= .error e:=by
   grind [sk]
  refine ⟨hA, ?_⟩
  intro l
  induction l<;>grind [hdP]
def Stable (st:Tm->Tm×Bool×Int) (pl:Tm->List Nat):Nat->Tm->Prop
 |0,_=>False
 |n+1,t=>(st t).2.1=false/\(st t).2.2=0/\ ∀i∈pl t,Stable st pl n (arp t i)
theorem Stable.mono {n m:Nat} (h:n<=m): ∀ {t:Tm},Stable st pl n t->Stable st pl m t:=by
 induction n generalizing m with
 |zero=>intro t h;exact h.elim
 |succ n x=>
  intro t q
  obtain ⟨m,rfl⟩: ∃j,m=j+1:=⟨m-1,by omega⟩
  exact ⟨q.1,q.2.1,fun i z=>x (by omega) (q.2.2 i z)⟩
set_option maxRecDepth 20000
variable {S:Type} {k:Nat}
def aui (defs:List Df) (t:Tm) (f:Int):Pan (Int×Int) (Tm×Bool×Int):=
 if (nf defs t).2.2≠0/\0<f then .pan ((nf defs t).2.2,f)
 else if (nf defs t).2.1=false/\(nf defs t).2.2=0 then .ok (t,false,f)
 else if f=0 then .pan (220,f) else .ok ((nf defs t).1,true,f-1)
theorem aIB (q:F4 k) {t:Tm} {defs:List Df} (hd:asU k defs) (z:In k t) {f:Int} (hf:0<=f/\f<=100000) (I:Pan (Int×Int) (Tm×Bool×Int)->OS S):
  axL k t defs f I=I (aui defs t f):=by
 have hk:=q.f3
 have A:4294968296<=k:=hk
 obtain ⟨j,hj⟩: ∃j,k=j+1:=⟨k-1,by omega⟩
 have h1: ∀r1,ayf k I defs f r1 k=awm k I defs f r1:=fun r1=>by
  conv=>lhs;rw [hj]
  rfl
 have B: ∀r1,azv k I defs f t r1 k=awl k I defs f t r1 (awm k I defs f r1):=fun r1=>by
  rw [<-h1]
  conv=>lhs;rw [hj]
  rw [hj];rfl
 have E:su .i64 (f-1)=f-1:=aaf (by omega) (by omega)
 simp only [axL,aAi,ag hk.fu,ar,aIA q hd z,B,awl,awm,E]
 unfold aui
 generalize nf defs t=r
 obtain ⟨x,b,e⟩:=r
 dsimp only
 by_cases he:e=0
 ·grind [n3,ae]
 ·rw [beq_false_of_ne he,aqD,ae]
  by_cases F:f=0
  ·subst F
   rw [show decide ((0:Int)>0)=false from rfl,n3,if_neg (fun h=>by omega),if_neg (fun h=>he h.2),if_pos rfl]
   cases b<;>grind [ae,n3]
  grind [ae]
def ayg (kd:Int):Int:=if kd=6\/kd=9\/kd=10\/kd=13\/kd=18\/kd=15\/kd=14 then 0 else if kd=22 then 3 else if kd=27 then 4 else-1
def as7 (t:Tm):Int:=if (t.kids.length:Int)<ct t.kind then-1 else ayg t.kind
theorem aIs (hk:F3 k) (t:Tm) (I:Int->OS S):aU k t I=I (as7 t):=by
 have F:4294968296<=k:=hk
 obtain ⟨j,hj⟩: ∃j,k=j+1:=⟨k-1,by omega⟩
 have J: ∀v,aV k I t k v=I (if (t.kids.length:Int)<ct t.kind then-1 else v):=fun v=>by
  grind [aV,bo,aiR,ag,ae,n3]
 simp only [aU,aAo,J]
 unfold as7 ayg
 by_cases L:t.kind=6
 ·rw [L];rfl
 by_cases M:t.kind=9
 ·rw [M];rfl
 by_cases h:t.kind=10
 ·rw [h];rfl
 by_cases q:t.kind=13
 ·rw [q];rfl
 by_cases x:t.kind=18
 ·rw [x];rfl
 by_cases z:t.kind=15
 ·rw [z];rfl
 by_cases A:t.kind=14
 ·rw [A];rfl
 by_cases B:t.kind=22
 ·rw [B];rfl
 by_cases E:t.kind=27
 ·rw [E];rfl
 grind [n3]

theorem ZT {n:Nat} {l:LB} (h:Bs' n l) {f:LC} (hf:aq f/\f.length<1073741824) {t:Tm} (j:Sm n t):Bs' n (⟨f,[t]⟩::l):=by
 refine ⟨?_, ?_, ?_⟩
 ·rw [ba,fc,aZ,aZ];exact ⟨⟨⟨hf.1,hf.2,by simp⟩,j.ok,trivial⟩,h.ok⟩
 ·rw [aI,fG,ay,ay,aq5,Nat.succ_mul]
  have:=h.siz;have:=j.siz;omega
 ·rw [aO,eB,aH,aH]
  have:=h.dep;have:=j.dep;omega
theorem acF {kd:Int} (q:kd=22\/kd=27) {b:Tm} {j:LT} (fb:Fm b) (fm: ∀y∈j,Fm y) (F:j.length<=3): ∀ {r l:LB},(∀b∈r,b.kids=[AK b]/\Fm (AK b)/\RX true b.face)->ama kd b j r= .ok l->Bs' 110000 l/\aO l<=299/\l.length=r.length/\l.map (·.face)=r.map (·.face):=by
 intro r
 induction r with
 |nil=>intro l _ h;rw [ama] at h;injection h with h;subst h;exact ⟨Dp _,by rw [aO];omega,rfl,rfl⟩
 |cons y r B=>
  intro l A h
  rw [ama] at h
  obtain ⟨ms,h1,h⟩:=i8 h
  obtain ⟨I,h2,h⟩:=i8 h
  injection h with h;subst h
  obtain ⟨i1,i2,i3,i4⟩:=B (fun b hb=>A b (by simp [hb])) h2
  obtain ⟨_,x,z⟩:=A y (by simp)
  obtain ⟨f1,f2⟩:=I_ fm h1
  obtain ⟨E,q2⟩:=pO q fb x f1 (by omega)
  refine ⟨ZT i1 (G9 z) (E.mono (by omega)), ?_,by simp [i3],by simp [i4]⟩
  rw [aO,eB,aH,aH];omega
structure ElimP (k:Nat) (t:Tm) (f b line:Tm) (l:LB) (y:Tm):Prop where
 so:alE [(adR t).kids.getD 0 noT,(adR t).kids.getD 1 noT,J4 (adR t).sys]=0
 fill:amg ((adR t).kids.getD 0 noT) ((adR t).kids.getD 1 noT) (adR t).sys= .ok f
 up:J6 0 1 (t.kids.getD 0 noT)= .ok b
 plug:ams 0 b f= .ok line
 brs:ama t.kind b (ac3 t) (adR t).sys= .ok l
 so2:alE [line,ig t.kind (t.kids.getD 0 noT) (ac3 t) ((adR t).kids.getD 1 noT),J4 l]=0
 comp:dF line (ig t.kind (t.kids.getD 0 noT) (ac3 t) ((adR t).kids.getD 1 noT)) l= .ok y
 fy:bw y=0
 ff:Fm f
 fb:Fm b
 fl:Fm line
 fa:Fm (ig t.kind (t.kids.getD 0 noT) (ac3 t) ((adR t).kids.getD 1 noT))
 fw:Fm (J4 l)
 bs:l.map (·.face)=(adR t).sys.map (·.face)
 yin:In k y
theorem KC (hk:F3 k) {t y:Tm} (ft:Fm t) (j:t.kind=22\/t.kind=27) (z:(adR t).kind=15) (h:amf t.kind (t.kids.getD 0 noT) (ac3 t) (adR t)= .ok y): ∃f b line l,ElimP k t f b line l y:=by
 unfold amf at h
 obtain ⟨f,h1,h⟩:=i8 h
 obtain ⟨b,h2,h⟩:=i8 h
 obtain ⟨line,J,h⟩:=i8 h
 obtain ⟨l,L,h⟩:=i8 h
 obtain ⟨so2,fy,hc⟩:=BI h
 obtain ⟨so,ff,A⟩:=BI h1
 have hlen:2<=t.kids.length/\t.kids.length<=5:=by
  have:=ft.nk
  rcases j with h|h<;>rw [h] at this
  ·have e:ct 22=4:=rfl
   omega
  ·have e:ct 27=5:=rfl
   omega
 obtain ⟨gl,O⟩:=nw hlen.1
 have fx:=ft.kid O
 obtain ⟨u,a,q⟩:=I8 (E5 fx z (n:=2) rfl)
 obtain ⟨B,x⟩:=EC q
 have fu:Fm u:=fx.kid (by rw [q];simp)
 have fa:Fm a:=fx.kid (by rw [q];simp)
 obtain ⟨sy,T⟩:=fx.sy z
 have fp:Fm (t.kids.getD 0 noT):=ft.kid (by
  match h:t.kids,hlen.1 with
  |a::l,_=>simp)
 have I:=Jc hk fx
 have fm: ∀y∈ac3 t,Fm y:=fun y W=>ft.kid (ayh W)
 have E:(ac3 t).length<=3:=by unfold ac3;rw [List.length_drop,List.length_take];omega
 have M:Fm f:=⟨(ux hk (B▸fu) (x▸fa) (iQ (wg (B▸fu).ok (x▸fa).ok I.1 so).2.2) A).1.1,ff⟩
 have fb:=mD (by omega) fp h2
 have fl:=ayn (by omega) fb M J
 obtain ⟨Y,b2,b3,b4⟩:=acF j fb fm E sy L
 have F:=Jb hk (by omega) Y (by omega) b2
 obtain ⟨q1,q2⟩:=pO j fp (a:=(adR t).kids.getD 1 noT) (x▸fa) fm E
 obtain ⟨f1,f2,f3⟩:=wg fl.ok q1.ok F.1 so2
 exact ⟨f,b,line,l,so,A,h2,J,L,so2,hc,fy,M,fb,fl,f2,f3,b4,(yu hk f1 f2 (iQ f3) hc).1⟩
theorem acE (hk:F3 k) {t:Tm} (j:In k t):In k (pP t).1:=by
 unfold pP
 by_cases h:bw t=0
 case neg=>rw [if_pos h];exact gQ hk
 rw [if_neg (by simp [h])]
 have ft:Fm t:=⟨j.1,h⟩
 split
 case isTrue hc=>
  cases q:amf t.kind (t.kids.getD 0 noT) (ac3 t) (adR t) with
  |error e=>exact gQ hk
  |ok y=>
   obtain ⟨f,b,line,l,hp⟩:=KC hk ft hc.1 hc.2 q
   show In k (if bw y=0 then (y,true,(0:Int)) else (noT,false,bw y)).1
   split
   ·exact hp.yin
   ·exact gQ hk
 case isFalse hc=>exact gQ hk
end Go.Proofs.YtgmmefmmnakbpaaGreatDoor
namespace Go.Proofs.YtgmmefmmnakbpaaGreatDoor
open Go PI
set_option maxRecDepth 20000
section
variable {n kd:Int} {u:Tm}
end
section
variable {f g:Int->LC->Except Int (LC)} {kd:Int}
end

variable {S:Type} {k:Nat}


section
variable {hd:Tm->(Int->OS S)->OS S} {t:Tm}
end
theorem ao6 {kd D E:Int} (h:D<=E): ∀ {l:LB},ba l->l.all (bX kd D)=true->l.all (bX kd E)=true:=by
 intro l
 induction l with
 |nil=>intro _ _;rfl
 |cons b l j=>
  intro ho hb
  obtain ⟨f,q⟩:=b
  rw [ba,fc] at ho
  rw [List.all_cons,anZ] at hb ⊢
  refine ⟨?_,j ho.2 hb.2⟩
  have h1:=hb.1
  unfold bX at h1 ⊢
  simp only [anZ,decide_eq_true_eq] at h1 ⊢
  exact ⟨h1.1,h1.2.1,aov ((oB ho.1.1.1).1 h1.2.1).1 h1.2.2 h⟩
theorem aqc (t:Tm):OkT t-> ∀ {V D E:Int},aqp false V D t=true->D<=E->aqp false (-1) E t=true:=by
 induction t using gq with
 |h kd n O r T sys F I=>
  intro z V D E h q
  rw [OkT] at z
  obtain ⟨W,Y,o3,L,o5,o6,o7⟩:=z.1
  have hk: ∀ {l:LT} {i:Nat},(∀x∈l,OkT x-> ∀ {V D E:Int},aqp false V D x=true->D<=E->aqp false (-1) E x=true)->aZ l->bO false V D kd i l=true->bO false (-1) E kd i l=true:=by
   intro l
   induction l with
   |nil=>intro i _ _ _;rw [bO]
   |cons t l A=>
    intro i h hl ha
    rw [aZ] at hl
    rw [bO,anZ] at ha ⊢
    rw [B2]
    exact ⟨h t (by simp) hl.1 ha.1 (by omega),A (fun x J=>h x (by simp [J])) hl.2 ha.2⟩
  have M: ∀ {l:LT},(∀x∈l,OkT x-> ∀ {V D E:Int},aqp false V D x=true->D<=E->aqp false (-1) E x=true)->aZ l->ca false V D kd l=true->ca false (-1) E kd l=true:=by
   intro l
   induction l with
   |nil=>intro _ _ _;rw [ca]
   |cons t l A=>
    intro h hl ha
    rw [aZ] at hl
    rw [ca,anZ] at ha ⊢
    exact ⟨h t (by simp) hl.1 ha.1 (by omega),A (fun x J=>h x (by simp [J])) hl.2 ha.2⟩
  have hs: ∀ {l:LB},(∀b∈l,∀x∈b.kids,OkT x-> ∀ {V D E:Int},aqp false V D x=true->D<=E->aqp false (-1) E x=true)->ba l->ck false V D kd l=true->ck false (-1) E kd l=true:=by
   intro l
   induction l with
   |nil=>intro _ _ _;rw [ck]
   |cons b l A=>
    intro h hl ha
    obtain ⟨f,B⟩:=b
    rw [ba,fc] at hl
    rw [ck,jT,anZ] at ha ⊢
    exact ⟨M (l:=B) (h ⟨f,B⟩ (by simp)) hl.1.2 ha.1,A (fun b hb=>h b (by simp [hb])) hl.2 ha.2⟩
  rw [aqp,anZ,anZ,anZ] at h ⊢
  refine ⟨rfl, ?_,hk F z.2.1 h.2.2.1,hs I z.2.2 h.2.2.2⟩
  have h2:=h.2.1
  unfold cL at h2 ⊢
  simp only [anZ] at h2 ⊢
  refine ⟨h2.1, ?_⟩
  have j:=h2.2
  split
  ·rename_i c
   rw [if_pos c] at j
   simp only [anZ,decide_eq_true_eq] at j ⊢
   exact ⟨j.1,j.2.1,.inl (by omega)⟩
  ·rename_i c
   rw [if_neg c] at j
   split
   ·rename_i c
    rw [if_pos c] at j;exact j
   ·rename_i c
    rw [if_neg c] at j
    split
    ·rename_i c
     rw [if_pos c,anZ] at j
     rw [anZ]
     exact ⟨j.1,aov ((atQ L).1 j.1) j.2 q⟩
    ·rename_i c
     rw [if_neg c] at j
     split
     ·rename_i c
      rw [if_pos c,anZ] at j
      rw [anZ]
      exact ⟨j.1,aov ((oB L).1 j.1).1 j.2 q⟩
     ·rename_i c
      rw [if_neg c,anZ] at j
      rw [anZ]
      exact ⟨ao6 q z.2.2 j.1,j.2⟩
theorem apu {t:Tm} (h:In k t) {V D:Int} (j:anW t V D=0):Fm t:=by
 have q:=j
 unfold anW at j
 split at j
 ·cases j
 split at j
 ·cases j
 split at j
 ·cases j
 obtain ⟨_,_,hs⟩:=aoN q
 exact ⟨h.1,pS (by omega) (by omega) (aqc t h.1 (aoD t hs) (aoS hs))⟩
structure MayR (k:Nat) (x t:Tm) (V D:Int) (r:Tm×Bool×Int):Prop where
 ins:In k r.1
 no:r.2.1=false->r.1=noT
 ok:r.2.1=true->r.2.2=0/\anW r.1 V D=0/\r.1.kind=x.kind/\(x.kind=15->r.1.sys.map (·.face)=x.sys.map (·.face))
def asO (r:Tm×Bool×Int):Prop:=r.2.1=true->bw r.1=0/\r.2.2=0
theorem asL (e:Int):asO (noT,false,e):=fun h=>by cases h
theorem aAR (q:Tm×Int):(∃e,atL q=(noT,false,e))\/q.2=0/\bw q.1=0/\atL q=(q.1,true,0):=by
 grind [atL,dM]
theorem avo (q:Tm×Int):asO (atL q):=by
 rcases aAR q with ⟨e,he⟩|⟨_,h,he⟩
 ·rw [he];exact asL e
 ·rw [he];exact fun _=>⟨h,rfl⟩
theorem aAt (x:Except Int Tm):asO (ar_ x):=by
 cases x with
 |error e=>exact asL e
 |ok t=>
  by_cases h:bw t=0
  ·rw [show ar_ (.ok t)=(t,true,0) from if_pos h];exact fun _=>⟨h,rfl⟩
  grind [ar_,asL]
theorem asa {c:Prop} [Decidable c] {a b:Tm×Bool×Int} (ha:asO a) (hb:asO b):asO (if c then a else b):=by
 grind
theorem ayN {r s:Tm×Bool×Int} (h:asO r) (hs:asO s):asO (aux r s):=asa h hs
theorem aI5 (t:Tm):asO (awA t):=asa (asL _) (asa (avo _) (asL _))
theorem aI3 (t:Tm):asO (h_ t):=asa (asL _) (asa (aAt _) (asL _))
theorem aI4 (t:Tm):asO (pP t):=asa (asL _) (asa (aAt _) (asL _))
theorem aI7 (t:Tm):asO (trO t):=asa (asL _) (asa (asL _) (asa (avo _) (asa (avo _) (asa (avo _) (asa (avo _) (asa (aI3 t) (asa (aI5 t) (asL _))))))))
theorem aI2 (t:Tm):asO (avr t):=asa (asL _) (asa (avo _) (asL _))
theorem aI6 (t:Tm):asO (hcG t):=asa (asL _) (asa (avo _) (asa (asL _) (asa (aAt _) (asL _))))
theorem aI8 {defs:List Df} (hd:asU k defs) (t:Tm):asO (if (atn defs t).2=true then ((atn defs t).1,true,0) else (noT,false,0)):=by
 by_cases h:(atn defs t).2=true
 ·rw [if_pos h]
  refine fun _=>⟨?_,rfl⟩
  unfold atn at h ⊢
  by_cases h2:t.kind=2
  ·rw [if_pos h2] at h ⊢
   cases hf:defs.find? fun d=>decide (d.name=t.name) with
   |none=>grind
   |some d=>
    rw [hf] at h
    have h:(anW d.body 0 0==0)=true:=h
    exact (apu (hd.2 d (List.mem_of_find?_eq_some hf)) (by simpa using h)).2
  grind
 grind [asL]
theorem aDp {defs:List Df} (hd:asU k defs) (t:Tm):asO (nf defs t):=asa (asL _) (ayN (aI2 t) (ayN (aI4 t) (ayN (aI7 t) (ayN (aI6 t) (aI8 hd t)))))
theorem aE5 {kd D:Int} {f:LC} {ks:LT} (h:(ks.length:Int)=cz kd) (h1:cV f=true) (h2:dg f D=true):bX kd D ⟨f,ks⟩=true:=by
 show (decide ((ks.length:Int)=cz kd)&&(cV f&&dg f D))=true
 grind
section
variable {V D:Int} {a y k0:Tm} {sys:LB}
end
section
variable {V D:Int} {a y:Tm} {sys:LB}
end
theorem aDu {V D kd:Int}: ∀ {l:LB},(∀y∈l,bX kd D y=true/\ca false V D kd y.kids=true)->l.all (bX kd D)=true/\ck false V D kd l=true:=by
 intro l
 induction l with
 |nil=>grind [ck]
 |cons x l j=>
  intro h
  obtain ⟨z,q2⟩:=h x (by simp)
  obtain ⟨i1,i2⟩:=j fun y q=>h y (by simp [q])
  obtain ⟨f,A⟩:=x
  grind [ck,jT]
theorem wM1 {V D kd:Int} {t:Tm}:ca false V D kd [t]=true↔Wk0 V (D+av kd) t:=by grind [ca]
theorem aJi {V D kd:Int} {a b:LB} (ha:a.all (bX kd D)=true/\ck false V D kd a=true) (hb:b.all (bX kd D)=true/\ck false V D kd b=true):(a++b).all (bX kd D)=true/\ck false V D kd (a++b)=true:=by
 grind [wH]
def Wb (n V D:Int) (t:Tm):Prop:=Wk0 V D t/\bdT t<=n
theorem Wb.mono {n m V D:Int} {t:Tm} (h:Wb n V D t) (hn:n<=m):Wb m V D t:=⟨h.1,by have:=h.2;omega⟩
def WB (n kd V D:Int) (l:LB):Prop:=(l.all (bX kd D)=true/\ck false V D kd l=true)/\ ∀b∈l,∀x∈b.kids,bdT x<=n
theorem WB.app {n kd V D:Int} {a b:LB} (ha:WB n kd V D a) (hb:WB n kd V D b):WB n kd V D (a++b):=
 ⟨aJi ha.1 hb.1,fun y h=>(atc.1 h).elim (ha.2 y) (hb.2 y)⟩
theorem WB.nil {n kd V D:Int}:WB n kd V D []:=⟨aDu (fun y h=>by cases h),fun y h=>by cases h⟩
theorem WB.of {n kd V D:Int} (hp:cz kd=1) {l:LB} (h: ∀b∈l,∃z,b.kids=[z]/\cV b.face=true/\dg b.face D=true/\Wb n V (D+av kd) z):WB n kd V D l:=by
 refine ⟨aDu fun b hb=> ?_,fun b hb x A=> ?_⟩
 ·obtain ⟨z,j,q2,B,q⟩:=h b hb
  obtain ⟨f,E⟩:=b
  have j:E=[z]:=j
  subst j
  exact ⟨aE5 (by grind) q2 B,wM1.2 q.1⟩
 ·obtain ⟨z,j,q2,B,q⟩:=h b hb
  rw [j,List.mem_singleton] at A
  subst A;exact q.2
section
variable {phi:LC} {V D n:Int}
end
section
variable {phi:LC} {V D n:Int}
end


section
variable {t g b a:Tm}
theorem aF_ (q:Fm g) (z:g.kind=16): ∀ {l l':LB},(∀b∈l,b.kids=[AK b]/\Fm (AK b)/\RX true b.face)->in1 (eh g) l= .ok l'->BrP 50000 l'/\l'.length=l.length:=by
 intro l
 induction l with
 |nil=>grind [in1,atK]
 |cons x l A=>
  intro l' j h
  rw [in1] at h
  obtain ⟨u,g1,h⟩:=i8 h
  obtain ⟨m,g2,h⟩:=i8 h
  injection h with h;subst h
  obtain ⟨i1,i2⟩:=A (fun b hb=>j b (by simp [hb])) g2
  obtain ⟨B,q2,E⟩:=j x (by simp)
  have:=azZ (u:=u) (.inl (mD (by omega) (azf q z) g1)) q2
  grind [atT,G9]
theorem aGb (hk:F3 k) (ft:Fm t) (fb:Fm b): ∀ {l l':LB},(∀b∈l,b.kids=[AK b,k1 b]/\Fm (AK b)/\Fm (k1 b)/\RX true b.face)->in2 b t.sys l= .ok l'->BrP 500000 l'/\l'.length=l.length:=by
 intro l
 induction l with
 |nil=>grind [in2,atK]
 |cons x l B=>
  intro l' j h
  rw [in2] at h
  obtain ⟨f,g1,h⟩:=i8 h
  obtain ⟨w,g2,h⟩:=i8 h
  obtain ⟨m,g3,h⟩:=i8 h
  injection h with h;subst h
  obtain ⟨i1,i2⟩:=B (fun b hb=>j b (by simp [hb])) g3
  obtain ⟨L,q2,E,F⟩:=j x (by simp)
  have ff:=mD (by omega) E g1
  obtain ⟨so,q,z⟩:=BI g2
  have A:=Jc hk ft
  have fw:Fm w:=⟨(ux hk q2 fb (iQ (wg q2.ok fb.ok A.1 so).2.2) z).1.1,q⟩
  have I:=at6 (kd:=9) (by omega) (n:=20000) (ks:=[f]) (fun x j=>by simp at j;subst j;exact ⟨ff.sm,by have:=ff.dep;omega⟩) (by simp)
  have J:=at6 (kd:=6) (by omega) (n:=80001) (ks:=[dS 9 [f],w]) (fun x j=>by
   simp at j
   rcases j with rfl|rfl
   ·refine ⟨I.1, ?_⟩
    unfold dS;rw [am,aH,aH,aO];have:=ff.dep;omega
   ·exact ⟨fw.sm.mono (by omega),by have:=fw.dep;omega⟩) (by simp)
  exact ⟨atT (G9 F) (J.1.mono (by omega)) (by omega) i1,by grind⟩
end
theorem aG5 (hk:F3 k) {t y:Tm} (ft:Fm t) (q:t.kind=15) (j:(t.kids.getD 0 noT).kind=16) (h:awQ t= .ok y):In k y/\y.kind=17:=by
 obtain ⟨g,b,x⟩:=I8 (E5 ft q (n:=2) rfl)
 obtain ⟨d0,d1⟩:=EC x
 have z:Fm g:=ft.kid (by grind)
 have fb:Fm b:=ft.kid (by grind)
 obtain ⟨sy,A⟩:=ft.sy q
 rw [d0] at j
 obtain ⟨B,hl,a,E,fa⟩:=z.gl j
 unfold awQ at h
 rw [d0,d1] at h
 obtain ⟨M,F,h⟩:=i8 h
 obtain ⟨O,I,h⟩:=i8 h
 injection h with h;subst h
 obtain ⟨J,T⟩:=aF_ z j sy F
 obtain ⟨L,W⟩:=aGb hk ft fb B I
 exact ⟨aCw hk ft z j (by grind) fa fb J (by omega) L (by omega),rfl⟩
set_option maxRecDepth 100000

set_option maxRecDepth 20000
section
variable {hd:Tm->(Int->OS S)->OS S} {t:Tm}
end
set_option maxRecDepth 100000
theorem aFZ (hk:F3 k) {phi:LC} {g a:Tm} (I:Fm g) (J:g.kind=16) (fa:Fm a) (hp:RX true phi):OkT (awz phi g a).1:=by
 obtain ⟨z,sB,lB⟩:=aAK hk I J fa hp
 unfold awz
 dsimp only
 generalize auY g phi a=B at z sB lB ⊢
 obtain ⟨st,a1,c0⟩:=B
 dsimp only at z sB lB ⊢
 have L:GN (mM c0 (an8 0 [⟨0,0⟩] g)).1:=ayc I J Qz (aBA (by decide))
 generalize mM c0 (an8 0 [⟨0,0⟩] g)=G at L ⊢
 obtain ⟨f1,A,lG,_⟩:=aBc L
 have x:=aDv (phi:=phi) (st:=st) (a1:=a1) (t1:=asR G.1.kids) (c:=G.2) hk fa z f1 hp sB lB A
 have E:(ark (wsF phi a a1 (asR G.1.kids) st) G.2 G.1.sys).1.length=G.1.sys.length:=aur
 generalize ark (wsF phi a a1 (asR G.1.kids) st) G.2 G.1.sys=ws at x E ⊢
 have M: ∀c,FN (mM c (wA 0 1 a1)).1:=fun c=>asl (by omega) (by omega) z.sm.1.ok
 obtain ⟨O,T⟩:=awX (F:=fun c=>mM c (wA 0 1 a1)) hp (n:=20000) (fun c=>⟨(M c).sm.1,by have:=(M c).sm.2;omega⟩) ws.2
 generalize asb phi (fun c=>mM c (wA 0 1 a1)) ws.2=W at O T ⊢
 have h: ∀q∈G.1.sys.zip ws.1,q.1∈G.1.sys/\q.2∈ws.1:=fun q j=>⟨(List.of_mem_zip j).1,(List.of_mem_zip j).2⟩
 generalize Y:ark (auc a1) W.2 (G.1.sys.zip ws.1)=Z
 have zq: ∀y∈Z.1,∃t,y.kids=[t]/\OkT t/\am t<=299/\aq y.face/\y.face.length<1073741824:=by
  rw [<-Y]
  exact au7 fun q j c=>aA7 z.sm.1.ok (x q.2 (h q j).2).1.ok (A q.1 (h q j).1).2.2.1.ok (G9 (A q.1 (h q j).1).2.2.2) c
 have zl:Z.1.length=(G.1.sys.zip ws.1).length:=by grind [aur]
 have pq: ∀y∈(G.1.sys.zip ws.1).map awT,∃t,y.kids=[t]/\OkT t/\am t<=301/\aq y.face/\y.face.length<1073741824:=fun y hy=>by
  obtain ⟨q,j,rfl⟩:=arR.1 hy
  obtain ⟨h1,h2⟩:=x q.2 (h q j).2
  have r:=G9 (A q.1 (h q j).1).2.2.2
  refine ⟨_,rfl, ?_, ?_,r.1,r.2⟩
  ·unfold dS;rw [OkT,aZ,aZ,ba];exact ⟨⟨by unfold aG;omega,by unfold aG;omega,by decide,(fun c hc=>by cases hc),by simp,by simp,by simp⟩,⟨h1.ok,trivial⟩,trivial⟩
  grind [dS,am,aH,aO]
 obtain ⟨o1,o2⟩:=ayJ (l:=W.1++Z.1) (n:=299) fun y hy=>by
  rcases atc.1 hy with hy|hy
  ·obtain ⟨t,q1,q2,q3,q4,q5⟩:=O y hy;exact ⟨t,q1,q2.ok,q3,q4,q5⟩
  grind
 obtain ⟨o3,o4⟩:=ayJ pq
 have ad:(G.1.sys.zip ws.1).length<=10000:=by grind
 rw [OkT,aZ,aZ,OkT,aZ,aZ,aZ]
 exact ⟨⟨by unfold aG;omega,by unfold aG;omega,by decide,(fun c hc=>by cases hc),by simp,by simp,by grind⟩,⟨⟨⟨by unfold aG;omega,by unfold aG;omega,by decide,(fun c hc=>by cases hc),by simp,by simp,by grind⟩,⟨f1.sm.1.ok,z.sm.1.ok,trivial⟩,o1⟩,trivial⟩,o3⟩
set_option maxRecDepth 20000
theorem as0:OkT noT:=q2_no.1.ok
theorem avh {q:Tm×Int} (h:OkT q.1):OkT (atL q).1:=by
 grind [aAR,as0]
theorem aG7 {x:Except Int Tm} (h: ∀y,x= .ok y->OkT y):OkT (ar_ x).1:=by
 cases x<;>grind [as0,ar_]
theorem asK {c:Prop} [Decidable c] {a b:Tm×Bool×Int} (ha:c->OkT a.1) (hb: ¬c->OkT b.1):OkT (if c then a else b).1:=by
 grind
theorem f4_min:F4 4294970296:=by simp
theorem aI9 {t:Tm} (ft:Fm t):OkT (trO t).1:=by
 have j:=f4_min
 have hk:=j.f3
 unfold trO
 refine asK (fun _=>as0) fun _=>asK (fun _=>as0) fun h=> ?_
 have h:t.kind=14:=Decidable.not_not.1 h
 obtain ⟨l,a,B⟩:=I8 (E5 ft h (n:=2) rfl)
 obtain ⟨x,z⟩:=EC B
 have fl:Fm l:=ft.kid (by grind)
 have fa:Fm a:=ft.kid (by grind)
 have hp:=ft.r14 h
 dsimp only
 rw [x,z]
 refine asK (fun _=>avh fa.ok) fun _=>asK (fun O=>avh ?_) fun _=>asK (fun T=>avh ?_) fun _=>asK (fun E=>avh ?_) fun _=>asK (fun _=>(apb hk (ft.isIn hk)).1) fun _=>asK (fun F=> ?_) fun _=>as0
 ·obtain ⟨k0,I,hb⟩:=I8 (E5 fl O (n:=2) rfl)
  obtain ⟨J,L⟩:=EC hb
  rw [J,L]
  obtain ⟨x1,x2,x3,x4,x5,x6⟩:=a
  obtain ⟨M,c,_,q2,A⟩:=aDg (S:=Unit) (phi:=t.r) j hb (fl.kid (by grind)) (fl.kid (by grind)) fa hp (fun _=>none)
  rw [<-q2];exact A.1
 ·obtain ⟨k0,I,hb⟩:=I8 (E5 fl T (n:=2) rfl)
  obtain ⟨J,L⟩:=EC hb
  rw [J,L]
  obtain ⟨x1,x2,x3,x4,x5,x6⟩:=a
  obtain ⟨M,c,_,q2,A⟩:=aDi (S:=Unit) (phi:=t.r) j hb (fl.kid (by grind)) (fl.kid (by grind)) fa hp (fun _=>none)
  rw [<-q2];exact A.1
 ·obtain ⟨k0,W,Y,hb⟩:=azt (E5 fl E (n:=3) rfl)
  rw [show l.kids.getD 0 noT=k0 by grind,show l.kids.getD 1 noT=W by grind,show l.kids.getD 2 noT=Y by grind]
  obtain ⟨x1,x2,x3,x4,x5,x6⟩:=a
  obtain ⟨M,c,_,q2,A⟩:=aDf (S:=Unit) (phi:=t.r) hk hb (fl.kid (by grind)) (fl.kid (by grind)) (fl.kid (by grind)) fa hp (fun _=>none)
  rw [<-q2];exact A.1
 ·unfold awA
  refine asK (fun _=>as0) fun _=>asK (fun _=> ?_) fun _=>as0
  rw [x,z]
  exact avh (q:=awz t.r l a) (aFZ hk fl F fa hp)
theorem aE1 {t:Tm} (ft:Fm t):OkT (avr t).1:=asK (fun _=>as0) fun _=>asK (fun _=>avh (aAJ ft).1) fun _=>as0
theorem aF3 {t:Tm} (ft:Fm t):OkT (hcG t).1:=by
 have I:=f4_min
 have hk:=I.f3
 unfold hcG
 refine asK (fun _=>as0) fun h0=>asK (fun h=> ?_) fun hn=> ?_
 ·obtain ⟨k0,a,A⟩:=I8 (E5 ft h.1 (n:=2) rfl)
  obtain ⟨d0,d1⟩:=EC A
  have fa:Fm a:=ft.kid (by grind)
  obtain ⟨sy,q⟩:=ft.sy h.1
  rw [d1]
  have W:=au7 (F:=atS a) (Q:=awZ) (l:=t.sys) (c:=0) fun x O c=>aDr fa ⟨(sy x O).2.1,(sy x O).2.2⟩ c
  have hl:(ark (atS a) 0 t.sys).1.length=t.sys.length:=aur
  obtain ⟨Y,b2,b3⟩:=aAN W
  refine avh ?_
  show OkT (.mk 16 0 alH [] [a] (ark (atS a) 0 t.sys).1)
  rw [OkT,aZ,aZ]
  exact ⟨⟨by unfold aG;omega,by unfold aG;omega,by decide,(fun c hc=>by cases hc),by simp,by simp,by omega⟩,⟨fa.ok,trivial⟩,Y⟩
 ·unfold ava
  refine asK (fun _=>as0) fun _=>asK (fun hc=>aG7 fun y j=> ?_) fun _=>as0
  obtain ⟨B,J⟩:=hc
  obtain ⟨k0,a,A⟩:=I8 (E5 ft B (n:=2) rfl)
  obtain ⟨d0,d1⟩:=EC A
  have z:Fm k0:=ft.kid (by grind)
  have fa:Fm a:=ft.kid (by grind)
  obtain ⟨sy,q⟩:=ft.sy B
  rw [d0] at J
  unfold azm at j
  rw [d0,d1] at j
  dsimp only at j
  by_cases L:k0.kind=4
  ·rw [if_pos L] at j
   obtain ⟨p,b,hb⟩:=I8 (E5 z L (n:=2) rfl)
   rw [(EC hb).2] at j
   obtain ⟨x1,x2,x3,x4,x5,x6⟩:=a
   obtain ⟨T,i1,_,i3,i4,_⟩:=aC_ (S:=Unit) hk hb (z.kid (by grind)) fa sy q (fun _=>none)
   rw [<-(i4 y j).1];exact i3.1
  rw [if_neg L] at j
  by_cases M:k0.kind=7
  ·rw [if_pos M] at j
   obtain ⟨p,b,hb⟩:=I8 (E5 z M (n:=2) rfl)
   rw [(EC hb).1,(EC hb).2] at j
   obtain ⟨x1,x2,x3,x4,x5,x6⟩:=a
   obtain ⟨T,i1,_,i3,i4,_⟩:=aDa (S:=Unit) I hb (z.kid (by grind)) (z.kid (by grind)) fa sy q (fun _=>none)
   rw [<-(i4 y j).1];exact i3.1
  rw [if_neg M] at j
  by_cases E:k0.kind=11
  ·rw [if_pos E] at j
   obtain ⟨p,l,r,hb⟩:=azt (E5 z E (n:=3) rfl)
   rw [hb] at j
   obtain ⟨x1,x2,x3,x4,x5,x6⟩:=a
   obtain ⟨T,i1,_,i3,i4,_⟩:=aC9 (S:=Unit) hk hb (z.kid (by grind)) (z.kid (by grind)) (z.kid (by grind)) fa sy q (fun _=>none)
   rw [<-(i4 y j).1];exact i3.1
  rw [if_neg E] at j
  by_cases h3:k0.kind=3
  ·grind
  rw [if_neg h3] at j
  exact (aG5 hk ft B (by grind) j).1.1
theorem aJb {defs:List Df} (hd:asU k defs) (t:Tm):OkT (if (atn defs t).2=true then ((atn defs t).1,true,(0:Int)) else (noT,false,0)).1:=by
 refine asK (fun h=> ?_) fun _=>as0
 unfold atn at h ⊢
 by_cases h2:t.kind=2
 ·rw [if_pos h2] at h ⊢
  cases hf:defs.find? fun d=>decide (d.name=t.name) with
  |none=>grind
  |some d=>exact (hd.2 d (List.mem_of_find?_eq_some hf)).1
 grind
theorem ayi {r s:Tm×Bool×Int} (h:OkT r.1) (hs:OkT s.1):OkT (aux r s).1:=asK (fun _=>h) fun _=>hs
theorem aIS {defs:List Df} (hd:asU k defs) {t:Tm} (h:OkT t):OkT (nf defs t).1:=by
 unfold nf
 refine asK (fun _=>as0) fun j=> ?_
 have ft:Fm t:=⟨h,Decidable.not_not.1 j⟩
 exact ayi (aE1 ft) (ayi (acE f4_min.f3 (ft.isIn f4_min.f3)).1 (ayi (aI9 ft) (ayi (aF3 ft) (aJb hd t))))
theorem az0 {defs:List Df} (hd:asU k defs) {t:Tm} (j:OkT t) (h:(nf defs t).2.1=true):Fm (nf defs t).1/\(nf defs t).2.2=0:=
 ⟨⟨aIS hd j,(aDp hd t h).1⟩,(aDp hd t h).2⟩
noncomputable def oS {α:Type} (a b:α):Bool:= @decide (a=b) (Classical.propDecidable _)
theorem atB {α:Type} {a b:α} (h:a=b):oS a b=true:=by grind [oS]
theorem asj {α:Type} {a b:α} (h:a≠b):oS a b=false:=by grind [oS]
section
variable {hd:arT S}
theorem aGO (I:Bool->OS S) {l j:LT} (B: ∀y∈l,∀u g,hd y u g=g (oS y u)) (hl:l.length<4294967296):
  ∀ (r s p q:LT) (m:Nat),l=p++r->j=q++s->p.length=q.length->r.length=s.length->r.length<m->av3 hd k I j l m (p.length:Int)=I (oS r s):=by
 intro r
 induction r with
 |nil=>
  grind [amr,av3,axi,n3,atB]
 |cons x r E=>
  intro s p q m h h2 hp hs F
  obtain ⟨m,rfl,z⟩:=amr F
  obtain ⟨J,L,M,O⟩:=apy h (by omega)
  cases s with
  |nil=>simp at hs
  |cons y s=>
  have g2:af j (p.length:Int)=some y:=by rw [h2,hp];exact ED (n:=q.length) rfl (by simp)
  simp only [av3,axi,J,ae,L,g2,sf,ar,B x (by grind),M]
  by_cases A:x=y
  ·subst A
   rw [atB rfl,aq6,n3,E s (p++[x]) (q++[x]) m O (by grind) (by simp [hp]) (by grind) z]
   by_cases T:r=s<;>grind [atB,asj,List.cons.inj]
  grind [asj,ae,List.cons.inj]
theorem aC8 (hk:4294967296<=k) (I:Bool->OS S) {l:LT} (j:LT) (x: ∀y∈l,∀u g,hd y u g=g (oS y u)) (hl:l.length<4294967296):awv hd k l j I=I (oS l j):=by
 simp only [awv,aAm]
 by_cases h:l.length=j.length
 ·rw [h,beq_self_eq_true,aq6,n3]
  exact aGO I x hl l j [] [] k rfl rfl rfl h (by omega)
 ·rw [beq_false_of_ne (by omega),aqD,ae,asj (fun q=>h (congrArg List.length q))]
theorem aGP (hk:4294967296+1<=k) (I:Bool->OS S) {l A:LB} (J: ∀b∈l,∀y∈b.kids,∀u g,hd y u g=g (oS y u)) (hb: ∀b∈l,b.kids.length<4294967296/\b.face.length<4294967296) (hl:l.length<4294967296):
  ∀ (r s p q:LB) (m:Nat),l=p++r->A=q++s->p.length=q.length->r.length=s.length->r.length<m->av2 hd k I A l m (p.length:Int)=I (oS r s):=by
 have j:Fu k:=by omega
 intro r
 induction r with
 |nil=>
  grind [amr,av2,axh,n3,atB]
 |cons x r L=>
  intro s p q m h h2 hp hs M
  obtain ⟨m,rfl,B⟩:=amr M
  obtain ⟨O,T,W,Y⟩:=apy h (by omega)
  cases s with
  |nil=>simp at hs
  |cons y s=>
  have g2:af A (p.length:Int)=some y:=by rw [h2,hp];exact ED (n:=q.length) rfl (by simp)
  obtain ⟨b1,b2⟩:=hb x (by grind)
  have hx: ∀g:Bool->OS S,axY hd k x y g=g (oS x y):=fun g=>by
   obtain ⟨f,F⟩:=x
   obtain ⟨f',z⟩:=y
   simp only [axY,ag j,aiN j b2,aC8 (by omega) _ z (J ⟨f,F⟩ (by grind)) b1]
   by_cases hf:f=f'
   ·subst hf
    rw [decide_eq_true rfl,ae]
    by_cases ad:F=z<;>simp_all [atB,asj]
   simp_all [n3,asj]
  simp only [av2,axh,O,ae,T,g2,sf,ag j,hx,W]
  by_cases E:x=y
  ·subst E
   rw [atB rfl,aq6,n3,L s (p++[x]) (q++[x]) m Y (by grind) (by simp [hp]) (by grind) B]
   by_cases ao:r=s<;>grind [atB,asj,List.cons.inj]
  grind [asj,ae,List.cons.inj]
end
theorem aID (t:Tm):OkT t-> ∀ {k:Nat} (u:Tm) (I:Bool->OS S),Fd k (am t+1)->ate k t u I=I (oS t u):=by
 induction t using c7 with
 |h t B E=>
  intro A k u I hk
  obtain ⟨q,rfl⟩: ∃q,k=q+1:=⟨k-1,by omega⟩
  have hq:4294967296+1<=q:=by grind [alF]
  have j:Fu q:=by omega
  obtain ⟨o1,o2,o3,o4,o5,o6,o7⟩:=A.no
  have ad:4294967296+(am t+1)<=q+1:=hk
  have hQ: ∀y∈t.kids,∀ (v:Tm) (g:Bool->OS S),ate q y v g=g (oS y v):=fun y x v g=>B y x (A.ki x) v g (by have:=bY x;omega)
  have F: ∀b∈t.sys,∀y∈b.kids,∀ (v:Tm) (g:Bool->OS S),ate q y v g=g (oS y v):=fun b hb y x v g=>E b hb y x ((A.bi hb).2 y x) v g (by have:=b8 hb x;omega)
  have hS: ∀ (z:LB) (g:Bool->OS S),axX (ate q) q t.sys z g=g (oS t.sys z):=fun z g=>by
   simp only [axX,aAl]
   by_cases h:t.sys.length=z.length
   ·rw [h,beq_self_eq_true,aq6,n3]
    exact aGP hq g F (fun b hb=>by have:=(A.bi hb).1;omega) (by omega) t.sys z [] [] q rfl rfl rfl h (by omega)
   ·rw [beq_false_of_ne (by omega),aqD,ae,asj (fun q=>h (congrArg List.length q))]
  have e:ate (q+1) t u I=aAr (ate q) q I t u:=rfl
  rw [e]
  simp only [aAr,ag j,Jq,aiN j (show t.r.length<4294967296 by omega),aC8 j _ u.kids hQ (show t.kids.length<4294967296 by omega),hS]
  obtain ⟨a1,a2,a3,a4,a5,J⟩:=t
  obtain ⟨L,M,O,T,W,Y⟩:=u
  show ab (a1==L) (ab (a2==M) (ab (decide (a3=O)) (ab (decide (a4=T)) (ab (oS a5 W) (I (oS J Y)) (I false)) (I false)) (I false)) (I false)) (I false)=_
  by_cases h1:a1=L
  case neg=>simp_all [beq_false_of_ne,n3,asj]
  by_cases h2:a2=M
  case neg=>simp_all [ae,beq_false_of_ne,n3,asj]
  by_cases h3:a3=O
  case neg=>simp_all [ae,n3,asj]
  by_cases h4:a4=T
  case neg=>simp_all [ae,n3,asj]
  by_cases h5:a5=W
  case neg=>simp_all [ae,asj,n3]
  subst h1;subst h2;subst h3;subst h4;subst h5
  rw [beq_self_eq_true,ae,beq_self_eq_true,ae,decide_eq_true rfl,ae,decide_eq_true rfl,ae,atB rfl,ae]
  by_cases h6:J=Y<;>simp_all [atB,asj]
def JT (t:Tm):Prop:=OkT t/\am t<=300/\au t<=1000000
theorem JT.isIn {t:Tm} (h:JT t) (hk:F3 k):In k t:=⟨h.1,hk.fd (by have:=h.2.1;omega),by have:=h.2.2;omega⟩
theorem Fm.jt {t:Tm} (h:Fm t):JT t:=⟨h.ok,by have:=h.dep;omega,by have:=h.siz;omega⟩
def DfJ (defs:List Df):Prop:=defs.length<1073741824/\ ∀d∈defs,JT d.body
theorem DfJ.isIn {defs:List Df} (h:DfJ defs) (hk:F3 k):asU k defs:=⟨h.1,fun d hd=>(h.2 d hd).isIn hk⟩
theorem aIP: ∀ {l:LT} {i:Nat} {a:Tm},aZ l->OkT a->aZ (l.set i a)/\aH (l.set i a)<=max (aH l) (am a)/\ay (l.set i a)<=ay l+au a:=by
 intro l
 induction l with
 |nil=>grind
 |cons x l j=>
  intro i a h ha
  rw [aZ] at h
  cases i<;>grind [aZ,aH,ay]
theorem azV {t a:Tm} {i:Nat} (ft:Fm t) (fa:Fm a):JT (atR t i a):=by
 have h1:=ft.ok;have h2:=ft.dep;have h:=ft.siz;have x:=fa.dep;have z:=fa.siz
 obtain ⟨kd,n,j,r,q,sys⟩:=t
 rw [OkT] at h1
 rw [am] at h2
 rw [au] at h
 obtain ⟨A,q2,B⟩:=aIP (i:=i) h1.2.1 fa.ok
 obtain ⟨E,F,I,J,L,M,O⟩:=h1.1
 show JT (.mk kd n j r (q.set i a) sys)
 refine ⟨?_, ?_, ?_⟩
 all_goals grind [OkT,am,au]
def plQ (t:Tm):List Nat:=(if 0<=as7 t then [(as7 t).toNat] else [])++(if t.kind=14/\(kd0 t).kind=23 then [1] else [])
def at4 (x:Except Int (Tm×Nat)) (R:Pan (Int×Int) (Tm×Int)):Prop:=match x with
 | .ok p=>R= .ok (p.1,(p.2:Int))
 | .error e=> ∃c,R= .pan (e,c)
theorem aIM (hk:F3 k) {hd:atG S} {t kid:Tm} {i:Nat} {defs:List Df} {f:Int} (ft:Fm t) (h:af t.kids (i:Int)=some kid) {R:Pan (Int×Int) (Tm×Int)} (j: ∀g,hd kid defs f g=g R) (q: ∀a c,R= .ok (a,c)->Fm a) (I:Pan (Int×Int) (Tm×Bool×Int)->OS S):
  auo hd k t (i:Int) defs f I=I (match R with
   | .pan e=> .pan e
   | .ok p=>if oS p.1 kid=true then .ok (t,false,p.2) else .ok (atR t i p.1,true,p.2)):=by
 simp only [auo,ar,h,sf,j]
 cases R with
 |pan e=>rfl
 |ok p=>
  obtain ⟨a,c⟩:=p
  have fa:=q a c rfl
  show (ate k a kid fun x=>_)=_
  rw [aID a fa.ok kid _ (hk.fd (by have:=fa.dep;omega))]
  dsimp only
  cases oS a kid with
  |true=>rfl
  |false=>
   have:=ft.ok.no.2.2.2.2.2.1
   rw [n3,if_neg (by decide),J5 (by omega)]
   rfl
noncomputable abbrev hA (defs:List Df):=sk (nf defs) plQ 220
noncomputable abbrev hP (defs:List Df):=hdP (nf defs) plQ 220
def Ans (f:Nat) (x:Except Int (Tm×Nat)):Prop:= ∀a r,x= .ok (a,r)->Fm a/\r<=f
theorem az1 {defs:List Df} {t:Tm} (h:(nf defs t).2.2=0):bw t=0:=by
 grind [nf]
noncomputable def ayO (t:Tm) (i:Nat) (kid:Tm):Pan (Int×Int) (Tm×Int)->Pan (Int×Int) (Tm×Bool×Int)
 | .pan e=> .pan e
 | .ok p=>if oS p.1 kid=true then .ok (t,false,p.2) else .ok (atR t i p.1,true,p.2)
theorem hdP_cons {defs:List Df} {n f:Nat} {t:Tm} {i:Nat} {l:List Nat}:(∀e,hA defs n f (arp t i)= .error e->hP defs n f t (i::l)= .error e)/\
  (∀a r,hA defs n f (arp t i)= .ok (a,r)->oS a (arp t i)=true->hP defs n f t (i::l)=hP defs n r t l)/\
  ∀a r,hA defs n f (arp t i)= .ok (a,r)->oS a (arp t i)=false->hP defs n f t (i::l)=hA defs n r (atR t i a):=by
 grind [hdP,oS]
theorem aq0 {defs:List Df} {n f:Nat} {t:Tm} {i:Nat} {l:List Nat} {W:(Pan (Int×Int) (Tm×Bool×Int)->OS S)->OS S} {R:Pan (Int×Int) (Tm×Int)}
  (h:at4 (hA defs n f (arp t i)) R)
  (q: ∀g,W g=g (ayO t i (arp t i) R))
  {L:(Pan (Int×Int) (Tm×Int)->OS S)->Int->Tm->OS S} {N:(Pan (Int×Int) (Tm×Int)->OS S)->Int->OS S}
  (z: ∀a r,hA defs n f (arp t i)= .ok (a,r)->hA defs n r (atR t i a)≠ .error 0-> ∃R',at4 (hA defs n r (atR t i a)) R'/\ ∀I,L I (r:Int) (atR t i a)=I R')
  (A: ∀a r,hA defs n f (arp t i)= .ok (a,r)->hP defs n r t l≠ .error 0-> ∃R',at4 (hP defs n r t l) R'/\ ∀I,N I (r:Int)=I R')
  (B:hP defs n f t (i::l)≠ .error 0):
  ∃R',at4 (hP defs n f t (i::l)) R'/\ ∀I:Pan (Int×Int) (Tm×Int)->OS S,(W fun r6=>Pan.elim r6 (fun r6=>ab r6.2.1 (L I r6.2.2 r6.1) (N I r6.2.2)) fun e=>I (.pan (e.1,e.2)))=I R':=by
 simp only [q]
 obtain ⟨x,E,F⟩:=hdP_cons (defs:=defs) (n:=n) (f:=f) (t:=t) (i:=i) (l:=l)
 cases j:hA defs n f (arp t i) with
 |error e=>
  rw [j] at h
  obtain ⟨c,rfl⟩:=h
  rw [x e j]
  exact ⟨.pan (e,c),⟨c,rfl⟩,fun _=>rfl⟩
 |ok p=>
  obtain ⟨a,r⟩:=p
  rw [j] at h
  have h:R= .ok (a,(r:Int)):=h
  grind [oS,ayO,Pan.elim,n3,ae]
theorem aGi:JT noT:=⟨as0,by decide,by decide⟩
theorem avK {t:Tm} (ft:Fm t) (i:Nat):JT (arp t i):=by
 unfold arp
 by_cases h:i<t.kids.length
 ·have j:t.kids.getD i noT∈t.kids:=(arL rfl h).2
  have h1:=bY j
  have h2:=k_ j
  have x:ay t.kids<=au t:=by
   obtain ⟨kd,n,z,r,q,sys⟩:=t
   show ay q<=_
   rw [au];omega
  have:=ft.dep;have:=ft.siz
  exact ⟨ft.ok.ki j,by omega,by omega⟩
 grind [aGi]
theorem awB {defs:List Df} (hd:DfJ defs): ∀n,(∀f t,JT t->Ans f (hA defs n f t))/\ ∀l f t,Fm t->Ans f (hP defs n f t l):=by
 have hk:F3 4294970296:=f4_min.f3
 have B: ∀n,(∀f t,JT t->Ans f (hA defs n f t))-> ∀l f t,Fm t->Ans f (hP defs n f t l):=by
  intro n j l
  induction l with
  |nil=>
   intro f t ft a r h
   grind [hdP]
  |cons i l x=>
   intro f t ft a r h
   obtain ⟨J,E,F⟩:=hdP_cons (defs:=defs) (n:=n) (f:=f) (t:=t) (i:=i) (l:=l)
   cases z:hA defs n f (arp t i) with
   |error e=>grind
   |ok p=>
    obtain ⟨b,s⟩:=p
    obtain ⟨fb,hs⟩:=j f _ (avK ft i) b s z
    cases hb:oS b (arp t i) with
    |true=>rw [E b s z hb] at h;obtain ⟨A,q2⟩:=x s t ft a r h;grind
    |false=>rw [F b s z hb] at h;obtain ⟨A,q2⟩:=j s _ (azV ft fb) a r h;grind
 intro n
 induction n with
 |zero=>
  grind [Ans,sk]
 |succ n x=>
  have h1: ∀f t,JT t->Ans f (hA defs (n+1) f t):=by
   intro f t jt a r h
   have h:sk (nf defs) plQ 220 (n+1) f t= .ok (a,r):=h
   rw [sk] at h
   split at h
   ·cases h
   rename_i c1
   split at h
   ·rename_i c2;exact x.2 _ f t ⟨jt.1,az1 c2.2⟩ a r h
   rename_i c2
   split at h
   ·cases h
   rename_i c3
   have L:(nf defs t).2.2=0:=Decidable.byContradiction fun q=>c1 ⟨q,c3⟩
   have I:(nf defs t).2.1=true:=by
    grind
   obtain ⟨A,q2⟩:=x.1 (f-1) _ (az0 (hd.isIn hk) jt.1 I).1.jt a r h
   grind
  grind
theorem aGI {defs:List Df} (hd:DfJ defs): ∀n k m,n<=m->4294970296+n<=k-> ∀f t,f<=100000->JT t->hA defs n f t≠ .error 0->
  ∃R,at4 (hA defs n f t) R/\ ∀I:Pan (Int×Int) (Tm×Int)->OS S,aue (ar1 k) k I defs m (f:Int) t=I R:=by
 intro n
 induction n with
 |zero=>grind [sk]
 |succ n ih=>
  intro k m hm ax f t hf jt h
  have O:F4 k:=by omega
  have hk:=O.f3
  obtain ⟨m,rfl⟩: ∃j,m=j+1:=⟨m-1,by omega⟩
  have hL:=ih k m (by omega) (by omega)
  change sk (nf defs) plQ 220 (n+1) f t≠_ at h
  change ∃R,at4 (sk (nf defs) plQ 220 (n+1) f t) R/\_
  rw [sk] at h ⊢
  simp only [aue,ayZ,ag hk.fu,ar,aIB O (hd.isIn hk) (jt.isIn hk) (show (0:Int)<=(f:Int)/\(f:Int)<=100000 by omega)]
  by_cases c1:(nf defs t).2.2≠0/\f≠0
  ·have J:aui defs t (f:Int)= .pan ((nf defs t).2.2,(f:Int)):=by
    grind [aui]
   rw [if_pos c1,J]
   exact ⟨.pan ((nf defs t).2.2,(f:Int)),⟨_,rfl⟩,fun _=>rfl⟩
  have az: ¬((nf defs t).2.2≠0/\(0:Int)<(f:Int)):=fun q=>c1 ⟨q.1,by omega⟩
  rw [if_neg c1] at h ⊢
  by_cases c2:(nf defs t).2.1=false/\(nf defs t).2.2=0
  ·have J:aui defs t (f:Int)= .ok (t,false,(f:Int)):=by
    grind [aui]
   rw [if_pos c2] at h ⊢
   rw [J]
   have ft:Fm t:=⟨jt.1,az1 c2.2⟩
   have hK: ∀i z,z<=100000->hA defs n z (arp t i)≠ .error 0->i<t.kids.length-> ∃R,at4 (hA defs n z (arp t i)) R/\ ∀g:Pan (Int×Int) (Tm×Bool×Int)->OS S,auo (ar1 k) k t (i:Int) defs (z:Int) g=g (ayO t i (arp t i) R):=by
    intro i z E F hi
    obtain ⟨j,rfl⟩: ∃j,k=j+1:=⟨k-1,by omega⟩
    obtain ⟨R,B,q2⟩:=ih j j (by omega) (by omega) z (arp t i) E (avK ft i) F
    have fR: ∀a c,R= .ok (a,c)->Fm a:=by
     intro a c e
     cases M:hA defs n z (arp t i) with
     |error e'=>rw [M] at B;obtain ⟨c',B⟩:=B;grind
     |ok p=>
      rw [M] at B
      have B:R= .ok (p.1,(p.2:Int)):=B
      rw [B] at e
      injection e with e;injection e with e1 e2
      exact e1▸(((awB hd n).1 z _ (avK ft i)) p.1 p.2 M).1
    refine ⟨R,B,fun g=> ?_⟩
    have hh: ∀g,ar1 (j+1) (arp t i) defs (z:Int) g=g R:=fun g=>by
     rw [<-q2 g]
     simp only [ar1,ayL,ar]
    rw [aIM (hd:=ar1 (j+1)) hk ft (kid:=arp t i) (arL rfl hi).1 (R:=R) hh fR g]
    cases R<;>rfl
   have hE: ∀z,∃R',at4 (hP defs n z t []) R'/\ ∀I:Pan (Int×Int) (Tm×Int)->OS S,I (.ok (t,(z:Int)))=I R':=fun z=>by
    simp_all [at4,hdP]
   have ao: ∀i z a r,hA defs n z (arp t i)= .ok (a,r)->Fm a/\r<=z:=fun i z a r h=>((awB hd n).1 z _ (avK ft i)) a r h
   have F: ∀i l z,hP defs n z t (i::l)≠ .error 0->hA defs n z (arp t i)≠ .error 0:=fun i l z h q=>h (hdP_cons.1 0 q)
   have T: ∀i z,z<=100000-> ∀a r,hA defs n z (arp t i)= .ok (a,r)->hA defs n r (atR t i a)≠ .error 0->
     ∃R',at4 (hA defs n r (atR t i a)) R'/\ ∀I:Pan (Int×Int) (Tm×Int)->OS S,aue (ar1 k) k I defs m (r:Int) (atR t i a)=I R':=
    fun i z E a r M hn=>hL r _ (by grind) (azV ft (ao i z a r M).1) hn
   have W: ∀z,z<=100000->hP defs n z t (if t.kind=14/\(kd0 t).kind=23 then [1] else [])≠ .error 0->
     ∃R',at4 (hP defs n z t (if t.kind=14/\(kd0 t).kind=23 then [1] else [])) R'/\ ∀I:Pan (Int×Int) (Tm×Int)->OS S,
      (ab (t.kind==14) ((af t.kids 0).bind fun x8=>ab (x8.kind==23) (auo (ar1 k) k t 1 defs (z:Int) fun A=>Pan.elim A (fun A=>ab A.2.1 (aue (ar1 k) k I defs m A.2.2 A.1) (I (.ok (t,A.2.2)))) fun e=>I (.pan (e.1,e.2))) (I (.ok (t,(z:Int))))) (I (.ok (t,(z:Int)))))=I R':=by
    intro z E h
    by_cases Y:t.kind=14
    ·have hl:t.kids.length=2:=E5 ft Y rfl
     have hg:af t.kids 0=some (kd0 t):=(arL (i:=0) hl (by omega)).1
     simp only [Y,hg,sf,show ((14:Int)==14)=true from rfl,ae,true_and] at h ⊢
     by_cases ad:(kd0 t).kind=23
     ·rw [if_pos ad] at h ⊢
      simp only [ad,show ((23:Int)==23)=true from rfl,ae]
      obtain ⟨R,B,q2⟩:=hK 1 z E (F 1 [] z h) (by omega)
      exact aq0 (L:=fun I r x=>aue (ar1 k) k I defs m r x) (N:=fun I r=>I (.ok (t,r))) B q2 (T 1 z E) (fun a r _ _=>hE r) h
     simp_all [n3,beq_false_of_ne]
    simp_all [n3,beq_false_of_ne]
   have hM:0<=as7 t->(as7 t).toNat<t.kids.length:=by
    intro h0
    have a6:=ft.nk
    unfold as7 ayg at h0 ⊢
    rw [if_neg (by omega)] at h0 ⊢
    split at h0
    ·rename_i q
     have:0<ct t.kind:=by rcases q with q|q|q|q|q|q|q<;>rw [q]<;>decide
     omega
    ·rename_i q
     rw [if_neg q]
     split at h0
     ·rename_i q2
      have:3<ct t.kind:=by rw [q2];decide
      omega
     ·rename_i q2
      rw [if_neg q2]
      split at h0
      ·rename_i q3
       have:4<ct t.kind:=by rw [q3];decide
       omega
      ·omega
   change hdP (nf defs) plQ 220 n f t (plQ t)≠_ at h
   simp only [Pan.elim,n3,aIs hk]
   unfold plQ at h ⊢
   by_cases c:0<=as7 t
   ·rw [if_pos c] at h ⊢
    have hi:=hM c
    obtain ⟨R,B,q2⟩:=hK (as7 t).toNat f hf (F _ _ f h) hi
    have hc:(((as7 t).toNat:Nat):Int)=as7 t:=by omega
    rw [hc] at q2
    simp only [decide_eq_true (show as7 t>=0 from c),ae]
    exact aq0 (L:=fun I r x=>aue (ar1 k) k I defs m r x) (N:=fun I r=>ab (t.kind==14) ((af t.kids 0).bind fun x8=>ab (x8.kind==23) (auo (ar1 k) k t 1 defs r fun A=>Pan.elim A (fun A=>ab A.2.1 (aue (ar1 k) k I defs m A.2.2 A.1) (I (.ok (t,A.2.2)))) fun e=>I (.pan (e.1,e.2))) (I (.ok (t,r)))) (I (.ok (t,r)))) B q2 (T _ f hf) (fun a r M hn=>W r (by grind) hn) h
   ·rw [if_neg c] at h ⊢
    simp only [decide_eq_false (show ¬(as7 t>=0) from c),n3]
    exact W f hf h
  rw [if_neg c2] at h ⊢
  by_cases c3:f=0
  ·have J:aui defs t (f:Int)= .pan (220,(f:Int)):=by
    grind [aui]
   rw [if_pos c3,J]
   exact ⟨.pan (220,(f:Int)),⟨_,rfl⟩,fun _=>rfl⟩
  rw [if_neg c3] at h ⊢
  have J:aui defs t (f:Int)= .ok ((nf defs t).1,true,(f:Int)-1):=by
   grind [aui]
  have e0:(nf defs t).2.2=0:=Decidable.byContradiction fun q=>c1 ⟨q,c3⟩
  have e1:(nf defs t).2.1=true:=by
   grind
  obtain ⟨R,B,q2⟩:=hL (f-1) _ (by omega) (az0 (hd.isIn hk) jt.1 e1).1.jt h
  refine ⟨R,B,fun I=> ?_⟩
  rw [<-q2 I,show ((f-1:Nat):Int)=(f:Int)-1 by omega,J]
  rfl
end Go.Proofs.YtgmmefmmnakbpaaGreatDoor
namespace Go.Proofs.YtgmmefmmnakbpaaGreatDoor
open Go PI
variable {st:Tm->Tm×Bool×Int} {pl:Tm->List Nat} {eF:Int}
theorem aF7: ∀ (n:Nat),(∀f t a r,sk st pl eF n f t= .ok (a,r)->r<=f/\(r=f->a=t))/\
  ∀ (l:List Nat) f t a r,hdP st pl eF n f t l= .ok (a,r)->r<=f/\(r=f->a=t):=by
 have hP: ∀n,(∀f t a r,sk st pl eF n f t= .ok (a,r)->r<=f/\(r=f->a=t))-> ∀ (l:List Nat) f t a r,hdP st pl eF n f t l= .ok (a,r)->r<=f/\(r=f->a=t):=by
  intro n hA l
  induction l<;>grind [hdP]
 intro n
 induction n<;>grind [sk]
end Go.Proofs.YtgmmefmmnakbpaaGreatDoor
namespace Go.Proofs.YtgmmefmmnakbpaaGreatDoor
open Go PI
set_option maxRecDepth 20000
variable {S:Type} {k:Nat}
theorem aHf {t:Tm} (ft:Fm t) {i:Nat} (h:i∈plQ t):i<t.kids.length:=by
 have x:=ft.nk
 unfold plQ at h
 rcases atc.1 h with h|h
 ·split at h
  ·rename_i j
   obtain rfl:i=(as7 t).toNat:=by grind
   unfold as7 ayg at j ⊢
   rw [if_neg (by omega)] at j ⊢
   split at j
   ·rename_i q
    have:0<ct t.kind:=by rcases q with q|q|q|q|q|q|q<;>rw [q]<;>decide
    omega
   ·rename_i q
    rw [if_neg q]
    split at j
    ·rename_i q2
     have:3<ct t.kind:=by rw [q2];decide
     omega
    ·rename_i q2
     rw [if_neg q2]
     split at j
     ·rename_i z
      have:4<ct t.kind:=by rw [z];decide
      omega
     ·omega
  simp_all
 ·split at h
  ·rename_i j
   obtain rfl:i=1:=by grind
   have:t.kids.length=2:=E5 ft j.1 rfl
   omega
  simp_all
theorem aGH {t:Tm} {i:Nat} (h:i<t.kids.length):am (arp t i)+1<=am t:=by
 have j:t.kids.getD i noT∈t.kids:=(arL rfl h).2
 exact bY j
theorem aFK {defs:List Df} (hd:DfJ defs): ∀n f t,JT t->f*301+am t+1<=n->hA defs n f t≠ .error 0:=by
 intro n
 induction n with
 |zero=>simp
 |succ n A=>
  intro f t jt hn h
  have h:sk (nf defs) plQ 220 (n+1) f t= .error 0:=h
  rw [sk] at h
  split at h
  ·grind
  rename_i c1
  split at h
  ·rename_i c2
   have ft:Fm t:=⟨jt.1,az1 c2.2⟩
   have B:=jt.2.1
   have key: ∀l:List Nat,(∀i∈l,i<t.kids.length)-> ∀j,j<=f->hP defs n j t l≠ .error 0:=by
    intro l
    induction l with
    |nil=>
     grind [hdP]
    |cons i l E=>
     intro hl j x q
     have T:=aGH (hl i (by simp))
     have W:j*301<=f*301:=arA _ x
     have F:=A j (arp t i) (avK ft i) (by omega)
     obtain ⟨Y,p2,I⟩:=hdP_cons (defs:=defs) (n:=n) (f:=j) (t:=t) (i:=i) (l:=l)
     cases z:hA defs n j (arp t i) with
     |error e=>grind
     |ok p=>
      obtain ⟨b,s⟩:=p
      obtain ⟨fb,hs⟩:=(awB hd n).1 j _ (avK ft i) b s z
      cases hb:oS b (arp t i) with
      |true=>grind
      |false=>
       rw [I b s z hb] at q
       have J:s≠j:=fun e=>by
        have:=((aF7 n).1 _ _ _ _ z).2 e
        grind [oS]
       have L:=azV (i:=i) ft fb
       have:=L.2.1
       grind
   grind [aHf]
  rename_i c2
  split at h
  ·grind
  rename_i c3
  have e0:(nf defs t).2.2=0:=Decidable.byContradiction fun q=>c1 ⟨q,c3⟩
  have M:(nf defs t).2.1=true:=by
   grind
  have O:=(az0 (hd.isIn f4_min.f3) jt.1 M).1.jt
  have:=O.2.1
  grind
def nH:Nat:=40000000
theorem aAZ {defs:List Df} (hd:DfJ defs) {f:Nat} (hf:f<=100000) {t:Tm} (jt:JT t):hA defs nH f t≠ .error 0:=
 aFK hd nH f t jt (by have:=jt.2.1;unfold nH;omega)
noncomputable def hdQ (defs:List Df) (f:Nat) (t:Tm):Tm×Int×Int:=match hA defs nH f t with
 | .ok p=>(p.1,(p.2:Int),0)
 | .error e=>(noT,0,e)
noncomputable def avH (defs:List Df) (t:Tm) (f:Int):Tm×Int×Int:=
 if bw t≠0 then (noT,0,bw t) else if f<0\/100000<f then (noT,0,2) else hdQ defs f.toNat t
def F5 (k:Nat):Prop:=4500000000<=k
theorem F5.f4 (h:F5 k):F4 k:=by grind [F5]
theorem F5.f3 (h:F5 k):F3 k:=h.f4.f3
theorem aIq (E:4294970296+nH<k) {defs:List Df} (hd:DfJ defs) {t:Tm} (h:In k t) {f:Int} (I:Tm×Int×Int->OS S):auI k defs t f I=I (avH defs t f):=by
 have z:F4 k:=by omega
 have hk:=z.f3
 simp only [auI,ag hk.fu,ar,amv h.1 h.2.1 h.dep]
 unfold avH
 by_cases x:bw t=0
 case neg=>rw [dj x,aqD,ae,if_pos x];rfl
 rw [x,show (!((0:Int)==0))=false from rfl,n3,if_neg (by simp)]
 by_cases h1:f<0
 ·rw [decide_eq_true h1,ae,if_pos (.inl h1)];rfl
 rw [decide_eq_false h1,n3]
 by_cases h2:100000<f
 ·rw [decide_eq_true (show f>100000 from h2),ae,if_pos (.inr h2)];rfl
 rw [decide_eq_false (show ¬f>100000 from h2),n3,if_neg (by omega),vU t h.1 _ h.2.1]
 have jt:JT t:=Fm.jt ⟨h.1,x⟩
 obtain ⟨j,rfl⟩: ∃j,k=j+1:=⟨k-1,by omega⟩
 obtain ⟨R,q,q2⟩:=aGI (S:=S) hd nH j j (by omega) (by omega) f.toNat t (by omega) jt (aAZ hd (by omega) jt)
 have B: ∀g,ar1 (j+1) t defs f g=g R:=fun g=>by
  rw [<-q2 g,show ((f.toNat:Nat):Int)=f by omega]
  simp only [ar1,ayL,ar]
 rw [B]
 unfold hdQ
 cases A:hA defs nH f.toNat t with
 |ok p=>rw [A] at q;rw [show R= .ok (p.1,(p.2:Int)) from q];rfl
 |error e=>rw [A] at q;obtain ⟨c,q⟩:=q;rw [q];rfl
theorem aIp (j:F5 k) {defs:List Df} (hd:DfJ defs) {t:Tm} (h:In k t) {f:Int} (I:Tm×Int×Int->OS S):auI k defs t f I=I (avH defs t f):=
 aIq (by grind [F5,nH]) hd h I
def fuQ (n:Int):Int:=if n<0\/100000<n then n else n.tmod 25
theorem aId (n:Int) (I:Int->OS S):awt k n I=I (fuQ n):=by
 grind [awt,fuQ,ae,n3]
theorem aFW {n:Int} (h: ¬(n<0\/100000<n)):0<=fuQ n/\fuQ n<25:=by
 grind [fuQ]
theorem aIi (hk:F3 k) {t:Tm} (h:In k t) (I:Bool->OS S): ∃c,axO k t I=I c/\(c=false->au t<=100):=by
 simp only [axO,ar]
 obtain ⟨w,h1,h2,j,q⟩:=aDd t h.1 100 (by unfold Mo;omega) (fun r1=>I (decide (r1>100))) h.2.1
 grind
theorem aIj (hk:F3 k) {t:Tm} (h:In k t) (I:Bool->OS S): ∃c,axP k t I=I c/\(c=false->au t<=80):=by
 simp only [axP,ar]
 obtain ⟨w,h1,h2,j,q⟩:=aDd t h.1 80 (by unfold Mo;omega) (fun r1=>I (decide (r1>80))) h.2.1
 grind
theorem aGW (hk:F3 k) (I:Bool->OS S) {l:List Df} (hl:asU k l):
  ∀ (r p:List Df) (m:Nat),l=p++r->r.length<m-> ∃c,ave k I l m (p.length:Int)=I c/\(c=false-> ∀d∈r,au d.body<=100):=by
 intro r
 induction r with
 |nil=>
  intro p m h j
  obtain ⟨m,rfl,q⟩:=amr j
  simp_all [ave,axg,n3]
 |cons x r L=>
  intro p m h j
  obtain ⟨m,rfl,q⟩:=amr j
  have z:=hl.1
  obtain ⟨A,B,E,M⟩:=apy h (by omega)
  have F:=hl.2 x (by grind)
  simp only [ave,axg,A,ae,B,sf,ag hk.fu,ar,E]
  obtain ⟨c,c1,c2⟩:=aIi hk F (fun J=>ab J (I true) (ab (decide ((x.name.size:Int)>50)) (I true) (ave k I l m ((p++[x]).length:Int))))
  rw [c1]
  cases c<;>grind [ae,n3,decide_eq_false]
theorem aIr (hk:F3 k) {l:List Df} (hl:asU k l) (I:Bool->OS S): ∃c,axN k l I=I c/\(c=false->l.length<=8/\DfJ l/\ ∀d∈l,au d.body<=100):=by
 simp only [axN,aAk]
 by_cases j:(l.length:Int)>8
 ·simp_all [ae]
 rw [decide_eq_false j,n3]
 have q:4294968296<=k:=hk
 obtain ⟨c,h1,h2⟩:=aGW hk I hl l [] k rfl (by omega)
 exact ⟨c,h1,fun h=>⟨by omega,⟨by omega,fun d hd=>⟨(hl.2 d hd).1,by grind [zG],by grind⟩⟩,h2 h⟩⟩
theorem aGN (I:List Df->OS S) {l:List Df} (hl:l.length<1073741824):
  ∀ (r p:List Df) (m:Nat),l=p++r->r.length<m->av0 k I l m p (p.length:Int)=I l:=by
 intro r
 induction r with
 |nil=>
  grind [amr,av0,axf,n3]
 |cons x r z=>
  intro p m h j
  obtain ⟨m,rfl,q⟩:=amr j
  obtain ⟨A,B,E,F⟩:=apy h (by omega)
  grind [av0,axf,ae,aFO,J5]
theorem aH6 (hk:F3 k) {l:List Df} (hl:l.length<1073741824) (I:List Df->OS S):axM k l I=I l:=by
 simp only [axM,aAj]
 have h:4294968296<=k:=hk
 exact aGN I hl l [] k rfl (by omega)
set_option maxRecDepth 100000
theorem aJk {S:Type} (q:Nat) (I:Bool->OS S):axR (q+400) I=I true:=by kernel_rfl
theorem aIN (hk:F3 k) (I:Bool->OS S):axR k I=I true:=by
 have h:4294968296<=k:=hk
 obtain ⟨q,rfl⟩: ∃q,k=q+400:=⟨k-400,by omega⟩
 exact aJk q I
theorem aF8 {defs:List Df} (hd:DfJ defs) {t:Tm} (h:OkT t) {f:Int} (hk:F3 k):In k (avH defs t f).1:=by
 unfold avH
 split
 ·exact gQ hk
 split
 ·exact gQ hk
 rename_i j _
 unfold hdQ
 cases q:hA defs nH f.toNat t with
 |error e=>exact gQ hk
 |ok p=>exact (((awB hd nH).1 _ t (Fm.jt ⟨h,Decidable.not_not.1 j⟩)) p.1 p.2 q).1.isIn hk
theorem aG6 (more:Int):0<=su .i64 (Int.tmod (su .u64 more) 10)/\su .i64 (Int.tmod (su .u64 more) 10)<10:=by
 have h:0<=su .u64 more:=by
  show 0<=more%_
  omega
 grind [aaf]
theorem azU (hk:F3 k) {t:Tm} (h:In k t) (I:Bool->OS S):d8 k t t I=I true:=RQ t h.1 I h.2.1
theorem aHU (E:F5 k) {defs:List Df} (hd:asU k defs) {t:Tm} (z:In k t) {fuel more:Int} (h1:aG fuel) (h2:aG more) (I:Bool->OS S):axQ k defs t fuel more I=I true:=by
 have hk:=E.f3
 simp only [axQ,ag hk.fu,ar,aIN hk,aq6,n3]
 generalize A:(fun F:Bool=>ab F (I true) _)=R
 obtain ⟨c,c1,_⟩:=aIj hk z R
 refine c1.trans ?_
 rw [<-A]
 cases c with
 |true=>rfl
 |false=>
 dsimp only
 rw [n3]
 generalize A:(fun J:Bool=>ab J (I true) _)=R
 obtain ⟨c,c1,c2⟩:=aIr hk hd R
 refine c1.trans ?_
 rw [<-A]
 cases c with
 |true=>rfl
 |false=>
 dsimp only
 obtain ⟨_,hj,_⟩:=c2 rfl
 rw [n3]
 by_cases f0:fuel<0
 ·rw [decide_eq_true f0];rfl
 by_cases f1:fuel>100000
 ·rw [decide_eq_false f0,n3,decide_eq_true f1];rfl
 rw [decide_eq_false f0,n3,decide_eq_false f1,n3]
 obtain ⟨m0,m1⟩:=aG6 more
 obtain ⟨n0,L⟩:=aFW (n:=fuel) (by omega)
 simp only [aH6 hk hd.1,aId,aIp E hj z]
 rw [aaf (n:=fuQ fuel+_) (by omega) (by omega)]
 generalize su .i64 (Int.tmod (su .u64 more) 10)=j at m0 m1 ⊢
 generalize fuQ fuel=n at n0 L ⊢
 have i1:=aF8 (f:=n) hj z.1 hk
 unfold avH at i1 ⊢
 by_cases h:bw t=0
 case neg=>
  rw [if_pos h] at i1
  rw [if_pos h,if_pos h]
  dsimp only at i1 ⊢
  by_cases e:bw t=220
  ·rw [e];rfl
  ·rw [beq_false_of_ne e,n3,beq_self_eq_true,aq6,n3,azU hk i1,aq6,n3,dj h];rfl
 rw [if_neg (by simp [h]),if_neg (by omega)] at i1
 rw [if_neg (by simp [h]),if_neg (by omega),if_neg (by simp [h]),if_neg (by omega)]
 have jt:JT t:=Fm.jt ⟨z.1,h⟩
 obtain ⟨M,q2⟩:=(aF6 (st:=nf defs) (pl:=plQ) (eF:=220) (by decide) j.toNat nH).1 n.toNat t
 rw [show (n+j).toNat=n.toNat+j.toNat by omega]
 unfold hdQ at i1 ⊢
 cases x:hA defs nH n.toNat t with
 |error e=>
  rw [x] at i1
  by_cases B:e=220
  ·subst B;rfl
  ·have he:e≠0:=fun q=>aAZ (f:=n.toNat) hj (by omega) jt (by rw [x,q])
   rw [show hA defs nH (n.toNat+j.toNat) t=_ from q2 e x he B]
   dsimp only at i1 ⊢
   rw [beq_false_of_ne B,n3,beq_self_eq_true,aq6,n3,azU hk i1,aq6,n3,dj he];rfl
 |ok p=>
  rw [x] at i1
  rw [show hA defs nH (n.toNat+j.toNat) t=_ from M p.1 p.2 x]
  dsimp only at i1 ⊢
  have hle:=(((awB hj nH).1 _ t jt) p.1 p.2 x).2
  rw [show ((0:Int)==220)=false from rfl,n3,beq_self_eq_true,aq6,n3,azU hk i1,aq6,n3,n3]
  grind [aaf]
end Go.Proofs.YtgmmefmmnakbpaaGreatDoor
namespace Go.Proofs.YtgmmefmmnakbpaaGreatDoor
open Go PI Go.ChangeShapes Go.WideShapes Go.ChangeAt Go.RowKit
set_option maxRecDepth 100000
section
variable {H:Type} {enc:TypeId×Value->H} {w:World} {base:Nat} {spare:Nat->Bool} {held:Bool} {o:Obj} {N:aN} {g:Gh UU}
def QDf (x:Df) (d:DataW H):Prop:=QT x.body d
theorem aG9 (A: ∀b o,¬N b o) (n:Nat) (cs:List Value) (d:DataW H) (pl:List MemPlace) (h:jG enc w base spare held n 52 cs=some (d,pl)): ∃x:EL ET.G,oM o w N g ET.G x cs/\QDf (show Df from x) d:=by
 have B:Tryz.prog.cellsOf 9=1:=by kernel_rfl
 have cT:Tryz.prog.cellsOf 27=6:=by kernel_rfl
 cases n with
 |zero=>cases h
 |succ n=>
  obtain ⟨xs,m,L,j,hl,hlen,hf⟩:=DataW.trod_struct Tryz.underlying52 h
  obtain rfl:n=m:=by omega
  injection j with j _
  subst j
  have q:cs.length=7:=hl.trans (by kernel_rfl)
  match cs,q,xs,hlen with
  |[a0,a1,a2,a3,a4,a5,M],_,[O,y1],_=>
  have z:=hf 0 _ rfl
  have h1:=hf 1 _ rfl
  simp [B,cT] at z h1
  obtain ⟨s,E,k0,_⟩:=DataW.trod_string Tryz.underlying9 z
  obtain rfl:a0= .string s:=by simpa using E
  obtain ⟨t,F,I⟩:=(ahu (o:=o) (g:=g) A n).1 _ _ _ h1
  refine ⟨(⟨s,show Tm from t⟩:Df),fun k p hp=> ?_, ?_⟩
  ·cases k with
   |zero=>cases hp;exact ⟨_,rfl,.str _⟩
   |succ k=>
    obtain ⟨v,hv,J⟩:=F k p (by
     revert hp
     generalize (show Tm from t)=u
     intro hp
     cases u
     exact hp)
    exact ⟨v,hv,J⟩
  ·obtain ⟨T,q2⟩:=I
   unfold QDf QT
   simp only [List.map_cons,List.map_nil,Rows.uptoBulk,Rows.uptoBulkAll]
   exact ⟨by show au (show Tm from t)<=_;omega,fun hb=>q2 (by omega)⟩
theorem aEV (A: ∀b o,¬N b o) {W:World} {base:Nat} {v:Value} {d:DataW H} {ps:List MemPlace} (hv:Value.okWide Tryz.prog W .any base 22 v) (h:DataW.Trod enc Tryz.prog w 0 spare held 22 v d ps):
  ∃l:List Df,Rep (LL o) w N g v (slG l .none)/\l.length+1<=Rows.uptoBulk d/\ ∀x∈l,au x.body<=Rows.uptoBulk d/\(Rows.uptoBulk d<1073741824->OkT x.body):=by
 obtain ⟨a,len,cap,rfl⟩:=okWide_slice Tryz.underlying22 hv
 obtain ⟨n,hn⟩:=h
 cases n with
 |zero=>cases hn
 |succ n=>
  obtain ⟨c,l,j,hc,F,hl,I,hb⟩:=FW (e:=ET.G) (Q:=fun x d=>QDf (show Df from x) d) A Tryz.underlying22 (by kernel_rfl) (fun cs d pl h=>aG9 A n cs d pl h) hn
  obtain rfl:c= .slice a len cap:=by simpa [Value.cells] using hc.symm
  have B:=Dr (l:=j)
  have J: @List.length Df l=j.length:=hl
  refine ⟨l,F,by omega,fun x L=> ?_⟩
  obtain ⟨i,E⟩:=List.getElem?_of_mem L
  have q:i<j.length:=by rw [<-hl];exact (asn.1 E).1
  have z:QT (Df.body x) j[i]:=I i x _ E (arN q)
  obtain ⟨O,q2⟩:=z
  have hle: ∀ (l:List (DataW H)) (i:Nat) (h:i<l.length),Rows.uptoBulk l[i]<=Rows.uptoBulkAll l:=by
   intro l
   induction l with
   |nil=>intro i h;cases h
   |cons y l M=>
    intro i h
    rw [Rows.uptoBulkAll]
    cases i with
    |zero=>simp
    |succ i=>have:=M i (by simpa using h);simp;omega
  have:=hle j i q
  exact ⟨by omega,fun h=>q2 (by omega)⟩
end
set_option maxHeartbeats 4000000
theorem adj {k:Nat} (hk:4296016872<=k) {H:Type} {t:Tm} {d:DataW H} (h:QT t d) (hb:Rows.uptoBulk d<=1048576):In k t:=by
 have h1:=h.1
 have h2:=zG t
 exact ⟨h.2 (by omega),by unfold Fd;omega,by omega⟩
theorem aFb {k:Nat} (hk:4296016872<=k) {H:Type} {l:List Df} {d:DataW H} (h1:l.length+1<=Rows.uptoBulk d) (h: ∀x∈l,au x.body<=Rows.uptoBulk d/\(Rows.uptoBulk d<1073741824->OkT x.body)) (hb:Rows.uptoBulk d<=1048576):asU k l:=
 ⟨by omega,fun x j=>by
  obtain ⟨q,q2⟩:=h x j
  have h2:=zG x.body
  exact ⟨q2 (by omega),by unfold Fd;omega,by omega⟩⟩
theorem nO {H:Type} {enc:TypeId×Value->H} {w:World} {spare:Nat->Bool} {held:Bool} {o:Obj} {N:aN} {g:Gh UU} (B: ∀b o,¬N b o) {W:World} {base:Nat} {v:Value} {d:DataW H} {ps:List MemPlace} (hv:Value.okWide Tryz.prog W .any base 3 v) (h:DataW.Trod enc Tryz.prog w 0 spare held 3 v d ps):
  ∃n:Int,Rep (LL o) w N g v (.int .i64 n)/\aG n:=by
 obtain ⟨n,rfl⟩:=okWide_int Tryz.underlying3 hv
 obtain ⟨q,j⟩:=h
 obtain ⟨z,x,A⟩:=NT j
 obtain rfl:n=z:=by simpa [Value.cells] using x
 exact ⟨n,.int _ _,A⟩
theorem hrow (q:Nat) {t0:List Df} {a1 b1:Int} {c1:ByteArray} {d1:List Cl} {h:List Tm} {f1:List (Br Tm)} {t2:Int} {t3:Int}:ayC (S:=Out UU) q [slG t0 .none,.agg (asF ET.T (Tm.mk a1 b1 c1 d1 h f1)),.int .i64 t2,.int .i64 t3] [] some=aa q (axQ q t0 (Tm.mk a1 b1 c1 d1 h f1) t2 t3) fun r=>some (Out.ret (U:=UU) (.bool r) []):=by kernel_rfl
theorem apP {j:Nat} (h:F5 (j+1)) {t0:List Df} (q:asU (j+1) t0) {t1:Tm} (h1:In (j+1) t1) {t2:Int} (h2:aG t2) {t3:Int} (x:aG t3):ayC (S:=Out UU) (j+1) [slG t0 .none,.agg (asF ET.T t1),.int .i64 t2,.int .i64 t3] [] some=some (.ret (.bool true) []):=by
 obtain ⟨a1,z,c1,d1,A,f1⟩:=t1
 exact (hrow (j+1)).trans ((ZV (by omega) _ _).trans (aHU h q h1 h2 x fun r=>some (Out.ret (U:=UU) (.bool r) [])))
theorem agd {k:Nat} (hk:5000000000<=k) {o:Obj} (ho:ai o) {t0:List Df} (x:asU k t0) {t1:Tm} (h1:In k t1) {t2:Int} (h2:aG t2) {t3:Int} (z:aG t3):
  ci (LL o) 3 [slG t0 .none,.agg (asF ET.T t1),.int .i64 t2,.int .i64 t3] [] (.ret (.bool true) []):=by
 have A:F5 k:=by unfold F5;omega
 obtain ⟨j,rfl⟩: ∃j,k=j+1:=⟨k-1,by omega⟩
 obtain ⟨out,h,q⟩:=aI0 (S:=Out UU) o ho (j+1) [slG t0 .none,.agg (asF ET.T t1),.int .i64 t2,.int .i64 t3] [] some (.ret (.bool true) []) (apP A x h1 h2 z)
 injection q with q
 exact q▸h
theorem agc (H:Type) (enc:TypeId×Value->H) (W:World) (base:Nat) (args:Array Value) (ds gs:List (DataW H)) (before:List MemPlace)
  (h: ∀ (j:Nat) t v,Tryz.f3.params[j]? =some t->args[j]? =some v->Value.okWide Tryz.prog W .any base t v)
  (I:DataW.Whole enc Tryz.prog Tryz.f3.params.toList Rows.headMoreSpec.vars false W args.toList ds gs before) (L:laidMetH Tryz.prog Rows.headMoreRow.laid W) (hb:Rows.uptoBulkAll (ds++gs)<=1048576):
  Calls Tryz.prog 3 args W fun e W'=> ∃v,e= .returned v/\Rows.headMoreSpec.post enc Tryz.prog Tryz.f3 false true false false W args v W':=by
 have z:=I
 obtain ⟨p,q,A,M,rfl,O,T⟩:=I
 have hA:DataW.TrodAll enc Tryz.prog W 0 (fun _=>true) true Tryz.f3.params.toList args.toList ds p:=A
 rw [Tryz.params3] at hA h
 obtain ⟨v0,Y,d0,ad,p0,q0,B,rfl,rfl,h0,r0⟩:=trodAll_cons hA
 obtain ⟨v1,ao,d1,ax,p1,q1,rfl,rfl,rfl,h1,r1⟩:=trodAll_cons r0
 obtain ⟨v2,az,d2,a6,p2,q2,rfl,rfl,rfl,h2,r2⟩:=trodAll_cons r1
 obtain ⟨v3,a7,d3,a8,p3,q3,rfl,rfl,rfl,h3,r3⟩:=trodAll_cons r2
 obtain ⟨rfl,rfl,rfl⟩:=trodAll_nil r3
 obtain rfl:args= #[v0,v1,v2,v3]:=by cases args;simp_all
 obtain ⟨rfl,rfl⟩:=trodVars_none M
 obtain ⟨o,ho,hh⟩:=akL L
 simp only [arE,Rows.uptoBulkAll,Nat.add_zero] at hb
 obtain ⟨t0,e0,m0⟩:=aEV (o:=o) (g:=gB UU 0 fun _=>0) noN (h 0 22 v0 rfl rfl) h0
 obtain ⟨t1,e1,k1⟩:=ZG (o:=o) (g:=gB UU 0 fun _=>0) noN h1
 obtain ⟨t2,e2,k2⟩:=nO (o:=o) (g:=gB UU 0 fun _=>0) noN (h 2 3 v2 rfl rfl) h2
 obtain ⟨t3,e3,k3⟩:=nO (o:=o) (g:=gB UU 0 fun _=>0) noN (h 3 3 v3 rfl rfl) h3
 have hk:(5000000000:Nat)<=5000000000:=arq _
 generalize bc:(5000000000:Nat)=k at hk
 have E:=agd (k:=k) (by omega) ho (aFb (by omega) m0.1 m0.2 (by omega)) (adj (by omega) k1 (by omega)) k2 k3
 refine (ZW E (adb hh rfl rfl fun j p hj=> ?_)).mono ?_
 ·match j,hj with
  |0,hj=>cases hj;exact e0
  |1,hj=>cases hj;exact e1
  |2,hj=>cases hj;exact e2
  |3,hj=>cases hj;exact e3
  |j+4,hj=>simp at hj
 ·rintro e W' ⟨rfl,x⟩
  refine ⟨_,rfl,ahF rfl rfl (fun t J=> ?_) rfl z x⟩
  rw [Tryz.params3] at J
  have F:t=22\/t=27\/t=3\/t=3:=by simpa using J
  rcases F with rfl|rfl|rfl|rfl<;>exact of_decide_eq_true (by kernel_rfl)
noncomputable def Fb (os:Os):World:=
 {World.holding Tryz.prog os ⟨#[],#[],[]⟩ with heap:=(World.holding Tryz.prog os ⟨#[],#[],[]⟩).heap.modify 0 fun
   | .cells _ t frozen=> .cells (Lib.deBruijn32tab.map fun n:Nat=>Value.int .u8 n).toArray t frozen
   |o=>o}
def alC:Value:= .agg #[.int .i64 0,.int .i64 0,.string alH,.slice none 0 0,.slice none 0 0,.slice none 0 0]
def zeroArgs:Array Value:= #[.slice none 0 0,alC,.int .i64 0,.int .i64 0]
def alA {H:Type}:DataW H:= .agg [.lit (.int .i64 0),.lit (.int .i64 0),.lit (.string []),.nil,.nil,.nil]
theorem af_ (os:Os):laidMet Tryz.prog Rows.headMoreRow.laid ((Fb os).forCall (fun _ _=>0) ⟨#[],zeroArgs,[]⟩).memory:=
 laidMet_of_run' 8 (by kernel_rfl) (by kernel_rfl)
theorem aim (os:Os) {H:Type} (enc:TypeId×Value->H): ∃places,DataW.whole enc Tryz.prog ((Fb os).forCall (fun _ _=>0) ⟨#[],zeroArgs,[]⟩).memory Tryz.f3.params.toList Rows.headMoreSpec.vars false zeroArgs.toList 8=some ([.nil,alA,.lit (.int .i64 0),.lit (.int .i64 0)],[],places):=
 ⟨[],by kernel_rfl⟩
theorem agw (os:Os) (started:os.Started) (H:Type) (enc:TypeId×Value->H) (F:Stop.Interp):
  ReturnsInHanded {} Tryz.checked os 3 .any ((Rows.OpenSpec.upto Rows.headMoreSpec).preRow enc Tryz.prog Tryz.f3 Rows.headMoreUptoRow.domain false Rows.headMoreUptoRow.laid) (((Rows.OpenSpec.upto Rows.headMoreSpec).at F).post enc Tryz.prog Tryz.f3 false true false false):=by
 obtain ⟨places,q⟩:=aim os enc
 refine returnsInHanded_of_row (C:=Tryz.checked) (s:=Rows.OpenSpec.upto Rows.headMoreSpec) own started (by kernel_rfl) Tryz.func3
  (witness_row_at (enc:=enc) (C:=Tryz.checked) false (Fb os) zeroArgs rfl (by kernel_rfl) (by kernel_rfl) (by kernel_rfl)
   (OpenSpec.preRow_of_cond 8 q (by kernel_rfl) (fun k hk=>by cases hk;kernel_rfl) (by kernel_rfl) (af_ os))) ?_
 intro W base args x gs before j z _ h _ A _ _
 exact agc H enc W base args x gs before j z A (of_decide_eq_true (h _ rfl))
theorem aj3:Rows.HeadMoreUptoSaid:=
 OpenClaim.holds_of_cond 3 Tryz.f3 rfl rfl rfl rfl rfl rfl rfl ⟨rfl,rfl,rfl,rfl,rfl⟩ rfl rfl rfl rfl rfl (by as_aux_lemma=>kernel_rfl) Tryz.func3 adt
  (of_decide_eq_true (by as_aux_lemma=>kernel_rfl)) (by unfold Func.isWrapper;first|(rw [if_pos (by decide+kernel)];kernel_rfl)|(rw [if_neg (by decide+kernel)];exact ⟨rfl,rfl⟩))
  (fun os started H enc _ F=>by rw [OpenClaim.pre_eq_preRow];exact agw os started H enc F)
theorem plain (f:FuncId) (fn:Func) (hf:Tryz.pinned.checked.prog.funcNamed "hypercube/hypercubelaw22.HeadMore" =some f) (h:Tryz.pinned.checked.prog.funcs[f]? =some fn):
  true=Tryz.pinned.checked.prog.looks []/\ ∀ (j:Nat) t,fn.params[j]? =some t->Tryz.pinned.checked.prog.wantsStandIn t=false:=by
 obtain rfl:f=3:=Option.some.inj ((show Tryz.prog.funcNamed "hypercube/hypercubelaw22.HeadMore" =some 3 by kernel_rfl).symm.trans hf)|>.symm
 obtain rfl:fn=Tryz.f3:=(Option.some.inj (Tryz.func3.symm.trans h)).symm
 refine ⟨by kernel_rfl,fun j t x=> ?_⟩
 rw [Tryz.params3] at x
 have q:t=22\/t=27\/t=3\/t=3:=by simpa using Array.mem_of_getElem? x
 rcases q with rfl|rfl|rfl|rfl
 ·exact (show Tryz.prog.wantsStandIn 22=false by kernel_rfl)
 ·exact (show Tryz.prog.wantsStandIn 27=false by kernel_rfl)
 ·exact (show Tryz.prog.wantsStandIn 3=false by kernel_rfl)
 ·exact (show Tryz.prog.wantsStandIn 3=false by kernel_rfl)
theorem headMore_holds:Rows.HeadMoreUptoCardSaid:=
 Claim7.holds_tied_plain_at .later [] _ _ _ _ aj3 (fun _ h=>by cases h) (by as_aux_lemma=>kernel_rfl) (fun _ h=>by cases h) headMoreUpto_row_tie rfl ⟨rfl,rfl⟩ (by as_aux_lemma=>kernel_rfl) rfl plain (by as_aux_lemma=>kernel_rfl)
#print axioms headMore_holds
end Go.Proofs.YtgmmefmmnakbpaaGreatDoor
