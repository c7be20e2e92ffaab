/- hypercubelaw24.ConvMore returns true for all definitions, any two terms and any fuel: with more fuel the same is told, and as much more is left; the card with an upper bound of the input's bulk. -/
import Derived.Test.YtfffkmcpnggkdaaGreatDoorX5
import Derived.KernelRfl
open Bool renaming and_eq_true→qk,not_false→sV,not_true→va
open ByteArray renaming empty→pf
open Eq renaming trans→po
open Go.IntKind renaming wrap→ot
open List renaming all_eq_true→xo,append_nil→xS,getElem?_eq_getElem→zj,getElem?_eq_some_iff→De,length→EO,length_append→F6,length_cons→uN,length_eq_zero_iff→Iu,map_cons→Ft,mem_append→xN,mem_cons→xF,mem_map→xl,nil_append→zg
open Nat renaming le_refl→xt,le_trans→bu,mul_le_mul_right→H0
open Option renaming bind→oa,bind_some→ql
set_option linter.unusedVariables false
set_option linter.unusedSimpArgs false
namespace Go.Proofs.YtfffkmcpnggkdaaGreatDoor
set_option maxRecDepth 100000
open Go PI
section
abbrev Wk0 (V D:Int) (t:Tm):Prop:=sL false V D t=true
theorem aJj {V D:Int} {r:LC} {t t':Tm} (hf:Fm t) (z:0<=D) (q:RF r) (hl:dg r D=true) (hs:Wk0 V (D+1) t) (h:zx 0 r t= .ok t'):Wk0 V D t':=by
 unfold zx at h
 obtain ⟨s,A,h⟩:=i8 h
 obtain ⟨x,rfl⟩:=rR A
 refine aoV (c:=D) (kQ x) ?_ t (Int.le_refl 0) z (by omega) hf.ok hf.rows hs h
 exact aot (n:=0) q x (RG ((me q).1 hl) fun j hj=>by
  have:eU 0 1 j=j+1:=by unfold eU;rw [if_neg (by omega)]
  rw [this];omega)
section
variable {n V D kd:Int} {u:Tm}
end
variable {S:Type} {k:Nat}
theorem qF {r:LC} {t y:Tm} (q:Fm t) (x:RF r) (hl:dg r 24=true) (h:zx 0 r t= .ok y):Fm y:=by
 obtain ⟨z,q2,B⟩:=mj q h
 have ha:=(H8 q.2).2.2
 have hs:Wk0 (-1) (24+1) t:=by
  show sL false (-1) (24+1) t=true
  rw [at8 t (d:=24+1) (d':=24) (by decide) (by decide)];exact ha
 have A:=aJj q (by decide) x hl hs h
 refine ⟨z, ?_⟩
 unfold bw
 rw [if_neg (by omega),if_neg (by omega),if_pos A]
theorem aBA {D:Int} (q:0<=D):dg [⟨0,0⟩] D=true:=P' (d:=0) Qz (by decide) q
theorem aBC {D:Int} (q:0<=D):dg [] D=true:=P' (d:=0) rA (by decide) q
theorem aN8 {t y:Tm} (q:Fm t) (h:zx 0 [] t= .ok y):Fm y:=qF q rA (aBC (by decide)) h
theorem aN9 {t y:Tm} (q:Fm t) (h:zx 0 [⟨0,0⟩] t= .ok y):Fm y:=qF q Qz (aBA (by decide)) h
def Nb (c:Cl):Bool:= !(bP (ep c.pos c.neg) 0)
def Md (f:LC):LC×Int:=bp (f.filter Nb)
theorem aGS (hk:Fu k) (I:LC->OS S) {l:LC} (hl:aq l) (hlen:l.length<2147483648):
  ∀ (r p:LC) (m:Nat) (o:LC),l=p++r->r.length<m->o.length+r.length<4294967296->bF k I 0 l m (p.length:Int) o=I (o++r.filter Nb):=by
 intro r
 induction r with
 |nil=>
  intro p m o h A ho
  obtain ⟨m,rfl,q⟩:=py A
  simp only [bF,b4,xw h,n3,List.filter_nil,xS]
 |cons x r B=>
  intro p m o h A ho
  obtain ⟨m,rfl,q⟩:=py A
  obtain ⟨F,J,L,E⟩:=qH h (by omega)
  have z:aX x:=hl x (by rw [h];simp)
  simp only [uN] at ho
  have M:BC (ep x.pos x.neg):=FX z.1 z.2
  simp only [bF,b4,F,ae,J,ql,ag hk,ay3,tS z.1 z.2,rF hk M,L]
  show ab (Nb x) _ _=_
  cases hf:Nb x with
  |true=>
   rw [ae,J5 (by simp;omega),B (p++[x]) m (o++[x]) E q (by rw [F6,List.length_singleton];omega),List.filter_cons_of_pos hf,List.append_assoc];rfl
  |false=>
   rw [n3,B (p++[x]) m o E q (by omega),List.filter_cons_of_neg (by rw [hf];decide)]
theorem aH7 (q:F3 k) {f:LC} (hf:aq f) (x:cV f=true) (hlen:f.length<2147483648) (I:LC×Int->OS S):L1 k f 0 I=I (Md f):=by
 have z:4294968296<=k:=q
 have hk:=q.fu
 have ho:aq (f.filter Nb):=fun c hc=>hf c (List.mem_filter.1 hc).1
 have hl:=List.length_filter_le Nb f
 simp only [L1,ag hk,Hb hk hf hlen,x,va,n3,ai8 hk]
 rw [show (!(decide ((0:Int)<=0/\(0:Int)<24)))=false from by decide,n3]
 simp only [ay4,az7]
 rw [show ((0:Int))=((([]:LC).length:Nat):Int) from rfl]
 refine (aGS hk _ hf hlen f [] k [] rfl (by omega) (by simp;omega)).trans ?_
 rw [zg,kX hk ho (by omega)]
 rfl
theorem aAD {f:LC} (h:RX true f):(Md f).2=0/\RX true (Md f).1/\(∀q:Nat->Prop,vc q f->vc q (Md f).1):=by
 have hs: ∀c∈f.filter Nb,c∈f:=fun c hc=>(List.mem_filter.1 hc).1
 have x:(Md f).2=0:=LH (fun c hc=>h.1.rc (hs c hc)) (by have:=h.1.len;have:=List.length_filter_le Nb f;omega)
 have ho:aq (f.filter Nb):=fun c hc=>h.1.2 c (hs c hc)
 have:=LG ho (fun c hc=>h.2 rfl c (hs c hc)) x
 exact ⟨x,⟨this.1,fun _=>this.2⟩,fun q hl=>jy (azw hl hs)⟩
def K0 (c:Int) (f:LC):LC×Int:=
 if c=0 then ((tE (wD 0 [] (xG (Md f).1 zn zn))).1.r,(tE (wD 0 [] (xG (Md f).1 zn zn))).2) else ([],c)
theorem BE:Q2 zn:=by
 refine ⟨⟨?_, ?_, ?_⟩, ?_⟩
 ·rw [pr,aZ,ba];exact ⟨⟨by unfold aG;omega,by unfold aG;omega,by decide,(fun c hc=>by cases hc),by simp,by simp,by simp⟩,trivial,trivial⟩
 ·rw [au,ay,aI];omega
 ·rw [am,aH,aO];omega
 ·rw [am,aH,aO];omega
theorem aI_ {r:LC} (h:RX true r) (hk:F3 k):In k (xG r zn zn):=by
 have:=MB (G9 h) BE.1 BE.1 (by have:=BE.2;omega) (by have:=BE.2;omega)
 exact this.isIn hk (by omega)
theorem aIt (hk:F3 k) {f:LC} {c:Int} (h:RX true f) (I:LC×Int->OS S):b7 k f c I=I (K0 c f):=by
 simp only [b7,ag hk.fu,dG,ar,rJ]
 unfold K0
 by_cases hc:c=0
 case neg=>rw [dj hc,sV,ae,if_neg hc]
 subst hc
 obtain ⟨a0,a1,_⟩:=aAD h
 have hlen:=(G9 h).2
 have q:cV f=true:=zo.right ⟨h.1,h.2 rfl⟩
 rw [show (!((0:Int)==0))=false from rfl,n3,aH7 hk h.1.2 q (by omega)]
 rw [a0]
 simp only [if_pos]
 rw [show (!((0:Int)==0))=false from rfl,n3]
 simp only [zc,tK]
 have e:Tm.mk 14 0 pf (Md f).1 [Tm.mk 3 0 pf [] [] [],Tm.mk 3 0 pf [] [] []] []=xG (Md f).1 zn zn:=rfl
 rw [e,ap8 hk (aI_ a1 hk) (i:=0) (by decide) rA]
 cases wD 0 [] (xG (Md f).1 zn zn) with
 |error e=>
  show I (ou.r,_)=I (ou.r,e)
  by_cases he:e=0
  ·subst he;rfl
  ·rw [show (tE (.error e)).2=e from rfl,if_neg he]
 |ok y=>rfl
def wq {α β:Type} (F:Int->β->α×Int):Int->List β->List α×Int
 |c,[]=>([],c)
 |c,x::r=>((F c x).1::(wq F (F c x).2 r).1,(wq F (F c x).2 r).2)
theorem Nd {α β:Type} {F:Int->β->α×Int}: ∀ {l:List β} {c:Int},(wq F c l).1.length=l.length:=by
 intro l
 induction l with
 |nil=>intro c;rfl
 |cons x l q=>intro c;rw [wq,uN,uN,q]
theorem Sz {α β:Type} {F:Int->β->α×Int} {Q:α->Prop}: ∀ {l:List β} {c:Int},(∀x∈l,∀c,Q (F c x).1)-> ∀y∈(wq F c l).1,Q y:=by
 intro l
 induction l with
 |nil=>intro c _ y hy;cases hy
 |cons x l q=>
  intro c h y hy
  rw [wq] at hy
  rcases xF.1 hy with rfl|hy
  ·exact h x (by simp) c
  ·exact q (fun x z=>h x (by simp [z])) y hy
theorem hy {α β:Type} {l:List β} {L:Nat->Int->Int->List α->OS S} {F:Int->β->α×Int} {I:List α×Int->OS S}
  (z: ∀ (m:Nat) (c:Int) (acc:List α),acc.length=l.length->L (m+1) c (l.length:Int) acc=I (acc,c))
  (q: ∀ (m:Nat) (c:Int) (x:β) (p r:List β) (acc:List α),l=p++x::r->acc.length=p.length->L (m+1) c (p.length:Int) acc=L m (F c x).2 (((p++[x]).length:Nat):Int) (acc++[(F c x).1])):
  ∀ (r p:List β) (acc:List α) (m:Nat) (c:Int),l=p++r->r.length<m->acc.length=p.length->L m c (p.length:Int) acc=I (acc++(wq F c r).1,(wq F c r).2):=by
 intro r
 induction r with
 |nil=>
  intro p acc m c h B ha
  obtain ⟨m,rfl,A⟩:=py B
  rw [xS] at h
  subst h
  rw [z m c acc ha,wq,xS]
 |cons x r E=>
  intro p acc m c h B ha
  obtain ⟨m,rfl,A⟩:=py B
  rw [q m c x p r acc h ha,E (p++[x]) _ m _ (by rw [h];simp) A (by simp [ha]),wq,List.append_assoc];rfl
def LA:Int->LB->LB×Int
 |c,[]=>([],c)
 |c,x::r=>if (K0 c x.f).1.length=0 then LA (K0 c x.f).2 r else (⟨(K0 c x.f).1,x.c⟩::(LA (K0 c x.f).2 r).1,(LA (K0 c x.f).2 r).2)
theorem aAE {c:Int} {f:LC} (h:RX true f):aq (K0 c f).1/\(K0 c f).1.length<1073741824:=by
 have q:aq ([]:LC)/\([]:LC).length<1073741824:=⟨fun c hc=>(by cases hc),by simp⟩
 unfold K0
 split
 ·have hk:pr (xG (Md f).1 zn zn):=(MB (G9 (aAD h).2.1) BE.1 BE.1 (by have:=BE.2;omega) (by have:=BE.2;omega)).ok
  cases x:wD 0 [] (xG (Md f).1 zn zn) with
  |error e=>exact q
  |ok y=>
   have:=(Se hk x).1.ok.no
   exact ⟨this.2.2.2.1,this.2.2.2.2.1⟩
 ·exact q
theorem aIT: ∀ {l:LB} {c:Int},(LA c l).1.length<=l.length:=by
 intro l
 induction l with
 |nil=>intro c;exact xt _
 |cons x l q=>
  intro c
  rw [LA]
  split
  ·have:=q (c:=(K0 c x.f).2);simp;omega
  ·have:=q (c:=(K0 c x.f).2);simp;omega
def fT (b:Br Tm):Prop:=b.c=[AK b,k1 b]/\Fm (AK b)/\Fm (k1 b)/\aq b.f/\b.f.length<1073741824
theorem aIU: ∀ {l:LB} {c:Int},(∀b∈l,b.c=[AK b,k1 b]/\Fm (AK b)/\Fm (k1 b)/\RX true b.f)-> ∀b∈(LA c l).1,fT b:=by
 intro l
 induction l with
 |nil=>intro c _ b hb;cases hb
 |cons x l q=>
  intro c h b hb
  rw [LA] at hb
  obtain ⟨z,q2,A,B⟩:=h x (by simp)
  split at hb
  ·exact q (fun b hb=>h b (by simp [hb])) b hb
  ·rcases xF.1 hb with rfl|hb
   ·have:=aAE (c:=c) B
    exact ⟨z,q2,A,this.1,this.2⟩
   ·exact q (fun b hb=>h b (by simp [hb])) b hb
def EH (oe:LC) (F:Int->Tm×Int) (c:Int):LB×Int:=
 if oe.length=0 then ([],c) else ([⟨oe,[(F c).1]⟩],(F c).2)
theorem aJa: ∀ {l:LB},(∀b∈l,b.c=[AK b,k1 b])->2*l.length<=aI l:=by
 intro l
 induction l with
 |nil=>simp
 |cons x l q=>
  intro h
  have h1:=q fun b hb=>h b (by simp [hb])
  have h2:=h x (by simp)
  obtain ⟨f,z⟩:=x
  grind [aI,Fq,ay,mB]
theorem o1 {g:Tm} (q:Fm g) (x:g.k=16):g.s.length<=10000:=by
 have h:=aJa fun b hb=>((q.gl x).1 b hb).1
 have:=q.dP
 cases g<;>grind [au,Tm.s]
def GN (x:Tm):Prop:=Fm x/\x.k=16\/x=ou
theorem GN.es (hk:F3 k) {x:Tm} (h:GN x) (I:LB->OS S):SB k x I=I (eh x):=by
 have q:4294968296<=k:=hk
 simp only [SB,ag hk.fu,R',c9]
 rcases h with ⟨h1,h2⟩|rfl
 ·obtain ⟨z,hl,_⟩:=h1.gl h2
  exact l' hk I (fun b hb=>(z b hb).1) hl x.s [] [] k rfl (by omega) (by grind)
 ·exact l' (l:=[]) hk I (fun b hb=>by cases hb) (by simp) [] [] [] k rfl (by grind) (by simp)
theorem GN.un {x a:Tm} (h:GN x) (ha:Fm a):Sm 40002 (Dh a (eh x))/\am (Dh a (eh x))<=201:=by
 have:=ha.dep;have:=ha.dP
 rcases h with ⟨h1,h2⟩|rfl
 ·obtain ⟨q,A,B,E,_,_⟩:=aze h1 h2
  have d:=h1.dep;have z:=h1.dP
  have F:aO x.s+1<=am x:=by cases x<;>grind [am,Tm.s]
  have I:aI x.s+1<=au x:=by cases x<;>grind [au,Tm.s]
  have J:=o1 h1 h2
  have d1:am (Dh a (eh x))<=201:=by grind [am,aH]
  refine ⟨⟨?_, ?_,by omega⟩,d1⟩
  ·rw [pr,aZ,aZ];exact ⟨⟨by unfold aG;omega,by unfold aG;omega,by decide,(fun c hc=>by cases hc),by simp,by simp,by omega⟩,⟨ha.ok,trivial⟩,q⟩
  grind [au,ay]
 ·have d1:am (Dh a (eh ou))<=201:=by rw [am,aH,aH];show max _ (aO [])+1<=_;rw [aO];omega
  refine ⟨⟨?_, ?_,by omega⟩,d1⟩
  ·rw [pr,aZ,aZ];refine ⟨⟨by unfold aG;omega,by unfold aG;omega,by decide,(fun c hc=>by cases hc),by simp,by simp,by simp [eh,ou,Tm.s]⟩,⟨ha.ok,trivial⟩, ?_⟩
   show ba [];rw [ba];trivial
  ·rw [au,ay,ay];show _+aI []<=_;rw [aI];omega
theorem h5 {c:Int} {r:LC} {g:Tm} (q:Fm g) (x:g.k=16) (z:RF r) (hl:dg r 24=true):GN (mM c (wD 0 r g)).1:=by
 unfold mM
 split
 ·cases A:wD 0 r g with
  |error e=>exact .inr rfl
  |ok y=>
   obtain ⟨h1,h2⟩:=Sa q.ok A
   exact .inl ⟨qF q z hl h2,(TZ h2).trans x⟩
 ·exact .inr rfl
def ln (oe:LC) (a:Tm) (c:Int) (b:Br Tm):Br Tm×Int:=
 (⟨b.f,[dS 6 [dS 9 [k1 b],(mM c (FF (AK b) oe a ⟨0,1⟩ [⟨3,0⟩])).1]]⟩,(mM c (FF (AK b) oe a ⟨0,1⟩ [⟨3,0⟩])).2)
def wl (g:Tm):Tm:=g.c.headD ou
structure BegR where
 st:LB
 a1:Tm
 c:Int
def RE (oe:LC) (a a0:Tm) (st:LB) (c:Int):LB×Int:=
 ((EH oe (fun c=>mM c (wA 0 1 a0)) c).1++(wq (ln oe a) (EH oe (fun c=>mM c (wA 0 1 a0)) c).2 st).1,(wq (ln oe a) (EH oe (fun c=>mM c (wA 0 1 a0)) c).2 st).2)
def Mc (g:Tm) (oe:LC) (a a0:Tm) (st:LB) (c:Int):Tm×Int:=
 mM (RE oe a a0 st c).2 (c6 [wl g,a0,J4 (RE oe a a0 st c).1] (dF (wl g) a0 (RE oe a a0 st c).1))
def Sv (g:Tm) (oe:LC) (a:Tm):BegR:=
 let T:=mM 0 (wD 0 [] g)
 let st:=LA T.2 g.s
 let C:=Mc g oe a (Dh a (eh T.1)) st.1 st.2
 ⟨st.1,C.1,C.2⟩
section
variable {oe:LC} {x1 x2:Int} {x3:BA} {x4:LC} {x5:LT} {x6 st0:LB} {y1 y2:Int} {y3:BA} {y4:LC} {y5:LT} {y6:LB} {z1 z2:Int} {z3:BA} {z4:LC} {z5:LT} {z6:LB}
theorem aIz (hk:F3 k) (fa:Fm (Tm.mk x1 x2 x3 x4 x5 x6)) (hp:RX true oe) {st:LB} (hs: ∀b∈st,fT b) (hl:st.length<=10000) (c:Int) (I:LB×Int->OS S):
  iS k st c oe x1 x2 x3 x4 x5 x6 st0 y1 y2 y3 y4 y5 y6 z1 z2 z3 z4 z5 z6 I=I (wq (ln oe (Tm.mk x1 x2 x3 x4 x5 x6)) c st):=by
 have q:4294968296<=k:=hk
 simp only [iS,aAa]
 have:=hy (S:=S) (l:=st) (L:=fun m c i acc=>jd k I oe y2 y3 y4 y5 y6 z1 z2 z3 z4 z5 x1 z6 x2 x3 x4 x5 x6 st0 y1 st m c i acc) (F:=ln oe (Tm.mk x1 x2 x3 x4 x5 x6)) (I:=I)
  (fun m c acc ha=>by
   grind [jd,qE,n3])
  (fun m c x p r acc h ha=>by
   obtain ⟨z,A,B,_⟩:=qH h (by omega)
   have hlen:p.length<st.length:=by grind
   obtain ⟨E,q2,J,M⟩:=hs x (by grind)
   have g0:af x.c 0=some (AK x):=ED (n:=0) rfl (by grind)
   have g1:af x.c 1=some (k1 x):=ED (n:=1) rfl (by grind)
   simp only [jd,qE,z,ae,A,ql,ag hk.fu,ay7,g0,g1,ar,Nk,zc,wm,B]
   rw [aDh hk (q2.isIn hk) (fa.isIn hk) (G9 hp),J5 (by grind)]
   rfl)
  st [] [] k c rfl (by omega) rfl
 grind
theorem aIJ (hk:F3 k) {st:LB} {a0:Tm} (ha:In k a0) (c:Int) (I:LB×Int->OS S):
  jb k c oe x1 x2 x3 x4 x5 x6 st y1 y2 y3 y4 y5 y6 z1 z2 z3 z4 z5 z6 a0 I=I (EH oe (fun c=>mM c (wA 0 1 a0)) c):=by
 simp only [jb,ag hk.fu,ar,jm,wm]
 rw [E8 hk (fun _=>ha) (by omega) (by omega)]
 unfold EH
 by_cases h:oe.length=0<;>simp_all [ae,beq_false_of_ne,n3]
theorem s6 {F:Int->Tm×Int} (hp:RX true oe) {n:Nat} (q: ∀c,Sm n (F c).1/\am (F c).1<=290) (c:Int):cz n (EH oe F c).1/\(EH oe F c).1.length<=1:=by
 grind [EH,Ma,Mv,G9]
theorem aHQ (hk:F3 k) {a:Tm} (fa:Fm a) (hp:RX true oe) {st:LB} (hs: ∀b∈st,fT b) (c:Int):cz 400000 (wq (ln oe a) c st).1:=by
 intro y A
 refine Sz (Q:=fun y=> ∃t,y.c=[t]/\Sm 400000 t/\am t<=299/\aq y.f/\y.f.length<1073741824) (F:=ln oe a) (l:=st) (c:=c) (fun x q c=> ?_) y A
 obtain ⟨L,q2,B,E,I⟩:=hs x q
 have a9:=mb (kd:=9) (by omega) (.inl B)
 have z:Q2 (mM c (FF (AK x) oe a ⟨0,1⟩ [⟨3,0⟩])).1:=LD fun t h=>ayY hk q2.ok fa.ok hp.1 aCx QD h
 have J:=Mx (kd:=6) (by omega) (n:=80001) (ks:=[dS 9 [k1 x],(mM c (FF (AK x) oe a ⟨0,1⟩ [⟨3,0⟩])).1]) (fun x q=>by
  simp at q
  rcases q with rfl|rfl
  ·grind
  ·exact ⟨z.1.mono (by omega),by have:=z.2;omega⟩) (by simp)
 exact ⟨_,rfl,J.1.mono (by omega),by omega,E,I⟩
theorem aAL (hk:F3 k) {a a0:Tm} (fa:Fm a) (q:pr a0) (hp:RX true oe) {st:LB} (hs: ∀b∈st,fT b) (hl:st.length<=10000) (c:Int):In k (J4 (RE oe a a0 st c).1):=by
 have x: ∀c,FN (mM c (wA 0 1 a0)).1:=fun c=>Bl fun t h=>mD (by omega) (IC q h).1 (IC q h).2
 obtain ⟨z,E⟩:=s6 (F:=fun c=>mM c (wA 0 1 a0)) hp (n:=400000) (fun c=>⟨(x c).sm.1.mono (by omega),by have:=(x c).sm.2;omega⟩) c
 have hb:cz 400000 (RE oe a a0 st c).1:=SE z (aHQ hk fa hp hs _)
 obtain ⟨A,B⟩:=qq hb
 refine Jb hk (by omega) A ?_ B
 grind [RE,Nd]
theorem aH2 (hk:F3 k) {g a0:Tm} (B:Fm g) (E:g.k=16) (fa:Fm (Tm.mk x1 x2 x3 x4 x5 x6)) (q:In k a0) (hp:RX true oe) {st:LB} (hs: ∀b∈st,fT b) (hl:st.length<=10000) (c:Int) (I:Int×LB×Int×Int×BA×LC×LT×LB->OS S):
  (jb k c oe x1 x2 x3 x4 x5 x6 st y1 y2 y3 y4 y5 y6 z1 z2 z3 z4 z5 z6 a0 fun r8=>iS k st r8.2 oe x1 x2 x3 x4 x5 x6 st y1 y2 y3 y4 y5 y6 z1 z2 z3 z4 z5 z6 fun r9=>oa (aw 1099511627776 r8.1.length r9.1.length) fun J=>oa (af g.c 0) fun z=>y9 k z a0 (r8.1++r9.1) r9.2 fun Al=>I (Al.2,st,Al.1.k,Al.1.n,Al.1.name,Al.1.r,Al.1.c,Al.1.s))=
   I ((Mc g oe (Tm.mk x1 x2 x3 x4 x5 x6) a0 st c).2,st,(Mc g oe (Tm.mk x1 x2 x3 x4 x5 x6) a0 st c).1.k,(Mc g oe (Tm.mk x1 x2 x3 x4 x5 x6) a0 st c).1.n,(Mc g oe (Tm.mk x1 x2 x3 x4 x5 x6) a0 st c).1.name,(Mc g oe (Tm.mk x1 x2 x3 x4 x5 x6) a0 st c).1.r,(Mc g oe (Tm.mk x1 x2 x3 x4 x5 x6) a0 st c).1.c,(Mc g oe (Tm.mk x1 x2 x3 x4 x5 x6) a0 st c).1.s):=by
 obtain ⟨_,_,b,hb,fb⟩:=B.gl E
 have L:af g.c 0=some b:=ED (n:=0) rfl (by grind)
 have hd:wl g=b:=by grind [wl]
 have M:=(s6 (F:=fun c=>mM c (wA 0 1 a0)) hp (n:=20000) (fun c=>by
  have A:FN (mM c (wA 0 1 a0)).1:=Bl fun t h=>mD (by omega) (IC q.1 h).1 (IC q.1 h).2
  exact ⟨A.sm.1,by have:=A.sm.2;omega⟩) c).2
 rw [aIJ hk q,aIz hk fa hp hs hl,J5 (by rw [Nd];omega),L,ql]
 have x:=aAL hk fa q.1 hp hs hl c
 unfold RE at x
 rw [Rx hk (fun _=>⟨fb.isIn hk,q,x⟩) (fun e h=>BJ (fun e h=>o_ h) h)]
 grind [Mc,RE]
theorem aGJ (hk:F3 k) {g a0:Tm} (B:Fm g) (E:g.k=16) (fa:Fm (Tm.mk x1 x2 x3 x4 x5 x6)) {es:LB} (F:Tm.mk 18 0 pf [] [Tm.mk x1 x2 x3 x4 x5 x6] es=a0) (ia:In k a0) (hp:RX true oe) (I:Int×LB×Int×Int×BA×LC×LT×LB->OS S):
  ∀ (r p st:LB) (m:Nat) (c:Int),g.s=p++r->r.length<m->(∀b∈st,fT b)->st.length+r.length<=10000->
   qo k I oe y2 y3 y4 y5 y6 z1 z2 z3 z4 z5 x1 z6 x2 x3 x4 x5 x6 y1 g (18,0,pf,[Tm.mk x1 x2 x3 x4 x5 x6],es) m c st (p.length:Int)=
    (fun C:Tm×Int=>I (C.2,st++(LA c r).1,C.1.k,C.1.n,C.1.name,C.1.r,C.1.c,C.1.s)) (Mc g oe (Tm.mk x1 x2 x3 x4 x5 x6) a0 (st++(LA c r).1) (LA c r).2):=by
 obtain ⟨J,hl,_⟩:=B.gl E
 intro r
 induction r with
 |nil=>
  intro p st m c h q hs ha
  obtain ⟨m,rfl,z⟩:=py q
  simp only [qo,sW,xw h,n3,ag hk.fu,ar,LA,xS,F]
  simp_all [aH2]
 |cons x r ih=>
  intro p st m c h q hs ha
  obtain ⟨m,rfl,z⟩:=py q
  obtain ⟨L,M,O,e4⟩:=qH h (by omega)
  rw [uN] at ha
  obtain ⟨T,q2,W,A⟩:=J x (by grind)
  simp only [qo,sW,L,ae,M,ql,ag hk.fu,O,wm]
  rw [aIt hk A,LA]
  by_cases Y:(K0 c x.f).1.length=0
  ·grind [decide_eq_false,n3]
  ·rw [if_neg Y,decide_eq_true (by omega),ae,J5 (by grind)]
   have:=aAE (c:=c) A
   have hb:fT ⟨(K0 c x.f).1,x.c⟩:=⟨T,q2,W,this.1,this.2⟩
   grind
theorem aH1 (hk:F3 k) {g:Tm} (q:Fm g) (x:g.k=16) (fa:Fm (Tm.mk x1 x2 x3 x4 x5 x6)) (hp:RX true oe) (I:Int×LB×Int×Int×BA×LC×LT×LB->OS S):
  s3 k g 0 oe x1 x2 x3 x4 x5 x6 y1 y2 y3 y4 y5 y6 z1 z2 z3 z4 z5 z6 I=(fun B:BegR=>I (B.c,B.st,B.a1.k,B.a1.n,B.a1.name,B.a1.r,B.a1.c,B.a1.s)) (Sv g oe (Tm.mk x1 x2 x3 x4 x5 x6)):=by
 have A:4294968296<=k:=hk
 simp only [s3,az_,ag hk.fu,ar]
 rw [SH hk (fun _=>q.isIn hk) hh]
 have z:GN (mM 0 (wD 0 [] g)).1:=h5 q x rA (aBC (by decide))
 rw [z.es hk]
 simp only [Ni,ag hk.fu,JM,ar]
 have hu:=z.un fa
 have E:=hu.1.isIn hk (by omega)
 have hlen:=o1 q x
 refine (aGJ hk q x fa rfl E hp I g.s [] [] k _ rfl (by omega) (fun b hb=>by cases hb) (by grind)).trans ?_
 rfl
end
def azJ (w z:Tm):Tm:=dS 8 [w,dS 12 [z]]
def CP (u w z:Tm):Tm:=fG [⟨1,0⟩] (dS 6 [dS 10 [u],azJ w z]) (dS 9 [u]) (azJ w z)
def L7 (a1 cen x:Tm) (c:Int):Tm×Int:=
 let u:=mM c (wA 0 1 cen)
 let w:=mM u.2 (wA 0 1 x)
 let z:=mM w.2 (wA 0 2 a1)
 (CP u.1 w.1 z.1,z.2)
def RD (e a1:Tm):Tm:=dS 6 [dS 10 [e],a1]
def iB (oe:LC) (a a1 cen:Tm) (c:Int) (b:Br Tm):Br Tm×Int:=
 (⟨b.f,[(L7 a1 cen (xG oe (AK b) a) c).1]⟩,(L7 a1 cen (xG oe (AK b) a) c).2)
def gG (oe:LC) (a a1 cen:Tm) (st:LB) (c:Int):LB×Int:=
 ((EH oe (L7 a1 cen a) c).1++(wq (iB oe a a1 cen) (EH oe (L7 a1 cen a) c).2 st).1,(wq (iB oe a a1 cen) (EH oe (L7 a1 cen a) c).2 st).2)
def k3 (oe:LC) (a a1 t1:Tm) (st:LB) (t e:Tm) (c:Int):Tm×Int:=
 let f:=mM c (c6 [t,t1,dS 9 [e],a1] (L8 t t1 (dS 9 [e]) a1))
 let s:=gG oe a a1 (RD e a1) st f.2
 (.mk 15 0 pf [] [f.1,dS 9 [RD e a1]] s.1,s.2)
theorem IF {kd:Int} (q:0<=kd/\kd<=28) {n m d:Nat} {x y:Tm} (A:Sm n x/\am x<=d) (B:Sm m y/\am y<=d) (hd:d<=290):Sm (n+m+1) (dS kd [x,y])/\am (dS kd [x,y])<=d+1:=by
 unfold dS
 refine ⟨(Hn (kd:=kd) q (r:=[]) ⟨(fun c hc=>by cases hc),by simp⟩ (ks:=[x,y]) (sys:=[]) (n:=n+m) (m:=0) (fun z E=>by
  simp at E
  rcases E with rfl|rfl
  ·exact ⟨A.1.ok,by omega⟩
  ·exact ⟨B.1.ok,by omega⟩) (by simp) (by rw [ay,ay,ay];have:=A.1.dP;have:=B.1.dP;omega) (by rw [ba];trivial) (by simp) (by rw [aO];omega) (by rw [aI];omega)).mono (by omega), ?_⟩
 grind [am,aH,aO]
theorem Mg {kd:Int} (q:0<=kd/\kd<=28) {n d:Nat} {x:Tm} (A:Sm n x/\am x<=d) (hd:d<=290):Sm (n+1) (dS kd [x])/\am (dS kd [x])<=d+1:=by
 unfold dS
 refine ⟨(Hn (kd:=kd) q (r:=[]) ⟨(fun c hc=>by cases hc),by simp⟩ (ks:=[x]) (sys:=[]) (n:=n) (m:=0) (fun z B=>by
  simp at B;subst B
  exact ⟨A.1.ok,by omega⟩) (by simp) (by rw [ay,ay];have:=A.1.dP;omega) (by rw [ba];trivial) (by simp) (by rw [aO];omega) (by rw [aI];omega)).mono (by omega), ?_⟩
 grind [am,aH,aO]
theorem azY {r:LC} (F:aq r/\r.length<1073741824) {n m j d:Nat} {x y z:Tm} (q:Sm n x/\am x<=d) (A:Sm m y/\am y<=d) (B:Sm j z/\am z<=d) (hd:d<=290):Sm (n+m+j+1) (fG r x y z)/\am (fG r x y z)<=d+1:=by
 refine ⟨(Hn (kd:=13) (by omega) F (ks:=[x,y,z]) (sys:=[]) (n:=n+m+j) (m:=0) (fun w E=>by
  simp at E
  rcases E with rfl|rfl|rfl
  ·exact ⟨q.1.ok,by omega⟩
  ·exact ⟨A.1.ok,by omega⟩
  ·exact ⟨B.1.ok,by omega⟩) (by simp) (by rw [ay,ay,ay,ay];have:=q.1.dP;have:=A.1.dP;have:=B.1.dP;omega) (by rw [ba];trivial) (by simp) (by rw [aO];omega) (by rw [aI];omega)).mono (by omega), ?_⟩
 grind [am,aH,aO]
theorem Fs {c a b:Int} (ha:0<=a/\a<=1000) (hb:0<=b/\b<=1000) {t:Tm} (q:pr t):FN (mM c (wA a b t)).1:=Bl fun t h=>mD (by omega) (IC q h).1 (IC q h).2
theorem aHd {u w z:Tm} (hu:FN u) (A:FN w) (E:FN z):Sm 200000 (CP u w z)/\am (CP u w z)<=210:=by
 have q:=Mg (kd:=12) (by omega) E.sm (by omega)
 have B:=IF (kd:=8) (by omega) (d:=201) ⟨A.sm.1,by have:=A.sm.2;omega⟩ q (by omega)
 have x:=Mg (kd:=10) (by omega) hu.sm (by omega)
 have F:=Mg (kd:=9) (by omega) hu.sm (by omega)
 have I:=IF (kd:=6) (by omega) (d:=202) ⟨x.1,by omega⟩ ⟨B.1,by omega⟩ (by omega)
 have:=azY (Mz (a:=1) (b:=0) (by omega) (by omega)) (d:=203) ⟨I.1,by omega⟩ ⟨F.1,by omega⟩ ⟨B.1,by omega⟩ (by omega)
 exact ⟨this.1.mono (by omega),by grind [CP,azJ]⟩
theorem aCB {a1 cen x:Tm} {c:Int} (h1:pr a1) (h2:pr cen) (q:pr x):Sm 200000 (L7 a1 cen x c).1/\am (L7 a1 cen x c).1<=210:=
 aHd (Fs (by omega) (by omega) h2) (Fs (by omega) (by omega) q) (Fs (by omega) (by omega) h1)
theorem ay1 {e a1:Tm} (he:FN e) (h1:FN a1):Sm 40002 (RD e a1)/\am (RD e a1)<=202:=by
 have q:=Mg (kd:=10) (by omega) he.sm (by omega)
 have:=IF (kd:=6) (by omega) (d:=201) ⟨q.1,by omega⟩ ⟨h1.sm.1,by have:=h1.sm.2;omega⟩ (by omega)
 grind [RD]
section
variable {oe:LC} {x1 x2:Int} {x3:BA} {x4:LC} {x5:LT} {x6 st0:LB} {y1 y2:Int} {y3:BA} {y4:LC} {y5:LT} {y6:LB} {z1 z2:Int} {z3:BA} {z4:LC} {z5:LT} {z6:LB}
theorem aDc (hk:F3 k) {x cen:Tm} (i1:In k (Tm.mk y1 y2 y3 y4 y5 y6)) (i2:In k cen) (i3:In k x) (c:Int) (I:Int×Int×BA×LC×LT×Int->OS S):
  ∃ks,qv k x cen c oe x1 x2 x3 x4 x5 x6 st0 y1 y2 y3 y4 y5 y6 z1 z2 z3 z4 z5 z6 I=I (13,0,pf,[⟨1,0⟩],ks,(L7 (Tm.mk y1 y2 y3 y4 y5 y6) cen x c).2)/\Tm.mk 13 0 pf [⟨1,0⟩] ks []=(L7 (Tm.mk y1 y2 y3 y4 y5 y6) cen x c).1:=by
 refine ⟨_, ?_,rfl⟩
 simp only [qv,ag hk.fu,ar,zc,tO]
 rw [E8 hk (fun _=>i2) (by omega) (by omega),E8 hk (fun _=>i3) (by omega) (by omega),E8 hk (fun _=>i1) (by omega) (by omega)]
 rfl
theorem aIK (hk:F3 k) {cen:Tm} (i1:In k (Tm.mk y1 y2 y3 y4 y5 y6)) (i2:In k cen) (i3:In k (Tm.mk x1 x2 x3 x4 x5 x6)) (c:Int) (I:LB×Int->OS S):
  r4 k c oe x1 x2 x3 x4 x5 x6 st0 y1 y2 y3 y4 y5 y6 z1 z2 z3 z4 z5 z6 cen I=I (EH oe (L7 (Tm.mk y1 y2 y3 y4 y5 y6) cen (Tm.mk x1 x2 x3 x4 x5 x6)) c):=by
 simp only [r4,ag hk.fu,ar,kq,wm]
 obtain ⟨q,h1,h2⟩:=aDc (oe:=oe) (x1:=x1) (x2:=x2) (x3:=x3) (x4:=x4) (x5:=x5) (x6:=x6) (st0:=st0) (z1:=z1) (z2:=z2) (z3:=z3) (z4:=z4) (z5:=z5) (z6:=z6) hk i1 i2 i3 c (fun r1=>I ([⟨oe,[Tm.mk r1.1 r1.2.1 r1.2.2.1 r1.2.2.2.1 r1.2.2.2.2.1 []]⟩],r1.2.2.2.2.2))
 rw [h1]
 dsimp only
 rw [h2]
 unfold EH
 by_cases h:oe.length=0<;>simp_all [ae,beq_false_of_ne,n3]
theorem aIc (hk:F3 k) {cen:Tm} (i1:In k (Tm.mk y1 y2 y3 y4 y5 y6)) (i2:In k cen) (fa:Fm (Tm.mk x1 x2 x3 x4 x5 x6)) (hp:RX true oe) {st:LB} (hs: ∀b∈st,fT b) (hl:st.length<=10000) (c:Int) (I:LB×Int->OS S):
  Fk k st cen c oe x1 x2 x3 x4 x5 x6 st0 y1 y2 y3 y4 y5 y6 z1 z2 z3 z4 z5 z6 I=I (wq (iB oe (Tm.mk x1 x2 x3 x4 x5 x6) (Tm.mk y1 y2 y3 y4 y5 y6) cen) c st):=by
 have A:4294968296<=k:=hk
 simp only [Fk,ao]
 have:=hy (S:=S) (l:=st) (L:=fun m c i acc=>Sn k I cen oe y2 y3 y4 y5 y6 z1 z2 z3 z4 z5 x1 z6 x2 x3 x4 x5 x6 st0 y1 st m c i acc) (F:=iB oe (Tm.mk x1 x2 x3 x4 x5 x6) (Tm.mk y1 y2 y3 y4 y5 y6) cen) (I:=I)
  (fun m c acc ha=>by
   grind [Sn,te,n3])
  (fun m c x p r acc h ha=>by
   obtain ⟨B,E,J,_⟩:=qH h (by omega)
   have hlen:p.length<st.length:=by grind
   obtain ⟨O,q2,T,W⟩:=hs x (by grind)
   have g0:af x.c 0=some (AK x):=ED (n:=0) rfl (by grind)
   have z:=(MB (G9 hp) q2.sm fa.sm (by have:=q2.dep;omega) (by have:=fa.dep;omega)).isIn hk (by omega)
   simp only [Sn,te,B,ae,E,ql,ag hk.fu,ay8,g0,ar,tO,wm,J]
   obtain ⟨Y,h1,h2⟩:=aDc (oe:=oe) (x1:=x1) (x2:=x2) (x3:=x3) (x4:=x4) (x5:=x5) (x6:=x6) (st0:=st0) (z1:=z1) (z2:=z2) (z3:=z3) (z4:=z4) (z5:=z5) (z6:=z6) hk i1 i2 z c (fun q=>oa (aw 1099511627776 acc.length [(⟨x.f,[Tm.mk q.1 q.2.1 q.2.2.1 q.2.2.2.1 q.2.2.2.2.1 []]⟩:Br Tm)].length) fun M=>Sn k I cen oe y2 y3 y4 y5 y6 z1 z2 z3 z4 z5 x1 z6 x2 x3 x4 x5 x6 st0 y1 st m q.2.2.2.2.2 (((p++[x]).length:Nat):Int) (acc++[⟨x.f,[Tm.mk q.1 q.2.1 q.2.2.1 q.2.2.2.1 q.2.2.2.2.1 []]⟩]))
   refine po ?_ (h1.trans ?_)
   ·rfl
   dsimp only
   rw [J5 (by grind),h2]
   rfl)
  st [] [] k c rfl (by omega) rfl
 grind
end
theorem aA6 {a a1 cen:Tm} (fa:Fm a) (h1:pr a1) (h2:pr cen) {oe:LC} (hp:RX true oe) {st:LB} (hs: ∀b∈st,fT b) (c:Int):cz 200000 (gG oe a a1 cen st c).1/\(gG oe a a1 cen st c).1.length<=st.length+1:=by
 obtain ⟨z,J⟩:=s6 (F:=L7 a1 cen a) hp (n:=200000) (fun c=>by
  have:=aCB (c:=c) h1 h2 fa.ok
  exact ⟨this.1,by have:=this.2;omega⟩) c
 refine ⟨SE z ?_, ?_⟩
 ·intro y A
  refine Sz (Q:=fun y=> ∃t,y.c=[t]/\Sm 200000 t/\am t<=299/\aq y.f/\y.f.length<1073741824) (F:=iB oe a a1 cen) (l:=st) (c:=(EH oe (L7 a1 cen a) c).2) (fun x B c=> ?_) y A
  obtain ⟨L,q2,M,E,I⟩:=hs x B
  have q:=(MB (G9 hp) q2.sm fa.sm (by have:=q2.dep;omega) (by have:=fa.dep;omega)).ok
  have:=aCB (c:=c) h1 h2 q
  exact ⟨_,rfl,this.1,by have:=this.2;omega,E,I⟩
 ·unfold gG
  rw [F6,Nd];omega
theorem aF0 (hk:F3 k) {oe:LC} {a a1 t1 t e:Tm} {st:LB} {c:Int} (fa:Fm a) (f1:FN a1) (x:FN t1) (ft:Fm t) (z:Fm e) (hp:RX true oe) (hs: ∀b∈st,fT b) (hl:st.length<=10000):
  FN (mM c (c6 [t,t1,dS 9 [e],a1] (L8 t t1 (dS 9 [e]) a1))).1->Sm 50000000000 (k3 oe a a1 t1 st t e c).1/\am (k3 oe a a1 t1 st t e c).1<=300:=by
 intro hf
 have hc:=ay1 (.inl z) f1
 have q:=Mg (kd:=9) (by omega) hc (by omega)
 obtain ⟨A,B⟩:=aA6 (st:=st) (cen:=RD e a1) fa f1.sm.1.ok hc.1.ok hp hs (mM c (c6 [t,t1,dS 9 [e],a1] (L8 t t1 (dS 9 [e]) a1))).2
 have:=u1 (n:=50000) (m:=200000) (hf.sm.1.mono (by omega)) (q.1.mono (by omega)) (by have:=hf.sm.2;omega) (by have:=q.2;omega) (by omega) A (by omega) (by omega)
 exact ⟨this,this.dep⟩
section
variable {oe:LC} {x1 x2:Int} {x3:BA} {x4:LC} {x5:LT} {x6 st0:LB} {y1 y2:Int} {y3:BA} {y4:LC} {y5:LT} {y6:LB} {z1 z2:Int} {z3:BA} {z4:LC} {z5:LT} {z6:LB}
theorem aIw (hk:F3 k) {t a f y:Tm} {c:Int} (q:In k t) (ha:In k a) (hf:In k f) (x:In k y) (I:Tm×Int->OS S):b2 k t a f y c I=I (mM c (c6 [t,a,f,y] (L8 t a f y))):=by
 simp only [b2,ag hk.fu,dG,ar,rJ]
 exact Az c (fun h g=>aHT hk q ha hf x g) (fun e h=>BJ (fun e h=>aFT h) h) I
theorem aH_ (hk:F3 k) {t e:Tm} (ft:Fm t) (q:Fm e) (fa:Fm (Tm.mk x1 x2 x3 x4 x5 x6)) (f1:FN (Tm.mk y1 y2 y3 y4 y5 y6)) (x:FN (Tm.mk z1 z2 z3 z4 z5 z6)) (hp:RX true oe) {st:LB} (hs: ∀b∈st,fT b) (hl:st.length<=10000) (c:Int) (I:Int×Int×BA×LT×LB×Int->OS S):
  j' k t e c oe x1 x2 x3 x4 x5 x6 st y1 y2 y3 y4 y5 y6 z1 z2 z3 z4 z5 z6 I=(fun F:Tm×Int=>I (15,0,pf,F.1.c,F.1.s,F.2)) (k3 oe (Tm.mk x1 x2 x3 x4 x5 x6) (Tm.mk y1 y2 y3 y4 y5 y6) (Tm.mk z1 z2 z3 z4 z5 z6) st t e c):=by
 have i1:=f1.sm.1.isIn hk (by omega)
 have i2:=(ay1 (.inl q) f1).1.isIn hk (by omega)
 have i9:=(Mg (kd:=9) (by omega) (FN.sm (.inl q)) (by omega)).1.isIn hk (by omega)
 simp only [j',ag hk.fu,ar,zc,Nk,JM]
 have z:Tm.mk 9 0 pf [] [e] []=dS 9 [e]:=rfl
 have A:Tm.mk 6 0 pf [] [Tm.mk 10 0 pf [] [e] [],Tm.mk y1 y2 y3 y4 y5 y6] []=RD e (Tm.mk y1 y2 y3 y4 y5 y6):=rfl
 rw [z,A,aIw hk (ft.isIn hk) (x.sm.1.isIn hk (by omega)) i9 i1,aIK hk i1 i2 (fa.isIn hk),aIc hk i1 i2 fa hp hs hl]
 have hb:=(aA6 (st:=st) (cen:=RD e (Tm.mk y1 y2 y3 y4 y5 y6)) (a1:=Tm.mk y1 y2 y3 y4 y5 y6) fa f1.sm.1.ok (ay1 (.inl q) f1).1.ok hp hs (mM c (c6 [t,Tm.mk z1 z2 z3 z4 z5 z6,dS 9 [e],Tm.mk y1 y2 y3 y4 y5 y6] (L8 t (Tm.mk z1 z2 z3 z4 z5 z6) (dS 9 [e]) (Tm.mk y1 y2 y3 y4 y5 y6)))).2).2
 unfold gG at hb
 rw [F6] at hb
 rw [J5 (by omega)]
 rfl
end
theorem r2 (hk:F3 k) {t:Tm} {c:Int} (q:pr t) (hd:am t<=400) (I:Tm×Bool×Int×Int->OS S):ly k t c I=I ((dM c t).1,(dM c t).2==0,(dM c t).2,(dM c t).2):=by
 have h2:Fd k (am t):=hk.fd (by omega)
 simp only [ly,ag hk.fu,dG,ar,rJ,Ah q h2 (by omega)]
 have:pr (dM c t).1/\Fd k (am (dM c t).1):=by
  unfold dM
  split
  ·split
   ·grind
   ·exact ⟨(gQ hk).1,(gQ hk).2.1⟩
  ·exact ⟨(gQ hk).1,(gQ hk).2.1⟩
 grind [vU,dM]
def ky (oe:LC) (a a1 t1:Tm) (st:LB) (c:Int) (b:Br Tm):Tm×Int:=k3 oe a a1 t1 st (AK b) (k1 b) c
def MT (a1:Tm) (c:Int) (q:Br Tm×Tm):Br Tm×Int:=
 let x:=mM c (wA 0 1 q.2)
 let z:=mM x.2 (wA 0 1 a1)
 let e:=mM z.2 (wA 0 1 (k1 q.1))
 (⟨q.1.f,[fG [⟨1,0⟩] (dS 10 [x.1]) z.1 (dS 6 [dS 9 [e.1],dS 9 [x.1]])]⟩,e.2)
def ib (q:Br Tm×Tm):Br Tm:=⟨q.1.f,[dS 9 [q.2]]⟩
def Ib (l:LT):Tm:=match l with
 |[x]=>x
 |_=>ou
theorem aFU (hk:F3 k) {t a f y:Tm} (A:In k t) (ha:In k a) (hf:In k f) (B:In k y) (c:Int):FN (mM c (c6 [t,a,f,y] (L8 t a f y))).1:=Bl fun z h=>by
 obtain ⟨so,ff,q⟩:=BI h
 have:=Sg (l:=[t,a,f,y]) (fun x q=>by
  simp at q
  rcases q with rfl|rfl|rfl|rfl
  ·exact A.1
  ·exact ha.1
  ·exact hf.1
  ·exact B.1) so
 exact ⟨((aA5 (by omega) (by omega) (this t (by simp)).f2 (this a (by simp)).f2 (this f (by simp)).f2 (this y (by simp)).f2 q).isIn hk (by omega) (by omega)).1,ff⟩
section
variable {oe:LC} {x1 x2:Int} {x3:BA} {x4:LC} {x5:LT} {x6 st:LB} {y1 y2:Int} {y3:BA} {y4:LC} {y5:LT} {y6:LB} {z1 z2:Int} {z3:BA} {z4:LC} {z5:LT} {z6:LB}
def GB (l:LB):Prop:= ∀b∈l,b.c=[AK b,k1 b]/\Fm (AK b)/\Fm (k1 b)/\RX true b.f
theorem aDv (hk:F3 k) {a a1 t1:Tm} (fa:Fm a) (f1:FN a1) (q:FN t1) (hp:RX true oe) (hs: ∀b∈st,fT b) (hl:st.length<=10000) {l:LB} (z:GB l) {c:Int}: ∀w∈(wq (ky oe a a1 t1 st) c l).1,Sm 50000000000 w/\am w<=300:=
 Sz fun b hb c=>by
  obtain ⟨A,q2,x,B⟩:=z b hb
  exact aF0 hk fa f1 q q2 x hp hs hl (aFU hk (q2.isIn hk) (q.sm.1.isIn hk (by omega)) ((Mg (kd:=9) (by omega) (FN.sm (.inl x)) (by omega)).1.isIn hk (by omega)) (f1.sm.1.isIn hk (by omega)) _)
theorem aIO (hk:F3 k) (fa:Fm (Tm.mk x1 x2 x3 x4 x5 x6)) (f1:FN (Tm.mk y1 y2 y3 y4 y5 y6)) (q:FN (Tm.mk z1 z2 z3 z4 z5 z6)) (hp:RX true oe) (hs: ∀b∈st,fT b) (hl:st.length<=10000) {l:LB} (z:GB l) (A:l.length<=10000) (c:Int) (I:LT×Int->OS S):
  iu k l c oe x1 x2 x3 x4 x5 x6 st y1 y2 y3 y4 y5 y6 z1 z2 z3 z4 z5 z6 I=I (wq (ky oe (Tm.mk x1 x2 x3 x4 x5 x6) (Tm.mk y1 y2 y3 y4 y5 y6) (Tm.mk z1 z2 z3 z4 z5 z6) st) c l):=by
 have B:4294968296<=k:=hk
 simp only [iu,aAc]
 have:=hy (S:=S) (l:=l) (L:=fun m c i acc=>xr k I oe y2 y3 y4 y5 y6 z1 z2 z3 z4 z5 x1 z6 x2 x3 x4 x5 x6 st y1 l m c i acc) (F:=ky oe (Tm.mk x1 x2 x3 x4 x5 x6) (Tm.mk y1 y2 y3 y4 y5 y6) (Tm.mk z1 z2 z3 z4 z5 z6) st) (I:=I)
  (fun m c acc ha=>by
   grind [xr,b3,n3])
  (fun m c x p r acc h ha=>by
   obtain ⟨E,J,M,_⟩:=qH h (by omega)
   have hlen:p.length<l.length:=by grind
   obtain ⟨T,q2,O,W⟩:=z x (by grind)
   have g0:af x.c 0=some (AK x):=ED (n:=0) rfl (by grind)
   have g1:af x.c 1=some (k1 x):=ED (n:=1) rfl (by grind)
   simp only [xr,b3,E,ae,J,ql,ag hk.fu,ay5,g0,g1,ar,M]
   rw [aH_ hk q2 O fa f1 q hp hs hl]
   dsimp only
   rw [J5 (by grind)]
   rfl)
  l [] [] k c rfl (by omega) rfl
 grind
theorem aIL (hk:F3 k) (i1:In k (Tm.mk y1 y2 y3 y4 y5 y6)) (c:Int) (I:LB×Int->OS S):
  lz k c oe x1 x2 x3 x4 x5 x6 st y1 y2 y3 y4 y5 y6 z1 z2 z3 z4 z5 z6 I=I (EH oe (fun c=>mM c (wA 0 1 (Tm.mk y1 y2 y3 y4 y5 y6))) c):=by
 simp only [lz,ag hk.fu,ar,k',wm]
 rw [E8 hk (fun _=>i1) (by omega) (by omega)]
 unfold EH
 by_cases h:oe.length=0<;>simp_all [ae,beq_false_of_ne,n3]
end
def W2 (oe:LC) (g a:Tm):Tm×Int:=
 let B:=Sv g oe a
 let G:=mM B.c (wD 0 [⟨0,0⟩] g)
 let t1:=Ib G.1.c
 let ws:=wq (ky oe a B.a1 t1 B.st) G.2 G.1.s
 let W:=EH oe (fun c=>mM c (wA 0 1 B.a1)) ws.2
 let Z:=wq (MT B.a1) W.2 (G.1.s.zip ws.1)
 (.mk 17 0 pf [] [.mk 15 0 pf [] [t1,B.a1] (W.1++Z.1)] ((G.1.s.zip ws.1).map ib),Z.2)
def fR (t:Tm):Tm×Bool×Int:=
 if bw t≠0 then (ou,false,bw t) else
 if t.k=14/\(t.c.getD 0 ou).k=16 then
  (fun q:Tm×Int=>((dM q.2 q.1).1,(dM q.2 q.1).2==0,(dM q.2 q.1).2)) (W2 t.r (t.c.getD 0 ou) (t.c.getD 1 ou))
 else (ou,false,0)
theorem aAK (hk:F3 k) {g a:Tm} {oe:LC} (q:Fm g) (x:g.k=16) (fa:Fm a) (hp:RX true oe):FN (Sv g oe a).a1/\(∀b∈(Sv g oe a).st,fT b)/\(Sv g oe a).st.length<=10000:=by
 obtain ⟨A,_,b,hb,fb⟩:=q.gl x
 have hlen:=o1 q x
 have B:GN (mM 0 (wD 0 [] g)).1:=h5 q x rA (aBC (by decide))
 have hs:=aIU (l:=g.s) (c:=(mM 0 (wD 0 [] g)).2) A
 have hl:=aIT (l:=g.s) (c:=(mM 0 (wD 0 [] g)).2)
 have hd:wl g=b:=by grind [wl]
 have z:=(B.un fa).1.isIn hk (by omega)
 refine ⟨?_,hs,bu hl hlen⟩
 show FN (Mc g oe a _ _ _).1
 unfold Mc
 rw [hd]
 exact azg hk (fb.isIn hk) z (aAL hk fa z.1 hp hs (bu hl hlen) _) _
theorem aBc {x:Tm} (h:GN x):FN (Ib x.c)/\GB x.s/\x.s.length<=10000/\(x.c.length=1/\x.c=[Ib x.c]\/x.c.length=0/\Ib x.c=ou):=by
 rcases h with ⟨h1,h2⟩|rfl
 ·obtain ⟨q,_,b,hb,fb⟩:=h1.gl h2
  rw [hb]
  exact ⟨.inl fb,q,o1 h1 h2,.inl ⟨rfl,rfl⟩⟩
 ·exact ⟨.inr rfl,(fun b hb=>by cases hb),by simp [ou,Tm.s],.inr ⟨rfl,rfl⟩⟩
section
variable {z1 z2:Int} {z3:BA} {z4:LC} {z5:LT} {z6:LB}
theorem aGR (hk:F3 k) (I:Tm×Bool×Int->OS S) {r3 x4:Tm} {r6:Int×LB×Int×Int×BA×LC×LT×LB} {r8:Tm×Int} {a1:Tm} (L:Tm.mk r6.2.2.1 r6.2.2.2.1 r6.2.2.2.2.1 r6.2.2.2.2.2.1 r6.2.2.2.2.2.2.1 r6.2.2.2.2.2.2.2=a1) (o1:pr a1) (i1:In k a1) (M:GB r8.1.s) (O:r8.1.s.length<=10000) {ws:LT} (T: ∀w∈ws,In k w) (W:ws.length=r8.1.s.length) {END:LB->LB->Int->OS S}
  (J: ∀ (m:Nat) (c:Int) (q sy:LB),Q7 k I r3 r6 x4 r8 (m+1) c z1 z2 z3 z4 z5 z6 q (r8.1.s.length:Int) ws sy=END q sy c):
  ∀ (r p:LB) (rw A:LT) (q sy:LB) (m:Nat) (c:Int),r8.1.s=p++r->ws=A++rw->A.length=p.length->r.length<m->q.length=p.length->sy.length<=p.length+1->
   Q7 k I r3 r6 x4 r8 m c z1 z2 z3 z4 z5 z6 q (p.length:Int) ws sy=END (q++(r.zip rw).map ib) (sy++(wq (MT a1) c (r.zip rw)).1) (wq (MT a1) c (r.zip rw)).2:=by
 intro r
 induction r with
 |nil=>
  grind [py,List.zip_nil_left,wq]
 |cons x r Y=>
  intro p z A q sy m c h h' B hm ad ao
  obtain ⟨m,rfl,E⟩:=py hm
  obtain ⟨F,e2,e3,e4⟩:=qH h (by omega)
  have hlen:p.length<r8.1.s.length:=by grind
  cases z with
  |nil=>grind
  |cons w z=>
  have gw:af ws (p.length:Int)=some w:=by
   rw [h',<-B]
   exact ED (n:=A.length) rfl (by simp)
  obtain ⟨q1,q2,q3,q4⟩:=M x (by grind)
  have g1:af x.c 1=some (k1 x):=ED (n:=1) rfl (by grind)
  have iw:=T w (by grind)
  simp only [Q7,ed,F,ae,e2,ql,gw,ag hk.fu,ar,L,g1,Nk,zc,tO,wm,e3]
  rw [E8 hk (fun _=>iw) (by omega) (by omega),E8 hk (fun _=>i1) (by omega) (by omega),E8 hk (fun _=>q3.isIn hk) (by omega) (by omega),J5 (by grind),J5 (by grind)]
  refine po (Y (p++[x]) z (A++[w]) _ _ m _ e4 (by grind) (by simp_all) E (by simp_all) (by grind)) ?_
  rw [List.zip_cons_cons,Ft,wq,List.append_assoc,List.append_assoc]
  rfl
end
theorem r5 {n:Nat}: ∀ {l:LB},(∀x∈l,∃t,x.c=[t]/\pr t/\am t<=n/\aq x.f/\x.f.length<1073741824)->ba l/\aO l<=n+2:=by
 intro l
 induction l with
 |nil=>grind [ba,aO]
 |cons x l q=>
  intro h
  obtain ⟨h1,h2⟩:=q fun y z=>h y (by simp [z])
  obtain ⟨t,A,q2,B,E,F⟩:=h x (by simp)
  obtain ⟨f,I⟩:=x
  grind [ba,Fa,aZ,aO,Ez,aH]
theorem aA7 {a1:Tm} (A:pr a1) {q:Br Tm×Tm} (B:pr q.2) (E:pr (k1 q.1)) (hf:aq q.1.f/\q.1.f.length<1073741824) (c:Int):
  ∃t,(MT a1 c q).1.c=[t]/\pr t/\am t<=299/\aq (MT a1 c q).1.f/\(MT a1 c q).1.f.length<1073741824:=by
 have fx:=Fs (c:=c) (a:=0) (b:=1) (by omega) (by omega) B
 have fl:=Fs (c:=(mM c (wA 0 1 q.2)).2) (a:=0) (b:=1) (by omega) (by omega) A
 have F:=Fs (c:=(mM (mM c (wA 0 1 q.2)).2 (wA 0 1 a1)).2) (a:=0) (b:=1) (by omega) (by omega) E
 have x:=Mg (kd:=10) (by omega) fx.sm (by omega)
 have I:=Mg (kd:=9) (by omega) fx.sm (by omega)
 have z:=Mg (kd:=9) (by omega) F.sm (by omega)
 have J:=IF (kd:=6) (by omega) (d:=201) z I (by omega)
 have:=azY (Mz (a:=1) (b:=0) (by omega) (by omega)) (d:=202) ⟨x.1,by omega⟩ ⟨fl.sm.1,by have:=fl.sm.2;omega⟩ ⟨J.1,by omega⟩ (by omega)
 exact ⟨_,rfl,this.1.ok,by omega,hf.1,hf.2⟩
theorem pj (a b:Int) (c:BA) (d:LC) (e:LT) (f:LB):(Tm.mk a b c d e f).k=a/\(Tm.mk a b c d e f).n=b/\(Tm.mk a b c d e f).name=c/\(Tm.mk a b c d e f).r=d/\(Tm.mk a b c d e f).c=e/\(Tm.mk a b c d e f).s=f:=⟨rfl,rfl,rfl,rfl,rfl,rfl⟩
theorem aIe (hk:F3 k) {t:Tm} (T:In k t) (I:Tm×Bool×Int->OS S):o5 k t I=I (fR t):=by
 have a8:4294968296<=k:=hk
 simp only [o5,az9,ag hk.fu,ar,Ah T.1 T.2.1 T.dep]
 unfold fR
 by_cases h0:bw t=0
 case neg=>rw [dj h0,sV,ae,if_pos h0];rfl
 rw [h0,show (!((0:Int)==0))=false from rfl,n3,if_neg (by simp)]
 have ft:Fm t:=⟨T.1,h0⟩
 by_cases E:t.k=14
 case neg=>rw [beq_false_of_ne E,sV,ae,if_neg (fun h=>E h.1)];rfl
 rw [E,show (!((14:Int)==14))=false from rfl,n3]
 obtain ⟨g,a,ad⟩:=I8 (E5 ft E (n:=2) rfl)
 obtain ⟨g0,g1⟩:=KQ ad
 obtain ⟨d0,d1⟩:=EC ad
 have fg:Fm g:=ft.bU (by grind)
 have fa:Fm a:=ft.bU (by grind)
 have hp:=ft.r14 E
 rw [g0,ql,d0,d1]
 by_cases A:g.k=16
 case neg=>rw [beq_false_of_ne A,sV,ae,if_neg (fun h=>A h.2)];rfl
 rw [A,show (!((16:Int)==16))=false from rfl,n3,vU t T.1 _ T.2.1,if_pos ⟨rfl,rfl⟩]
 simp only [g0,g1,ql]
 generalize a7:t.r=oe at hp
 obtain ⟨x1,x2,x3,x4,x5,x6⟩:=a
 simp only [pj x1 x2 x3 x4 x5 x6]
 rw [aH1 hk fg A fa hp]
 unfold W2
 dsimp only
 obtain ⟨J,sB,lB⟩:=aAK hk fg A fa hp
 generalize Sv g oe (Tm.mk x1 x2 x3 x4 x5 x6)=B at J sB lB ⊢
 obtain ⟨st,⟨y1,y2,y3,y4,y5,y6⟩,c0⟩:=B
 dsimp only at J sB lB ⊢
 simp only [pj y1 y2 y3 y4 y5 y6]
 rw [vZ hk (fun _=>fg.isIn hk)]
 have gG:GN (mM c0 (wD 0 [⟨0,0⟩] g)).1:=h5 fg A Qz (aBA (by decide))
 generalize mM c0 (wD 0 [⟨0,0⟩] g)=G at gG ⊢
 obtain ⟨f1,Y,lG,ao⟩:=aBc gG
 have i1:=J.sm.1.isIn hk (by omega)
 have main: ∀ {z1 z2:Int} {z3:BA} {z4:LC} {z5:LT} {z6:LB},Tm.mk z1 z2 z3 z4 z5 z6=Ib G.1.c->
   (iu k G.1.s G.2 oe x1 x2 x3 x4 x5 x6 st y1 y2 y3 y4 y5 y6 z1 z2 z3 z4 z5 z6 fun ax=>lz k ax.2 oe x1 x2 x3 x4 x5 x6 st y1 y2 y3 y4 y5 y6 z1 z2 z3 z4 z5 z6 fun az=>Q7 k I t (c0,st,y1,y2,y3,y4,y5,y6) (Tm.mk x1 x2 x3 x4 x5 x6) G k az.2 z1 z2 z3 z4 z5 z6 [] 0 ax.1 az.1)=
    (fun q:Tm×Int=>I ((dM q.2 q.1).1,(dM q.2 q.1).2==0,(dM q.2 q.1).2)) (.mk 17 0 pf [] [.mk 15 0 pf [] [Ib G.1.c,Tm.mk y1 y2 y3 y4 y5 y6] ((EH oe (fun c=>mM c (wA 0 1 (Tm.mk y1 y2 y3 y4 y5 y6))) (wq (ky oe (Tm.mk x1 x2 x3 x4 x5 x6) (Tm.mk y1 y2 y3 y4 y5 y6) (Ib G.1.c) st) G.2 G.1.s).2).1++(wq (MT (Tm.mk y1 y2 y3 y4 y5 y6)) (EH oe (fun c=>mM c (wA 0 1 (Tm.mk y1 y2 y3 y4 y5 y6))) (wq (ky oe (Tm.mk x1 x2 x3 x4 x5 x6) (Tm.mk y1 y2 y3 y4 y5 y6) (Ib G.1.c) st) G.2 G.1.s).2).2 (G.1.s.zip (wq (ky oe (Tm.mk x1 x2 x3 x4 x5 x6) (Tm.mk y1 y2 y3 y4 y5 y6) (Ib G.1.c) st) G.2 G.1.s).1)).1)] ((G.1.s.zip (wq (ky oe (Tm.mk x1 x2 x3 x4 x5 x6) (Tm.mk y1 y2 y3 y4 y5 y6) (Ib G.1.c) st) G.2 G.1.s).1).map ib),(wq (MT (Tm.mk y1 y2 y3 y4 y5 y6)) (EH oe (fun c=>mM c (wA 0 1 (Tm.mk y1 y2 y3 y4 y5 y6))) (wq (ky oe (Tm.mk x1 x2 x3 x4 x5 x6) (Tm.mk y1 y2 y3 y4 y5 y6) (Ib G.1.c) st) G.2 G.1.s).2).2 (G.1.s.zip (wq (ky oe (Tm.mk x1 x2 x3 x4 x5 x6) (Tm.mk y1 y2 y3 y4 y5 y6) (Ib G.1.c) st) G.2 G.1.s).1)).2):=by
  intro z1 z2 z3 z4 z5 z6 hz
  rw [<-hz] at f1
  rw [aIO hk fa J f1 hp sB lB Y lG,<-hz]
  have L:=aDv (oe:=oe) (st:=st) (c:=G.2) hk fa J f1 hp sB lB Y
  have a6:(wq (ky oe (Tm.mk x1 x2 x3 x4 x5 x6) (Tm.mk y1 y2 y3 y4 y5 y6) (Tm.mk z1 z2 z3 z4 z5 z6) st) G.2 G.1.s).1.length=G.1.s.length:=Nd
  generalize wq (ky oe (Tm.mk x1 x2 x3 x4 x5 x6) (Tm.mk y1 y2 y3 y4 y5 y6) (Tm.mk z1 z2 z3 z4 z5 z6) st) G.2 G.1.s=ws at L a6 ⊢
  rw [aIL hk i1]
  have fU: ∀c,FN (mM c (wA 0 1 (Tm.mk y1 y2 y3 y4 y5 y6))).1:=fun c=>Fs (by omega) (by omega) J.sm.1.ok
  obtain ⟨w1,w2⟩:=s6 (F:=fun c=>mM c (wA 0 1 (Tm.mk y1 y2 y3 y4 y5 y6))) hp (n:=20000) (fun c=>⟨(fU c).sm.1,by have:=(fU c).sm.2;omega⟩) ws.2
  generalize EH oe (fun c=>mM c (wA 0 1 (Tm.mk y1 y2 y3 y4 y5 y6))) ws.2=W at w1 w2 ⊢
  have x: ∀q∈G.1.s.zip ws.1,q.1∈G.1.s/\q.2∈ws.1:=fun q M=>⟨(List.of_mem_zip M).1,(List.of_mem_zip M).2⟩
  have key:=aGR (z1:=z1) (z2:=z2) (z3:=z3) (z4:=z4) (z5:=z5) (z6:=z6) hk I (r3:=t) (x4:=Tm.mk x1 x2 x3 x4 x5 x6) (r6:=(c0,st,y1,y2,y3,y4,y5,y6)) (r8:=G) (a1:=Tm.mk y1 y2 y3 y4 y5 y6) rfl J.sm.1.ok i1 Y lG (ws:=ws.1) (fun w hw=>(L w hw).1.isIn hk (by omega)) a6
   (END:=fun pa sy c=>ly k (.mk 17 0 pf [] [.mk 15 0 pf [] [Tm.mk z1 z2 z3 z4 z5 z6,Tm.mk y1 y2 y3 y4 y5 y6] sy] pa) c fun O=>I (O.1,O.2.1,O.2.2.1)) (fun m c pa sy=>by
    have:=xw (l:=G.1.s) (p:=G.1.s) (by simp)
    simp only [Q7,ed,this,n3,ag hk.fu,ar,JM])
   G.1.s [] ws.1 [] [] W.1 k W.2 rfl rfl rfl (by omega) rfl (by omega)
  refine po ?_ (key.trans ?_)
  ·rfl
  rw [zg]
  dsimp only
  generalize hZ:wq (MT (Tm.mk y1 y2 y3 y4 y5 y6)) W.2 (G.1.s.zip ws.1)=Z
  have zq: ∀y∈Z.1,∃t,y.c=[t]/\pr t/\am t<=299/\aq y.f/\y.f.length<1073741824:=by
   rw [<-hZ]
   exact Sz fun q M c=>aA7 J.sm.1.ok (L q.2 (x q M).2).1.ok (Y q.1 (x q M).1).2.2.1.ok (G9 (Y q.1 (x q M).1).2.2.2) c
  have zl:Z.1.length=(G.1.s.zip ws.1).length:=by grind [Nd]
  have pq: ∀y∈(G.1.s.zip ws.1).map ib,∃t,y.c=[t]/\pr t/\am t<=301/\aq y.f/\y.f.length<1073741824:=fun y hy=>by
   obtain ⟨q,M,rfl⟩:=xl.1 hy
   obtain ⟨h1,h2⟩:=L q.2 (x q M).2
   have r:=G9 (Y q.1 (x q M).1).2.2.2
   refine ⟨_,rfl, ?_, ?_,r.1,r.2⟩
   ·unfold dS;rw [pr,aZ,aZ,ba];exact ⟨⟨by unfold aG;omega,by unfold aG;omega,by decide,(fun c hc=>by cases hc),by simp,by simp,by simp⟩,⟨h1.ok,trivial⟩,trivial⟩
   grind [dS,am,aH,aO]
  obtain ⟨o1,o2⟩:=r5 (l:=W.1++Z.1) (n:=299) fun y hy=>by
   rcases xN.1 hy with hy|hy
   ·obtain ⟨t,q1,q2,q3,q4,q5⟩:=w1 y hy;exact ⟨t,q1,q2.ok,q3,q4,q5⟩
   grind
  obtain ⟨o3,o4⟩:=r5 pq
  have bc:(G.1.s.zip ws.1).length<=10000:=by grind
  have b1:=f1.sm;have b2:=J.sm
  refine r2 hk ?_ ?_ _
  ·rw [pr,aZ,aZ,pr,aZ,aZ,aZ]
   exact ⟨⟨by unfold aG;omega,by unfold aG;omega,by decide,(fun c hc=>by cases hc),by simp,by simp,by grind⟩,⟨⟨⟨by unfold aG;omega,by unfold aG;omega,by decide,(fun c hc=>by cases hc),by simp,by simp,by grind⟩,⟨b1.1.ok,b2.1.ok,trivial⟩,o1⟩,trivial⟩,o3⟩
  grind [am,aH]
 rcases ao with ⟨e1,e2⟩|⟨e1,e2⟩
 ·have gk:af G.1.c 0=some (Ib G.1.c):=by rw [e2];rfl
  rw [e1,show ((((1:Nat):Int))==1)=true from rfl,ae,gk,ql]
  generalize hz:Ib G.1.c=z at main ⊢
  obtain ⟨z1,z2,z3,z4,z5,z6⟩:=z
  grind [pj]
 ·rw [e1,show ((((0:Nat):Int))==1)=false from rfl,n3]
  exact main e2.symm
theorem azt {t:Tm} (h:t.c.length=3): ∃a b c,t.c=[a,b,c]:=by
 match hk:t.c,h with
 |[a,b,c],_=>simp
def L9 (q:Tm×Int):Tm×Bool×Int:=((dM q.2 q.1).1,(dM q.2 q.1).2==0,(dM q.2 q.1).2)
def u9 (t:Tm):Tm×Bool×Int:=
 if bw t≠0 then (ou,false,bw t) else
 if t.k≠14 then (ou,false,0) else
 let l:=t.c.getD 0 ou
 let a:=t.c.getD 1 ou
 let k0:=l.c.getD 0 ou
 let k1:=l.c.getD 1 ou
 if l.k=3\/l.k=19 then L9 (a,0) else
 if l.k=4 then L9 (tPi t.r k0 k1 a) else
 if l.k=7 then L9 (az6 t.r k0 k1 a) else
 if l.k=11 then L9 (az4 t.r k0 k1 (l.c.getD 2 ou) a) else
 if l.k=23 then h_ t else
 if l.k=16 then fR t else (ou,false,0)
theorem aIE (E:F4 k) {t:Tm} (J:In k t) (I:Tm×Bool×Int->OS S):e9 k t I=I (u9 t):=by
 have hk:=E.f3
 have a6:4294968296<=k:=hk
 simp only [e9,ag hk.fu,ar,Ah J.1 J.2.1 J.dep]
 unfold u9
 by_cases h0:bw t=0
 case neg=>rw [dj h0,sV,ae,if_pos h0];rfl
 rw [h0,show (!((0:Int)==0))=false from rfl,n3,if_neg (by simp)]
 have ft:Fm t:=⟨J.1,h0⟩
 by_cases z:t.k=14
 case neg=>rw [beq_false_of_ne z,sV,ae,if_pos z];rfl
 rw [z,show (!((14:Int)==14))=false from rfl,n3,if_neg (by simp)]
 obtain ⟨l,a,L⟩:=I8 (E5 ft z (n:=2) rfl)
 obtain ⟨g0,g1⟩:=KQ L
 obtain ⟨d0,d1⟩:=EC L
 have fl:Fm l:=ft.bU (by grind)
 have fa:Fm a:=ft.bU (by grind)
 have hp:=ft.r14 z
 rw [vU t J.1 _ J.2.1]
 simp only [g0,g1,ql,d0,d1]
 have M:=fun {x:Tm} {c:Int} (hx:In k x) (g:Tm×Bool×Int->OS S)=>Ry hk (c:=c) hx (fun r=>g (r.1,r.2.1,r.2.2.1))
 generalize az:t.r=oe at hp
 obtain ⟨x1,x2,x3,x4,x5,x6⟩:=a
 simp only [pj x1 x2 x3 x4 x5 x6]
 by_cases h3:l.k=3
 ·rw [h3,show ((3:Int)==3)=true from rfl,ae,if_pos (.inl rfl),M (fa.isIn hk)];rfl
 rw [beq_false_of_ne h3,n3]
 by_cases F:l.k=19
 ·rw [F,show ((19:Int)==19)=true from rfl,ae,if_pos (.inr rfl),M (fa.isIn hk)];rfl
 rw [beq_false_of_ne F,n3,if_neg (fun h=>h.elim h3 F)]
 by_cases h4:l.k=4
 ·obtain ⟨k0,ax,hb⟩:=I8 (E5 fl h4 (n:=2) rfl)
  obtain ⟨O,T⟩:=EC hb
  rw [h4,show ((4:Int)==4)=true from rfl,ae,if_pos rfl,O,T]
  obtain ⟨ks,c,W,q2,Y⟩:=aDg (oe:=oe) E hb (fl.bU (by grind)) (fl.bU (by grind)) fa hp (fun q=>ly k (Tm.mk q.1 q.2.1 q.2.2.1 [] q.2.2.2.1 []) q.2.2.2.2 fun A=>I (A.1,A.2.1,A.2.2.1))
  rw [W,<-q2]
  exact M Y I
 rw [beq_false_of_ne h4,n3,if_neg h4]
 by_cases h7:l.k=7
 ·obtain ⟨k0,ax,hb⟩:=I8 (E5 fl h7 (n:=2) rfl)
  obtain ⟨O,T⟩:=EC hb
  rw [h7,show ((7:Int)==7)=true from rfl,ae,if_pos rfl,O,T]
  obtain ⟨ks,c,W,q2,Y⟩:=aDi (oe:=oe) E hb (fl.bU (by grind)) (fl.bU (by grind)) fa hp (fun q=>ly k (Tm.mk q.1 q.2.1 q.2.2.1 [] q.2.2.2.1 []) q.2.2.2.2 fun A=>I (A.1,A.2.1,A.2.2.1))
  rw [W,<-q2]
  exact M Y I
 rw [beq_false_of_ne h7,n3,if_neg h7]
 by_cases B:l.k=11
 ·obtain ⟨k0,kl,kr,hb⟩:=azt (E5 fl B (n:=3) rfl)
  have O:l.c.getD 0 ou=k0:=by grind
  have T:l.c.getD 1 ou=kl:=by grind
  have e2:l.c.getD 2 ou=kr:=by simp_all
  rw [B,show ((11:Int)==11)=true from rfl,ae,if_pos rfl,O,T,e2]
  obtain ⟨ks,c,W,q2,Y⟩:=aDf (oe:=oe) hk hb (fl.bU (by grind)) (fl.bU (by grind)) (fl.bU (by grind)) fa hp (fun q=>ly k (Tm.mk q.1 q.2.1 q.2.2.1 [] q.2.2.2.1 []) q.2.2.2.2 fun A=>I (A.1,A.2.1,A.2.2.1))
  rw [W,<-q2]
  exact M Y I
 rw [beq_false_of_ne B,n3,if_neg B]
 by_cases ad:l.k=23
 ·grind [ae,ap_]
 rw [beq_false_of_ne ad,n3,if_neg ad]
 by_cases ao:l.k=16
 ·grind [ae,aIe]
 rw [beq_false_of_ne ao,n3,if_neg ao]
 rfl
def Qs (f:LC):Bool:=decide (f=[⟨0,0⟩])
def Ss (l:LB):Option (Br Tm):=l.find? fun b=>Qs b.f
def Ms (r:LC):Int:=if r.length=0 then 0 else if Qs r then 1 else-1
theorem aCz {f:LC} (h:f.length≠1):Qs f=false:=by
 grind [Qs]
theorem aCA (c:Cl):Qs [c]=((c.pos==0)&&((c.neg==0)&&true)):=by
 unfold Qs
 obtain ⟨p,n⟩:=c
 grind
theorem azS (r:LC) (I:Int->OS S):aW k r I=I (Ms r):=by
 simp only [aW]
 unfold Ms
 match r with
 |[]=>rfl
 |[c]=>
  rw [show ((([c]:LC).length:Int)==0)=false from rfl,n3,show ((([c]:LC).length:Int)==1)=true from rfl,ae,show af [c] 0=some c from rfl,ql,<-aCA,if_neg (by simp)]
  cases Qs [c]<;>rfl
 |c::d::r=>
  rw [beq_false_of_ne (by grind),n3,beq_false_of_ne (by grind),n3,if_neg (by simp),aCz (by simp)]
  rfl
theorem aIG (b:Br Tm) (I:Bool->OS S):cW k b I=I (Qs b.f):=by
 simp only [cW]
 match h:b.f with
 |[]=>rfl
 |[c]=>simp_all [ae,af,aCA]
 |c::d::r=>rw [beq_false_of_ne (by grind),n3,aCz (by simp)]
theorem aGY (hk:Fu k) (I:Int->OS S) {l:LB} (hl:l.length<4611686018427387904):
  ∀ (r p:LB) (m:Nat),l=p++r->r.length<m-> ∃i,je k I l m (p.length:Int)=I i/\(i<0/\Ss r=none\/0<=i/\ ∃b,af l i=some b/\Ss r=some b):=by
 intro r
 induction r with
 |nil=>
  intro p m h q
  obtain ⟨m,rfl,z⟩:=py q
  refine ⟨-1, ?_,.inl ⟨by omega,rfl⟩⟩
  grind [je,cm,n3]
 |cons x r A=>
  intro p m h q
  obtain ⟨m,rfl,z⟩:=py q
  obtain ⟨B,E,F,J⟩:=qH h (by omega)
  grind [je,cm,ae,aIG,ag,Ss,n3]
theorem aIH (hk:F3 k) {l:LB} (hl:l.length<=20000) (I:Int->OS S): ∃i,cS k l I=I i/\(i<0/\Ss l=none\/0<=i/\ ∃b,af l i=some b/\Ss l=some b):=by
 have q:4294968296<=k:=hk
 obtain ⟨i,h1,h2⟩:=aGY hk.fu (fun r1=>I r1) (l:=l) (by omega) l [] k rfl (by omega)
 grind [cS,cP,aAn,ag]
theorem Fm.parts {t:Tm} (h:Fm t): ∀b∈t.s,(b.c.length:Int)=xV t.k:=fun b hb=>by
 have ho:=h.own
 obtain ⟨kd,n,nm,r,q,sys⟩:=t
 have hb:b∈sys:=hb
 by_cases hp:xV kd=0
 ·have:sys.length=0:=by
   have ho:((_&&(_&&(_&&decide (xV kd=0->sys.length=0))))&&_)=true:=ho
   grind
  grind
 ·have hk:kd=16\/kd=15\/kd=17\/kd=18:=by
   grind [xV]
  have key:sys.all (bX kd 24)=true:=by
   rcases hk with rfl|rfl|rfl|rfl
   ·have ho:(_&&(sys.all (bX 16 24)&&_))=true:=ho
    grind
   ·have ho:(_&&(sys.all (bX 15 24)&&_))=true:=ho
    grind
   ·have ho:(_&&(sys.all (bX 17 24)&&_))=true:=ho
    grind
   ·have ho:(_&&(sys.all (bX 18 24)&&_))=true:=ho
    grind
  have:=xo.1 key b hb
  unfold bX at this
  simp only [qk,decide_eq_true_eq] at this
  exact this.1
theorem aDq {l:LB} {b:Br Tm} (h:Ss l=some b):b∈l:=List.mem_of_find?_eq_some h
def HX (t:Tm):Tm×Bool×Int:=match Ss t.s with
 |none=>(ou,false,0)
 |some b=>if t.k=15 then ((tE (wD 0 [⟨0,0⟩] (AK b))).1,true,(tE (wD 0 [⟨0,0⟩] (AK b))).2)
  else if t.k=18 then (dS 6 [dS 9 [AK b],t.c.getD 0 ou],true,0)
  else if t.k=16\/t.k=17 then (AK b,true,0) else (ou,false,0)
theorem aH0 (hk:F3 k) {t:Tm} (ft:Fm t) (I:Tm×Bool×Int->OS S):aJ k t 0 I=I (HX t):=by
 have hz:=ft.dP
 have hl:t.s.length<=20000:=by
  have: ∀ {l:LB},(∀b∈l,(b.c.length:Int)=xV t.k)->l≠[]->xV t.k≠0->l.length<=aI l:=by
   intro l
   induction l with
   |nil=>simp
   |cons b l ih=>
    intro hb _ hp
    have h1:=hb b (by simp)
    have h2:1<=ay b.c:=by
     cases hk:b.c<;>grind [ay,mB]
    obtain ⟨f,F⟩:=b
    have h2:1<=ay F:=h2
    rw [aI,Fq,uN]
    by_cases hn:l=[]<;>grind
  by_cases hn:t.s=[]
  ·grind
  ·have hp:xV t.k≠0:=by
    intro O
    cases hs:t.s with
    |nil=>simp_all
    |cons b l=>
     have ho:=ft.own
     obtain ⟨kd,n,nm,r,F,sys⟩:=t
     have ho:((_&&(_&&(_&&decide (xV kd=0->sys.length=0))))&&_)=true:=ho
     simp only [qk,decide_eq_true_eq] at ho
     have:=ho.1.2.2.2 O
     have hs:sys=b::l:=hs
     grind
   have h1:=this ft.parts hn hp
   have h2:aI t.s+1<=au t:=by cases t<;>grind [au,Tm.s]
   omega
 obtain ⟨i,h1,h2⟩:=aIH hk hl (fun r1=>ab (decide ((r1:Int)<0)) (I (ou,false,0)) (oa (af t.s r1) fun x2=>ab (t.k==15) (oa (af x2.c 0) fun x3=>JI k x3 0 fun J=>I (J.1,true,J.2)) (ab (t.k==18) (oa (af x2.c 0) fun x5=>oa (af t.c 0) fun T=>I (dS 6 [dS 9 [x5],T],true,0)) (ab (t.k==16) (oa (af x2.c 0) fun W=>I (W,true,0)) (ab (t.k==17) (oa (af x2.c 0) fun A=>I (A,true,0)) (I (ou,false,0)))))))
 simp only [aJ,ag hk.fu,ar,zc]
 refine po ?_ (h1.trans ?_)
 ·rfl
 unfold HX
 rcases h2 with ⟨h2,L⟩|⟨h2,b,L,M⟩
 ·grind [ae]
 ·rw [M,decide_eq_false (by omega),n3,L,ql]
  have hb:=aDq M
  have hp:=ft.parts b hb
  have fb:t.k=15\/t.k=16\/t.k=17\/t.k=18->af b.c 0=some (AK b)/\Fm (AK b):=fun B=>by
   have Y:xV t.k≠0:=by rcases B with h|h|h|h<;>rw [h]<;>decide
   cases hk:b.c with
   |nil=>grind
   |cons x r=>
    have e:AK b=x:=by grind [AK]
    rw [e]
    exact ⟨rfl,ft.brk hb (by grind)⟩
  dsimp only
  by_cases z:t.k=15
  ·obtain ⟨E,f0⟩:=fb (.inl z)
   rw [z,show ((15:Int)==15)=true from rfl,ae,if_pos rfl,E,ql,vZ hk (fun _=>f0.isIn hk)]
   rfl
  rw [beq_false_of_ne z,n3,if_neg z]
  by_cases q:t.k=18
  ·obtain ⟨E,f0⟩:=fb (.inr (.inr (.inr q)))
   obtain ⟨a,ha⟩: ∃a,t.c=[a]:=by
    have:=E5 ft q (n:=1) rfl
    match h:t.c,this with
    |[a],_=>simp
   rw [q,show ((18:Int)==18)=true from rfl,ae,if_pos rfl,E,ql,ha]
   rfl
  rw [beq_false_of_ne q,n3,if_neg q]
  by_cases ad:t.k=16<;>grind [ae,n3]
abbrev kd0 (t:Tm):Tm:=t.c.getD 0 ou
abbrev gx (t:Tm):Tm:=t.c.getD 1 ou
abbrev w6 (t:Tm):Tm:=t.c.getD 2 ou
abbrev sR (t:Tm):Tm:=t.c.getD 3 ou
abbrev rj (t:Tm):Tm:=t.c.getD 4 ou
theorem xD {t:Tm} {n i:Nat} (h:t.c.length=n) (q:i<n):af t.c (i:Int)=some (t.c.getD i ou)/\t.c.getD i ou∈t.c:=by
 grind [pU]
theorem aAY (r:LC):Ms r= -1\/Ms r=0\/Ms r=1:=by
 grind [Ms]
def hz (t:Tm):Tm×Bool×Int:=
 if Ms t.r=0 then (gx t,true,0) else if Ms t.r=1 then (w6 t,true,0) else
 if (kd0 t).k=12 then ((tE (wD 0 t.r (kd0 (kd0 t)))).1,true,(tE (wD 0 t.r (kd0 (kd0 t)))).2) else (ou,false,0)
theorem Fm.r13 {t:Tm} (h:Fm t) (hk:t.k=13):RF t.r:=by
 have ho:=h.own
 obtain ⟨kd,n,nm,r,q,sys⟩:=t
 have hk:kd=13:=hk
 subst hk
 have ho:(_&&(xW r&&_))=true:=ho
 simp only [qk] at ho
 exact (L6 (h.ok.no.2.2.2.1)).1 ho.2.1
theorem aHX (hk:F3 k) {t:Tm} (ft:Fm t) (x:t.k=13) (I:Tm×Bool×Int->OS S):cA k t 0 I=I (hz t):=by
 have hl:=E5 ft x (n:=3) rfl
 obtain ⟨g0,m0⟩:=xD hl (i:=0) (by omega)
 obtain ⟨g1,_⟩:=xD hl (i:=1) (by omega)
 obtain ⟨g2,_⟩:=xD hl (i:=2) (by omega)
 simp only [cA,ag hk.fu,ar,azS]
 unfold hz
 rcases aAY t.r with h|h|h
 ·rw [h,show decide ((-1:Int)>=0)=false from rfl,n3,if_neg (by decide),if_neg (by decide)]
  simp only [Int.natCast_zero] at g0
  rw [g0,ql]
  by_cases q:(kd0 t).k=12
  ·rw [q,show ((12:Int)==12)=true from rfl,ae,if_pos rfl,ql]
   have f0:=ft.bU m0
   have z:=E5 f0 q (n:=1) rfl
   obtain ⟨g,m⟩:=xD z (i:=0) (by omega)
   simp only [Int.natCast_zero] at g
   rw [g,ql,SH hk (fun _=>(f0.bU m).isIn hk) (ft.r13 x)]
   rfl
  ·rw [beq_false_of_ne q,n3,if_neg q];rfl
 ·rw [h,show decide ((0:Int)>=0)=true from rfl,ae,if_pos rfl]
  have:ot .i64 (1+0)=((1:Nat):Int):=rfl
  grind
 ·rw [h,show decide ((1:Int)>=0)=true from rfl,ae,if_neg (by decide),if_pos rfl]
  have:ot .i64 (1+1)=((2:Nat):Int):=rfl
  grind
def Sw (t:Tm):Tm×Bool:=
 if Ms t.r= -1 then (ou,false) else if t.k=21 then (dS 20 [],true) else if Ms t.r=0 then (dS 24 [],true) else (dS 25 [],true)
theorem aC7 (hk:F3 k) (t:Tm) (I:Tm×Bool->OS S):bA k t I=I (Sw t):=by
 simp only [bA,ag hk.fu,azS,zc]
 unfold Sw
 rcases aAY t.r with h|h|h
 ·rw [h,show decide ((-1:Int)<0)=true from rfl,ae,if_pos rfl];rfl
 ·rw [h,show decide ((0:Int)<0)=false from rfl,n3,if_neg (by decide)]
  by_cases q:t.k=21
  ·rw [q,show ((21:Int)==21)=true from rfl,ae,if_pos rfl];rfl
  ·rw [beq_false_of_ne q,n3,if_neg q,show ((0:Int)==0)=true from rfl,ae,if_pos rfl];rfl
 ·rw [h,show decide ((1:Int)<0)=false from rfl,n3,if_neg (by decide)]
  by_cases q:t.k=21
  ·rw [q,show ((21:Int)==21)=true from rfl,ae,if_pos rfl];rfl
  ·rw [beq_false_of_ne q,n3,if_neg q,show ((1:Int)==0)=false from rfl,n3,if_neg (by decide)];rfl
def hW (t:Tm):Tm×Bool:=
 if (sR t).k=20 then (gx t,true) else if (sR t).k=21 then (fG (sR t).r (w6 t) (gx t) (gx t),true) else (ou,false)
theorem aHW (hk:F3 k) {t:Tm} (ft:Fm t) (q:t.k=22) (I:Tm×Bool->OS S):hF k t I=I (hW t):=by
 have hl:=E5 ft q (n:=4) rfl
 obtain ⟨g1,_⟩:=xD hl (i:=1) (by omega)
 obtain ⟨g2,_⟩:=xD hl (i:=2) (by omega)
 obtain ⟨g3,_⟩:=xD hl (i:=3) (by omega)
 have g1:af t.c 1=some (gx t):=g1
 have g2:af t.c 2=some (w6 t):=g2
 have g3:af t.c 3=some (sR t):=g3
 simp only [hF,ag hk.fu,ar,g1,g2,g3,ql,tO]
 unfold hW
 by_cases h:(sR t).k=20
 ·grind [ae]
 rw [beq_false_of_ne h,n3,if_neg h]
 by_cases h:(sR t).k=21
 ·grind [ae]
 rw [beq_false_of_ne h,n3,if_neg h];rfl
def r7 (t:Tm):Tm×Bool:=
 if (rj t).k=24 then (gx t,true) else if (rj t).k=25 then (w6 t,true) else
 if (rj t).k=26 then (fG (rj t).r (dS 6 [sR t,kd0 (rj t)]) (gx t) (w6 t),true) else (ou,false)
theorem aHZ (hk:F3 k) {t:Tm} (ft:Fm t) (q:t.k=27) (I:Tm×Bool->OS S):h6 k t I=I (r7 t):=by
 have hl:=E5 ft q (n:=5) rfl
 obtain ⟨g1,_⟩:=xD hl (i:=1) (by omega)
 obtain ⟨g2,_⟩:=xD hl (i:=2) (by omega)
 obtain ⟨g3,_⟩:=xD hl (i:=3) (by omega)
 obtain ⟨g4,m4⟩:=xD hl (i:=4) (by omega)
 have g1:af t.c 1=some (gx t):=g1
 have g2:af t.c 2=some (w6 t):=g2
 have g3:af t.c 3=some (sR t):=g3
 have g4:af t.c 4=some (rj t):=g4
 simp only [h6,ag hk.fu,ar,g1,g2,g3,g4,ql,tO,zc]
 unfold r7
 by_cases h:(rj t).k=24
 ·grind [ae]
 rw [beq_false_of_ne h,n3,if_neg h]
 by_cases h:(rj t).k=25
 ·grind [ae]
 rw [beq_false_of_ne h,n3,if_neg h]
 by_cases h:(rj t).k=26
 ·have x:=E5 (ft.bU m4) h (n:=1) rfl
  obtain ⟨g,_⟩:=xD x (i:=0) (by omega)
  have g:af (rj t).c 0=some (kd0 (rj t)):=g
  rw [h,show ((26:Int)==26)=true from rfl,ae,if_pos rfl,g,ql];rfl
 rw [beq_false_of_ne h,n3,if_neg h];rfl
def Nl (t:Tm):Tm×Bool×Int:=
 if t.k=6 then (if (kd0 t).k=5 then ((tE (ri 0 (kd0 (kd0 t)) (gx t))).1,true,(tE (ri 0 (kd0 (kd0 t)) (gx t))).2) else HX t) else
 if t.k=9 then (if (kd0 t).k=8 then (kd0 (kd0 t),true,0) else HX t) else
 if t.k=10 then (if (kd0 t).k=8 then (gx (kd0 t),true,0) else HX t) else
 if t.k=13 then hz t else
 if t.k=21 then ((Sw t).1,(Sw t).2,0) else
 if t.k=26 then ((Sw t).1,(Sw t).2,0) else
 if t.k=22 then ((hW t).1,(hW t).2,0) else
 if t.k=27 then ((r7 t).1,(r7 t).2,0) else
 if t.k=28 then (kd0 t,true,0) else
 if t.k=14 then (gx t,Ms t.r==1,0) else
 if t.k=18 then (if (HX t).2.1=true then ((HX t).1,true,(HX t).2.2) else if (kd0 t).k=17 then (kd0 (kd0 t),true,(HX t).2.2) else HX t) else HX t
theorem aEW {t:Tm} (h:t.k=18):(HX t).2.2=0:=by
 grind [HX]
theorem aHY (F:F4 k) {t:Tm} (ft:Fm t) (I:Tm×Bool×Int->OS S):cD k t 0 I=I (Nl t):=by
 have hk:=F.f3
 have ad: ∀g:Tm×Bool×Int->OS S,aJ k t 0 g=g (HX t):=fun g=>aH0 hk ft g
 simp only [cD,ag hk.fu,ar,ad]
 unfold Nl
 by_cases J:t.k=6
 ·have hl:=E5 ft J (n:=2) rfl
  obtain ⟨g0,m0⟩:=xD hl (i:=0) (by omega)
  obtain ⟨g1,m1⟩:=xD hl (i:=1) (by omega)
  have g0:af t.c 0=some (kd0 t):=g0
  have g1:af t.c 1=some (gx t):=g1
  rw [if_pos J,J,show ((6:Int)==6)=true from rfl,ae,g0,ql]
  by_cases h5:(kd0 t).k=5
  ·have q:=E5 (ft.bU m0) h5 (n:=1) rfl
   obtain ⟨g,m⟩:=xD q (i:=0) (by omega)
   have g:af (kd0 t).c 0=some (kd0 (kd0 t)):=g
   rw [if_pos h5,h5,show ((5:Int)==5)=true from rfl,ae,ql,g,ql,g1,ql,Hf F (fun _=>⟨((ft.bU m0).bU m).isIn hk,(ft.bU m1).isIn hk⟩)]
   rfl
  grind [n3]
 rw [if_neg J,beq_false_of_ne J,n3]
 by_cases L:t.k=9
 ·have hl:=E5 ft L (n:=1) rfl
  obtain ⟨g0,m0⟩:=xD hl (i:=0) (by omega)
  have g0:af t.c 0=some (kd0 t):=g0
  rw [if_pos L,L,show ((9:Int)==9)=true from rfl,ae,g0,ql]
  by_cases A:(kd0 t).k=8
  ·have q:=E5 (ft.bU m0) A (n:=2) rfl
   obtain ⟨g,_⟩:=xD q (i:=0) (by omega)
   have g:af (kd0 t).c 0=some (kd0 (kd0 t)):=g
   rw [if_pos A,A,show ((8:Int)==8)=true from rfl,ae,ql,show ot .i64 ((9:Int)-9)=0 from rfl,g,ql]
  grind [n3]
 rw [if_neg L,beq_false_of_ne L,n3]
 by_cases x:t.k=10
 ·have hl:=E5 ft x (n:=1) rfl
  obtain ⟨g0,m0⟩:=xD hl (i:=0) (by omega)
  have g0:af t.c 0=some (kd0 t):=g0
  rw [if_pos x,x,show ((10:Int)==10)=true from rfl,ae,g0,ql]
  by_cases A:(kd0 t).k=8
  ·have q:=E5 (ft.bU m0) A (n:=2) rfl
   obtain ⟨g,_⟩:=xD q (i:=1) (by omega)
   have g:af (kd0 t).c 1=some (gx (kd0 t)):=g
   rw [if_pos A,A,show ((8:Int)==8)=true from rfl,ae,ql,show ot .i64 ((10:Int)-9)=1 from rfl,g,ql]
  grind [n3]
 rw [if_neg x,beq_false_of_ne x,n3]
 by_cases M:t.k=13
 ·grind [ae,aHX]
 rw [if_neg M,beq_false_of_ne M,n3]
 by_cases O:t.k=21
 ·grind [ae,aC7]
 rw [if_neg O,beq_false_of_ne O,n3]
 by_cases T:t.k=26
 ·grind [ae,aC7]
 rw [if_neg T,beq_false_of_ne T,n3]
 by_cases W:t.k=22
 ·grind [ae,aHW]
 rw [if_neg W,beq_false_of_ne W,n3]
 by_cases Y:t.k=27
 ·grind [ae,aHZ]
 rw [if_neg Y,beq_false_of_ne Y,n3]
 by_cases B:t.k=28
 ·have hl:=E5 ft B (n:=2) rfl
  grind [af,ae]
 rw [if_neg B,beq_false_of_ne B,n3]
 by_cases E:t.k=14
 ·have hl:=E5 ft E (n:=2) rfl
  grind [af,ae,azS]
 rw [if_neg E,beq_false_of_ne E,n3]
 by_cases z:t.k=18
 ·have hl:=E5 ft z (n:=1) rfl
  obtain ⟨g0,m0⟩:=xD hl (i:=0) (by omega)
  have g0:af t.c 0=some (kd0 t):=g0
  rw [if_pos z,z,show ((18:Int)==18)=true from rfl,ae,aEW z]
  by_cases hb:(HX t).2.1=true
  ·grind [ae]
  ·have ao:(HX t).2.1=false:=by grind
   rw [if_neg hb,ao,n3,g0,ql]
   by_cases ax:(kd0 t).k=17
   ·have q:=E5 (ft.bU m0) ax (n:=1) rfl
    grind [af,ae]
   grind [n3]
 grind [n3]
def Ob (x:Tm):Prop:=pr x/\am x<=300
theorem Fm.ob {x:Tm} (h:Fm x):Ob x:=⟨h.ok,by have:=h.dep;omega⟩
theorem Q2.ob {x:Tm} (h:Q2 x):Ob x:=⟨h.1.ok,by have:=h.2;omega⟩
theorem Q5:Ob ou:=Ko.ob
theorem azs {t:Tm} (ft:Fm t) (i:Nat):FN (t.c.getD i ou):=by
 by_cases h:i<t.c.length
 ·exact .inl (ft.bU (xD (t:=t) rfl h).2)
 ·rw [List.getD_eq_getElem?_getD,List.getElem?_eq_none (by omega)];exact .inr rfl
theorem FN.ob {x:Tm} (h:FN x):Ob x:=h.elim Fm.ob fun e=>by rw [e];exact Q5
theorem aGG {t:Tm} (ft:FN t) (i:Nat):FN (t.c.getD i ou):=by
 rcases ft with h|h
 ·exact azs h i
 ·rw [h];exact .inr (by rfl)
theorem az3 {x:Except Int Tm} (h: ∀t,x= .ok t->Q2 t):Ob (tE x).1:=by
 cases x with
 |error e=>exact Q5
 |ok t=>exact (h t rfl).ob
theorem azo (n:Int) (h:0<=n/\n<=28):Ob (dS n []):=by
 unfold dS
 refine ⟨?_, ?_⟩
 ·rw [pr,aZ,ba];exact ⟨⟨by unfold aG;omega,by unfold aG;omega,by decide,(fun c hc=>by cases hc),by simp,by simp,by simp⟩,trivial,trivial⟩
 grind [am,aH,aO]
theorem aEX {t:Tm} (ft:Fm t):Ob (HX t).1:=by
 unfold HX
 split
 ·exact Q5
 rename_i b hb
 have q:=aDq hb
 have fb:FN (AK b):=by
  unfold AK
  cases hk:b.c with
  |nil=>exact .inr rfl
  |cons x r=>exact .inl (ft.brk q (by grind))
 split
 ·exact az3 fun t h=>Se fb.sm.1.ok h
 split
 ·have z:=Mg (kd:=9) (by omega) fb.sm (by omega)
  have A:=(azs ft 0).sm
  have:=IF (kd:=6) (by omega) (d:=201) z ⟨A.1,by omega⟩ (by omega)
  exact ⟨this.1.ok,bu this.2 (by omega)⟩
 split
 ·exact fb.ob
 ·exact Q5
theorem aCC {r:LC} (B:aq r/\r.length<1073741824) {x y z:Tm} {n:Nat} (E:Sm n x/\am x<=201) (q:FN y) (A:FN z):Ob (fG r x y z):=by
 have:=azY B (d:=201) E ⟨q.sm.1,by have:=q.sm.2;omega⟩ ⟨A.sm.1,by have:=A.sm.2;omega⟩ (by omega)
 exact ⟨this.1.ok,by omega⟩
theorem aA9 {x:Tm} (h:FN x):aq x.r/\x.r.length<1073741824:=⟨h.sm.1.ok.no.2.2.2.1,h.sm.1.ok.no.2.2.2.2.1⟩
theorem Hu {c:Prop} [Decidable c] {a b:Tm×Bool×Int} (ha:Ob a.1) (hb:Ob b.1):Ob (if c then a else b).1:=by
 grind
theorem Rj {c:Prop} [Decidable c] {a b:Tm×Bool} (ha:Ob a.1) (hb:Ob b.1):Ob (if c then a else b).1:=by
 grind
theorem aAJ {t:Tm} (ft:Fm t):Ob (Nl t).1:=by
 have q:=aEX ft
 have c:=azs ft
 have cc:=fun i j=>aGG (c i) j
 have z:Ob (hz t).1:=Hu (c 1).ob (Hu (c 2).ob (Hu (az3 fun y h=>Se (cc 0 0).sm.1.ok h) Q5))
 have x:Ob (Sw t).1:=Rj Q5 (Rj (azo 20 (by omega)) (Rj (azo 24 (by omega)) (azo 25 (by omega))))
 have A:Ob (hW t).1:=Rj (c 1).ob (Rj (aCC (aA9 (c 3)) ⟨(c 2).sm.1,bu (c 2).sm.2 (by omega)⟩ (c 1) (c 1)) Q5)
 have B:Ob (r7 t).1:=Rj (c 1).ob (Rj (c 2).ob (Rj (aCC (aA9 (c 4)) (IF (kd:=6) (by omega) (c 3).sm (cc 4 0).sm (by omega)) (c 1) (c 2)) Q5))
 unfold Nl
 exact Hu (Hu (az3 fun y h=>azK (cc 0 0).sm.1.ok (c 1).sm.1.ok h) q) (Hu (Hu (cc 0 0).ob q) (Hu (Hu (cc 0 1).ob q) (Hu z (Hu x (Hu x (Hu A (Hu B (Hu (c 0).ob (Hu (c 1).ob (Hu (Hu q (Hu (cc 0 0).ob q)) q))))))))))
def ts (t:Tm):Tm×Bool×Int:=
 if bw t≠0 then (ou,false,bw t) else
 if (Nl t).2.1=true then L9 ((Nl t).1,(Nl t).2.2) else (ou,false,0)
theorem aH3 (x:F4 k) {t:Tm} (q:In k t) (I:Tm×Bool×Int->OS S):qG k t I=I (ts t):=by
 have hk:=x.f3
 simp only [qG,ag hk.fu,ar,Ah q.1 q.2.1 q.dep]
 unfold ts
 by_cases z:bw t=0
 case neg=>rw [dj z,sV,ae,if_pos z];rfl
 rw [z,show (!((0:Int)==0))=false from rfl,n3,if_neg (by simp),vU t q.1 _ q.2.1]
 have ft:Fm t:=⟨q.1,z⟩
 rw [aHY x ft]
 have ob:=aAJ ft
 by_cases hb:(Nl t).2.1=true
 ·rw [if_pos hb,hb,va,n3]
  exact r2 hk ob.1 (by have:=ob.2;omega) _
 ·have A:(Nl t).2.1=false:=by grind
  rw [if_neg hb,A,sV,ae];rfl
theorem Nn (hk:F3 k) {c a b:Int} {t:Tm} (ha:0<=a/\a<1000) (hb:0<=b/\b<1000) (h:In k t) (I:Tm×Int->OS S):Bw k t a b c I=I (mM c (wA a b t)):=by
 by_cases hc:c=0
 ·subst hc
  simp only [Bw,ag hk.fu,de,ar,rI,if_true]
  rw [show ((0:Int)==0)=true from rfl,va,n3,aiH hk h (vb:=a) (db:=b) (by omega) (by omega)]
  rfl
 grind [Hh,n9]
def Rt (c:Int) (t a f y:Tm):Tm×Int:=
 (dS 7 [t,dS 11 [(mM c (wA 1 1 a)).1,(mM (mM c (wA 1 1 a)).2 (wA 1 0 y)).1,dS 6 [(mM (mM (mM c (wA 1 1 a)).2 (wA 1 0 y)).2 (wA 1 0 f)).1,vN 0]]],(mM (mM (mM c (wA 1 1 a)).2 (wA 1 0 y)).2 (wA 1 0 f)).2)
theorem aIb (hk:F3 k) {c:Int} {t a f y:Tm} (ha:In k a) (hf:In k f) (q:In k y) (I:Int×Int×BA×LT×Int->OS S):
  SC k t a f y c I=I (7,0,pf,(Rt c t a f y).1.c,(Rt c t a f y).2):=by
 simp only [SC,ag hk.fu,ar,Ir,wv]
 rw [Nn hk (by omega) (by omega) ha,Nn hk (by omega) (by omega) q,Nn hk (by omega) (by omega) hf]
 rfl
def RB (c:Int) (t:Tm):Tm×Int:=(dS 7 [t,dS 4 [(mM c (wA 1 0 t)).1,dS 11 [(mM (mM c (wA 1 0 t)).2 (wA 2 1 t)).1,vN 1,vN 0]]],(mM (mM c (wA 1 0 t)).2 (wA 2 1 t)).2)
theorem aH5 (hk:F3 k) {c:Int} {t:Tm} (h:In k t) (I:Int×Int×BA×LT×Int->OS S):
  bn k t c I=I (7,0,pf,(RB c t).1.c,(RB c t).2):=by
 simp only [bn,ag hk.fu,ar,Ir,wv]
 rw [Nn hk (by omega) (by omega) h,Nn hk (by omega) (by omega) h]
 rfl
def Sy (c:Int) (t a:Tm):Tm×Int:=
 let q:=mM c (wA 1 0 a)
 let x:=mM q.2 (wA 1 0 a)
 let z:=mM x.2 (wA 2 0 t)
 let A:=mM z.2 (wA 2 0 a)
 let B:=Rt A.2 z.1 A.1 (vN 1) (vN 0)
 let E:=RB B.2 B.1
 (dS 7 [dS 4 [t,q.1],dS 4 [x.1,E.1]],E.2)
def Nc (t a:Tm):Except Int Tm:=FB (oy (Sy (xv [t,a]) t a))
theorem aDl {kd:Int} (q:0<=kd/\kd<=28) {n m j d:Nat} {x y z:Tm} (A:Sm n x/\am x<=d) (B:Sm m y/\am y<=d) (E:Sm j z/\am z<=d) (hd:d<=290):Sm (n+m+j+1) (dS kd [x,y,z])/\am (dS kd [x,y,z])<=d+1:=by
 unfold dS
 refine ⟨(Hn (kd:=kd) q (r:=[]) ⟨(fun c hc=>by cases hc),by simp⟩ (ks:=[x,y,z]) (sys:=[]) (n:=n+m+j) (m:=0) (fun w F=>by
  simp at F
  rcases F with rfl|rfl|rfl
  ·exact ⟨A.1.ok,by omega⟩
  ·exact ⟨B.1.ok,by omega⟩
  ·exact ⟨E.1.ok,by omega⟩) (by simp) (by rw [ay,ay,ay,ay];have:=A.1.dP;have:=B.1.dP;have:=E.1.dP;omega) (by rw [ba];trivial) (by simp) (by rw [aO];omega) (by rw [aI];omega)).mono (by omega), ?_⟩
 grind [am,aH,aO]
theorem aA2 {c:Int} {t a f y:Tm} (z:Sm 20000 t/\am t<=200) (ha:pr a) (hf:pr f) (A:pr y):Sm 150000 (Rt c t a f y).1/\am (Rt c t a f y).1<=204:=by
 have fa:=Fs (c:=c) (a:=1) (b:=1) (by omega) (by omega) ha
 have fy:=Fs (c:=(mM c (wA 1 1 a)).2) (a:=1) (b:=0) (by omega) (by omega) A
 have ff:=Fs (c:=(mM (mM c (wA 1 1 a)).2 (wA 1 0 y)).2) (a:=1) (b:=0) (by omega) (by omega) hf
 have v0:=Mw (n:=0) (by omega)
 have B:=IF (kd:=6) (by omega) (d:=200) ff.sm v0 (by omega)
 have q:=aDl (kd:=11) (by omega) (d:=201) ⟨fa.sm.1,by have:=fa.sm.2;omega⟩ ⟨fy.sm.1,by have:=fy.sm.2;omega⟩ B (by omega)
 have x:=IF (kd:=7) (by omega) (d:=202) ⟨z.1,by omega⟩ q (by omega)
 exact ⟨x.1.mono (by omega),bu x.2 (by omega)⟩
theorem aE9 {c:Int} {t:Tm} {n d:Nat} (q:Sm n t/\am t<=d) (hd:200<=d/\d<=280):Sm (n+100000) (RB c t).1/\am (RB c t).1<=d+3:=by
 have f1:=Fs (c:=c) (a:=1) (b:=0) (by omega) (by omega) q.1.ok
 have f2:=Fs (c:=(mM c (wA 1 0 t)).2) (a:=2) (b:=1) (by omega) (by omega) q.1.ok
 have v0:=Mw (n:=0) (by omega)
 have v1:=Mw (n:=1) (by omega)
 have x:=aDl (kd:=11) (by omega) (d:=200) f2.sm v1 v0 (by omega)
 have A:=IF (kd:=4) (by omega) (d:=201) ⟨f1.sm.1,by have:=f1.sm.2;omega⟩ x (by omega)
 have z:=IF (kd:=7) (by omega) (d:=d+2) ⟨q.1,by omega⟩ ⟨A.1,by omega⟩ (by omega)
 exact ⟨z.1.mono (by omega),bu z.2 (by omega)⟩
theorem aA0 {c:Int} {t a:Tm} {n d:Nat} (z:Sm n t/\am t<=d) (hd:200<=d/\d<=270) (ha:pr a):Sm (n+400000) (Sy c t a).1/\am (Sy c t a).1<=d+10:=by
 have f1:=Fs (c:=c) (a:=1) (b:=0) (by omega) (by omega) ha
 have f2:=Fs (c:=(mM c (wA 1 0 a)).2) (a:=1) (b:=0) (by omega) (by omega) ha
 have f3:=Fs (c:=(mM (mM c (wA 1 0 a)).2 (wA 1 0 a)).2) (a:=2) (b:=0) (by omega) (by omega) z.1.ok
 have f4:=Fs (c:=(mM (mM (mM c (wA 1 0 a)).2 (wA 1 0 a)).2 (wA 2 0 t)).2) (a:=2) (b:=0) (by omega) (by omega) ha
 unfold Sy
 dsimp only
 generalize mM (mM (mM (mM c (wA 1 0 a)).2 (wA 1 0 a)).2 (wA 2 0 t)).2 (wA 2 0 a)=q at f4 ⊢
 generalize mM (mM (mM c (wA 1 0 a)).2 (wA 1 0 a)).2 (wA 2 0 t)=A at f3 ⊢
 have B:=aA2 (c:=q.2) (t:=A.1) (a:=q.1) (f:=vN 1) (y:=vN 0) f3.sm f4.sm.1.ok (Mw (by omega)).1.ok (Mw (by omega)).1.ok
 generalize Rt q.2 A.1 q.1 (vN 1) (vN 0)=x at B ⊢
 have E:=aE9 (c:=x.2) B (by omega)
 generalize RB x.2 x.1=I at E ⊢
 have a1:=IF (kd:=4) (by omega) (d:=d+7) ⟨z.1,by omega⟩ ⟨f1.sm.1,by have:=f1.sm.2;omega⟩ (by omega)
 have a2:=IF (kd:=4) (by omega) (d:=d+7) ⟨f2.sm.1,by have:=f2.sm.2;omega⟩ ⟨E.1,by omega⟩ (by omega)
 have F:=IF (kd:=7) (by omega) (d:=d+8) a1 a2 (by omega)
 exact ⟨F.1.mono (by omega),by omega⟩
theorem aHS (hk:F3 k) {t a:Tm} (z:Q2 t) (ha:Q2 a) (I:Tm×Int->OS S):Am k t a I=I (tE (Nc t a)):=by
 have it:=z.isIn hk
 have A:=ha.isIn hk
 have B: ∀x∈[t,a],In k x:=fun x O=>by
  grind
 have E:Tm.mk 1 0 pf [] [] []=vN 0:=rfl
 have F:Tm.mk 1 1 pf [] [] []=vN 1:=rfl
 have i0:=(Mw (n:=0) (by omega)).isIn hk
 have i1:=(Mw (n:=1) (by omega)).isIn hk
 simp only [Am,ag hk.fu,ar,Re hk B (by simp),vU t it.1 _ it.2.1,wv,Ir]
 unfold Nc
 have q:=aA0 (c:=xv [t,a]) (t:=t) (a:=a) (n:=20000) (d:=200) z (by omega) ha.1.ok
 generalize xv [t,a]=c at q ⊢
 have f3:=Fs (c:=(mM (mM c (wA 1 0 a)).2 (wA 1 0 a)).2) (a:=2) (b:=0) (by omega) (by omega) z.1.ok
 have f4:=Fs (c:=(mM (mM (mM c (wA 1 0 a)).2 (wA 1 0 a)).2 (wA 2 0 t)).2) (a:=2) (b:=0) (by omega) (by omega) ha.1.ok
 have J:=aA2 (c:=(mM (mM (mM (mM c (wA 1 0 a)).2 (wA 1 0 a)).2 (wA 2 0 t)).2 (wA 2 0 a)).2) (t:=(mM (mM (mM c (wA 1 0 a)).2 (wA 1 0 a)).2 (wA 2 0 t)).1) (a:=(mM (mM (mM (mM c (wA 1 0 a)).2 (wA 1 0 a)).2 (wA 2 0 t)).2 (wA 2 0 a)).1) (f:=vN 1) (y:=vN 0) f3.sm f4.sm.1.ok (Mw (by omega)).1.ok (Mw (by omega)).1.ok
 rw [Nn hk (by omega) (by omega) A,Nn hk (by omega) (by omega) A,Nn hk (by omega) (by omega) it,Nn hk (by omega) (by omega) A,E,F,aIb hk (f4.sm.1.isIn hk (by omega)) i1 i0]
 have L: ∀c t a f y,Tm.mk 7 0 pf [] (Rt c t a f y).1.c []=(Rt c t a f y).1:=fun _ _ _ _ _=>rfl
 have M: ∀c t,Tm.mk 7 0 pf [] (RB c t).1.c []=(RB c t).1:=fun _ _=>rfl
 dsimp only
 rw [L,aH5 hk (J.1.isIn hk (by omega))]
 dsimp only
 rw [M]
 exact Rk (t:=(Sy c t a).1) (c:=(Sy c t a).2) hk (fun _=>q.1.isIn hk (by omega)) I
theorem aFN {t a:Tm} {e:Int} (h:Nc t a= .error e):e≠0:=by
 grind [Nc,FB,oy,aD,lk]
theorem aIv (hk:F3 k) {t a:Tm} {c:Int} (q:Q2 t) (ha:Q2 a) (I:Tm×Int->OS S):qw k t a c I=I (mM c (Nc t a)):=by
 simp only [qw,ag hk.fu,dG,ar,rJ]
 exact Az c (fun h g=>aHS hk q ha g) (fun e h=>aFN h) I
theorem aFM {t a y:Tm} (z:Q2 t) (ha:pr a) (h:Nc t a= .ok y):Fm y:=by
 have q:=aA0 (c:=xv [t,a]) (t:=t) (a:=a) (n:=20000) (d:=200) z (by omega) ha
 unfold Nc FB oy at h
 by_cases x:(Sy (xv [t,a]) t a).2=0
 ·rw [if_pos x,aD] at h
  split at h
  ·rename_i hf
   injection h with h;subst h
   exact ⟨q.1.ok,hf⟩
  ·cases h
 ·rw [if_neg x,lk] at h;cases h
def L5 (a:Tm) (c:Int) (x:Br Tm):Br Tm×Int:=
 let E:=mM c (wD 0 [⟨0,0⟩] (AK x))
 let A:=mM E.2 (wA 0 1 a)
 let Q:=mM A.2 (Nc (AK x) A.1)
 (⟨x.f,[E.1,dS 14 [Q.1,a8]]⟩,Q.2)
section
variable {x1 x2:Int} {x3:BA} {x4:LC} {x5:LT} {x6 sys:LB}
theorem aIo (hk:F3 k) (fa:Fm (Tm.mk x1 x2 x3 x4 x5 x6)) (sy: ∀b∈sys,b.c=[AK b]/\Fm (AK b)/\RX true b.f) (B:sys.length<=20000) (I:Int×Int×BA×LT×LB×Int->OS S):
  dn k 0 x1 x2 x3 x4 x5 x6 sys I=(fun l:LB×Int=>I (16,0,pf,[Tm.mk x1 x2 x3 x4 x5 x6],l.1,l.2)) (wq (L5 (Tm.mk x1 x2 x3 x4 x5 x6)) 0 sys):=by
 have E:4294968296<=k:=hk
 obtain ⟨q,J⟩: ∃q,k=q+100:=⟨k-100,by omega⟩
 have z: ∀g:Int×Int×BA×LT->OS S,c5 k g=g (8,0,pf,w5):=fun g=>by rw [J];exact aF9 q g
 generalize ha:Tm.mk x1 x2 x3 x4 x5 x6=a at fa
 simp only [dn,ag hk.fu,fk,aAg,ha,JM]
 have:=fun RET=>hy (S:=S) (l:=sys) (L:=fun m c i acc=>vy k RET x1 x2 x3 x4 x5 x6 sys m c i acc) (F:=L5 a) (I:=RET)
  (fun m c acc _=>by
   have:=xw (l:=sys) (p:=sys) (by simp)
   simp only [vy,u',this,n3])
  (fun m c x p r acc h A=>by
   obtain ⟨M,O,T,_⟩:=qH h (by omega)
   have hlen:p.length<sys.length:=by rw [h];simp
   obtain ⟨W,q2,_⟩:=sy x (by rw [h];simp)
   have Y:af x.c 0=some (AK x):=ED (n:=0) rfl (by rw [W];rfl)
   have fA:=Fs (c:=(mM c (wD 0 [⟨0,0⟩] (AK x))).2) (a:=0) (b:=1) (by omega) (by omega) fa.ok
   simp only [vy,u',M,ae,O,ql,Y,ag hk.fu,ar,azb,ha,wm,zc,T,z]
   rw [vZ hk (fun _=>q2.isIn hk),E8 hk (fun _=>fa.isIn hk) (by omega) (by omega),aIv hk q2.q2 fA.sm,J5 (by simp;omega)]
   rfl)
  sys [] [] k 0 rfl (by omega) rfl
 refine (this _).trans ?_
 rw [zg]
end
theorem aDr {a:Tm} (fa:Fm a) {x:Br Tm} (h:Fm (AK x)/\RX true x.f) (c:Int):dx (L5 a c x).1:=by
 have A:Q2 (mM c (wD 0 [⟨0,0⟩] (AK x))).1:=LD fun t z=>Se h.1.ok z
 have B:=Fs (c:=(mM c (wD 0 [⟨0,0⟩] (AK x))).2) (a:=0) (b:=1) (by omega) (by omega) fa.ok
 have E:FN (mM (mM (mM c (wD 0 [⟨0,0⟩] (AK x))).2 (wA 0 1 a)).2 (Nc (AK x) (mM (mM c (wD 0 [⟨0,0⟩] (AK x))).2 (wA 0 1 a)).1)).1:=Bl fun t z=>aFM h.1.q2 B.sm.1.ok z
 have q:=IF (kd:=14) (by omega) (d:=200) E.sm ⟨NX.sm,NX.dep⟩ (by omega)
 have r:=G9 h.2
 exact ⟨_,_,rfl,A.1,q.1.mono (by omega),A.2,q.2,r.1,r.2⟩
def sf (t:Tm):Tm×Bool×Int:=
 if bw t≠0 then (ou,false,bw t) else
 if t.k=15/\(t.c.getD 0 ou).k=3 then L9 (.mk 16 0 pf [] [t.c.getD 1 ou] (wq (L5 (t.c.getD 1 ou)) 0 t.s).1,(wq (L5 (t.c.getD 1 ou)) 0 t.s).2)
 else Sr t
theorem aIn (O:F4 k) {t:Tm} (J:In k t) (ao:(t.c.getD 0 ou).k≠3) (I:Tm×Bool×Int->OS S):cG k t I=I (Sr t):=by
 have hk:=O.f3
 simp only [cG,ag hk.fu,ar,Ah J.1 J.2.1 J.dep]
 unfold Sr
 by_cases W:bw t=0
 case neg=>rw [dj W,sV,ae,if_pos W];rfl
 rw [W,show (!((0:Int)==0))=false from rfl,n3,if_neg (by simp)]
 have ft:Fm t:=⟨J.1,W⟩
 by_cases z:t.k=15
 case neg=>rw [beq_false_of_ne z,sV,ae,if_neg (fun h=>z h.1)];rfl
 rw [z,show (!((15:Int)==15))=false from rfl,n3,vU t J.1 _ J.2.1]
 obtain ⟨k0,a,T⟩:=I8 (E5 ft z (n:=2) rfl)
 obtain ⟨g0,g1⟩:=KQ T
 obtain ⟨d0,d1⟩:=EC T
 have B:Fm k0:=ft.bU (by grind)
 have fa:Fm a:=ft.bU (by grind)
 obtain ⟨sy,E⟩:=ft.sy z
 have Y:Tm.mk a.k a.n a.name a.r a.c a.s=a:=by cases a;rfl
 have F:Fm (Tm.mk a.k a.n a.name a.r a.c a.s):=by grind
 simp only [g0,g1,ql]
 unfold azm
 rw [d0,d1]
 dsimp only
 by_cases L:k0.k=4
 ·obtain ⟨p,b,hb⟩:=I8 (E5 B L (n:=2) rfl)
  obtain ⟨w1,i1,i2,i3,i4,i5⟩:=aC_ hk hb (B.bU (by grind)) F sy E (fun q=>ly k (Tm.mk q.1 q.2.1 q.2.2.1 [] q.2.2.2.1 []) q.2.2.2.2 fun A=>I (A.1,A.2.1,A.2.2.1))
  rw [if_pos ⟨trivial,.inl L⟩,if_pos L,L,show ((4:Int)==4)=true from rfl,ae]
  refine i2.trans ?_
  refine (Ry hk i3 _).trans ?_
  rw [(EC hb).2]
  rw [Y] at i4 i5
  exact aAu i4 i5 I
 rw [if_neg L,beq_false_of_ne L,n3]
 by_cases M:k0.k=7
 ·obtain ⟨p,b,hb⟩:=I8 (E5 B M (n:=2) rfl)
  obtain ⟨w1,i1,i2,i3,i4,i5⟩:=aDa O hb (B.bU (by grind)) (B.bU (by grind)) F sy E (fun q=>ly k (Tm.mk q.1 q.2.1 q.2.2.1 [] q.2.2.2.1 []) q.2.2.2.2 fun A=>I (A.1,A.2.1,A.2.2.1))
  rw [if_pos ⟨trivial,.inr (.inl M)⟩,if_pos M,M,show ((7:Int)==7)=true from rfl,ae]
  refine i2.trans ?_
  refine (Ry hk i3 _).trans ?_
  rw [(EC hb).1,(EC hb).2]
  rw [Y] at i4 i5
  exact aAu i4 i5 I
 rw [if_neg M,beq_false_of_ne M,n3]
 by_cases x:k0.k=11
 ·obtain ⟨p,l,r,hb⟩: ∃p l r,k0.c=[p,l,r]:=by
   have:=E5 B x (n:=3) rfl
   match h:k0.c,this with
   |[p,l,r],_=>simp
  obtain ⟨w1,i1,i2,i3,i4,i5⟩:=aC9 hk hb (B.bU (by grind)) (B.bU (by grind)) (B.bU (by grind)) F sy E (fun q=>ly k (Tm.mk q.1 q.2.1 q.2.2.1 [] q.2.2.2.1 []) q.2.2.2.2 fun A=>I (A.1,A.2.1,A.2.2.1))
  rw [if_pos ⟨trivial,.inr (.inr (.inl x))⟩,if_pos x,x,show ((11:Int)==11)=true from rfl,ae]
  refine i2.trans ?_
  refine (Ry hk i3 _).trans ?_
  rw [hb]
  rw [Y] at i4 i5
  exact aAu i4 i5 I
 rw [if_neg x,beq_false_of_ne x,n3]
 by_cases h3:k0.k=3
 ·grind
 rw [if_neg h3,beq_false_of_ne h3,n3]
 by_cases ad:k0.k=16
 ·grind [ae,aIf,azI]
 ·rw [beq_false_of_ne ad,n3,if_neg (fun h=>by omega)];rfl
theorem aIm (J:F4 k) {t:Tm} (z:In k t) (I:Tm×Bool×Int->OS S):cG k t I=I (sf t):=by
 have hk:=J.f3
 by_cases hc:bw t=0/\t.k=15/\(t.c.getD 0 ou).k=3
 case neg=>
  have e:sf t=Sr t:=by
   grind [sf,Sr]
  rw [e]
  by_cases E:(t.c.getD 0 ou).k=3
  case neg=>grind [aIn]
  simp only [cG,ag hk.fu,ar,Ah z.1 z.2.1 z.dep]
  unfold Sr
  by_cases A:bw t=0
  case neg=>rw [dj A,sV,ae,if_pos A];rfl
  rw [A,show (!((0:Int)==0))=false from rfl,n3,if_neg (by simp)]
  have q:t.k≠15:=fun h=>hc ⟨A,h,E⟩
  rw [beq_false_of_ne q,sV,ae,if_neg (fun h=>q h.1)];rfl
 obtain ⟨A,q,E⟩:=hc
 have ft:Fm t:=⟨z.1,A⟩
 have e:sf t=L9 (.mk 16 0 pf [] [t.c.getD 1 ou] (wq (L5 (t.c.getD 1 ou)) 0 t.s).1,(wq (L5 (t.c.getD 1 ou)) 0 t.s).2):=by
  grind [sf]
 rw [e]
 obtain ⟨k0,a,B⟩:=I8 (E5 ft q (n:=2) rfl)
 obtain ⟨g0,g1⟩:=KQ B
 obtain ⟨d0,d1⟩:=EC B
 rw [d0] at E
 rw [d1]
 have fa:Fm a:=ft.bU (by grind)
 obtain ⟨sy,L⟩:=ft.sy q
 simp only [cG,ag hk.fu,ar,Ah z.1 z.2.1 z.dep,A,q,vU t z.1 _ z.2.1,g0,g1,ql,E]
 rw [show (!((0:Int)==0))=false from rfl,n3,show (!((15:Int)==15))=false from rfl,n3,show ((3:Int)==4)=false from rfl,n3,show ((3:Int)==7)=false from rfl,n3,show ((3:Int)==11)=false from rfl,n3,show ((3:Int)==3)=true from rfl,ae]
 obtain ⟨x1,x2,x3,x4,x5,x6⟩:=a
 simp only [pj x1 x2 x3 x4 x5 x6]
 rw [aIo hk fa sy L]
 dsimp only
 have O:=Sz (F:=L5 (Tm.mk x1 x2 x3 x4 x5 x6)) (Q:=dx) (l:=t.s) (c:=0) fun x M c=>aDr fa ⟨(sy x M).2.1,(sy x M).2.2⟩ c
 have hl:(wq (L5 (Tm.mk x1 x2 x3 x4 x5 x6)) 0 t.s).1.length=t.s.length:=Nd
 obtain ⟨T,W,Y⟩:=aAN O
 refine r2 hk ?_ ?_ _
 ·rw [pr,aZ,aZ]
  exact ⟨⟨by unfold aG;omega,by unfold aG;omega,by decide,(fun c hc=>by cases hc),by simp,by simp,by omega⟩,⟨fa.ok,trivial⟩,T⟩
 ·rw [am,aH,aH];have:=fa.dep;omega
def KU (defs:List Df) (t:Tm):Tm×Bool:=
 if t.k=2 then (match defs.find? fun d=>decide (d.name=t.name) with
  |none=>(ou,false)
  |some d=>(d.body,MV d.body 0 0==0)) else (ou,false)
def Is (k:Nat) (defs:List Df):Prop:=defs.length<1073741824/\ ∀d∈defs,In k d.body
theorem aGZ (hk:F3 k) (I:Tm×Bool->OS S) {t:Tm} {defs:List Df} (hd:Is k defs):
  ∀ (r p:List Df) (m:Nat),defs=p++r->r.length<m->bM k I t defs m (p.length:Int)=I (match r.find? fun d=>decide (d.name=t.name) with
   |none=>(ou,false)
   |some d=>(d.body,MV d.body 0 0==0)):=by
 intro r
 induction r with
 |nil=>
  intro p m h q
  obtain ⟨m,rfl,z⟩:=py q
  simp only [bM,cr,xw h,n3,List.find?_nil]
  rfl
 |cons x r L=>
  intro p m h q
  obtain ⟨m,rfl,z⟩:=py q
  have hl:=hd.1
  obtain ⟨B,E,F,M⟩:=qH h (by omega)
  have A:=hd.2 x (by grind)
  simp only [bM,cr,B,ae,E,ql,ag hk.fu,ar,Jq,F]
  by_cases J:x.name=t.name
  ·rw [decide_eq_true J,ae,vU x.body A.1 _ A.2.1,nK A hk (by omega) (by omega),List.find?_cons_of_pos (by grind)]
  grind [n3]
theorem aII (hk:F3 k) {t:Tm} {defs:List Df} (hd:Is k defs) (I:Tm×Bool->OS S):cR k defs t I=I (KU defs t):=by
 have q:4294968296<=k:=hk
 simp only [cR,aAq]
 unfold KU
 by_cases h:t.k=2
 ·rw [h,show (!((2:Int)==2))=false from rfl,n3,if_pos rfl]
  exact aGZ hk I hd defs [] k rfl (by have:=hd.1;omega)
 ·rw [beq_false_of_ne h,sV,ae,if_neg h];rfl
def aux (r:Tm×Bool×Int) (s:Tm×Bool×Int):Tm×Bool×Int:=if r.2.1=true\/r.2.2≠0 then r else s
def nf (defs:List Df) (t:Tm):Tm×Bool×Int:=
 if bw t≠0 then (ou,false,bw t) else
 aux (ts t) (aux (pP t) (aux (u9 t) (aux (sf t) (if (KU defs t).2=true then ((KU defs t).1,true,0) else (ou,false,0)))))
theorem pick (I:Tm×Bool×Int->OS S) (r s:Tm×Bool×Int) {J N:OS S} (h:r.2.1=false->r.2.2=0->N=I s):
  ab r.2.1 (ab r.2.1 (I (r.1,r.2.1,r.2.2)) (ab (!(r.2.2==0)) (I (r.1,r.2.1,r.2.2)) J)) (ab (!(r.2.2==0)) (ab r.2.1 (I (r.1,r.2.1,r.2.2)) (ab (!(r.2.2==0)) (I (r.1,r.2.1,r.2.2)) J)) N)=I (aux r s):=by
 obtain ⟨x,b,e⟩:=r
 unfold aux
 dsimp only
 cases b<;>grind [ae,n3]
theorem aIA (F:F4 k) {t:Tm} {defs:List Df} (hd:Is k defs) (L:In k t) (I:Tm×Bool×Int->OS S):a_ k defs t I=I (nf defs t):=by
 have hk:=F.f3
 have O:4294968296<=k:=hk
 simp only [a_,aAp,ag hk.fu,ar,Ah L.1 L.2.1 L.dep]
 unfold nf
 by_cases M:bw t=0
 case neg=>rw [dj M,sV,ae,if_pos M];rfl
 rw [M,show (!((0:Int)==0))=false from rfl,n3,if_neg (by simp)]
 obtain ⟨m,T⟩: ∃m,k=m+5:=⟨k-5,by omega⟩
 have last: ∀q x z A B E,bH k I t defs (m+1) q x z A B E 0 4 false=I (if (KU defs t).2=true then ((KU defs t).1,true,0) else (ou,false,0)):=fun q x z A B E=>by
  simp only [bH,RO]
  rw [show decide ((4:Int)<4)=false from rfl,n3,n3,show (!((0:Int)==0))=false from rfl,n3]
  obtain ⟨j,hj⟩: ∃j,k=j+1:=⟨k-1,by omega⟩
  have:bK k I t defs k=co k I t defs:=by
   conv=>lhs;rw [hj]
   rw [hj];rfl
  rw [this]
  simp only [co,ag hk.fu,ar,aII hk hd]
  cases (KU defs t).2 with
  |true=>rfl
  |false=>rfl
 have rd: ∀ {n:Nat} {v:Int} (o s:Tm×Bool×Int),(∀q x z A B E,bH k I t defs n q x z A B E 0 (v+1) false=I s)->ot .i64 (v+1)=v+1-> ∀J,ab o.2.1 (ab o.2.1 (I (o.1,o.2.1,o.2.2)) (ab (!(o.2.2==0)) (I (o.1,o.2.1,o.2.2)) J)) (ab (!(o.2.2==0)) (ab o.2.1 (I (o.1,o.2.1,o.2.2)) (ab (!(o.2.2==0)) (I (o.1,o.2.1,o.2.2)) J)) (bH k I t defs n o.1.k o.1.n o.1.name o.1.r o.1.c o.1.s o.2.2 (ot .i64 (v+1)) o.2.1))=I (aux o s):=fun {n v} o s h hw J=>
  pick I o s fun h1 h2=>by grind
 have W: ∀q x z A B E,bH k I t defs (m+2) q x z A B E 0 3 false=I _:=fun q x z A B E=>by
  rw [bH]
  simp only [RO,ag hk.fu,ar,aIm F L]
  rw [show decide ((3:Int)<4)=true from rfl,ae,show ((3:Int)==0)=false from rfl,n3,show ((3:Int)==1)=false from rfl,n3,show ((3:Int)==2)=false from rfl,n3,show ((3:Int)==3)=true from rfl,ae]
  exact rd (v:=3) (sf t) _ last rfl _
 have Y: ∀q x z A B E,bH k I t defs (m+3) q x z A B E 0 2 false=I _:=fun q x z A B E=>by
  rw [bH]
  simp only [RO,ag hk.fu,ar,aIE F L]
  rw [show decide ((2:Int)<4)=true from rfl,ae,show ((2:Int)==0)=false from rfl,n3,show ((2:Int)==1)=false from rfl,n3,show ((2:Int)==2)=true from rfl,ae]
  exact rd (v:=2) (u9 t) _ W rfl _
 have r1: ∀q x z A B E,bH k I t defs (m+4) q x z A B E 0 1 false=I _:=fun q x z A B E=>by
  rw [bH]
  simp only [RO,ag hk.fu,ar,ajh F L]
  rw [show decide ((1:Int)<4)=true from rfl,ae,show ((1:Int)==0)=false from rfl,n3,show ((1:Int)==1)=true from rfl,ae]
  exact rd (v:=1) (pP t) _ Y rfl _
 have e: ∀q x z A B E,bH k I t defs k q x z A B E 0 0 false=bH k I t defs (m+5) q x z A B E 0 0 false:=fun q x z A B E=>congrArg (fun n=>bH k I t defs n q x z A B E 0 0 false) T
 rw [e,bH]
 simp only [RO,ag hk.fu,ar,aH3 F L]
 rw [show decide ((0:Int)<4)=true from rfl,ae,show ((0:Int)==0)=true from rfl,ae]
 exact rd (v:=0) (ts t) _ r1 rfl _
def MN (defs:List Df) (t:Tm) (f:Int):px (Int×Int) (Tm×Bool×Int):=
 if (nf defs t).2.2≠0/\0<f then .bD ((nf defs t).2.2,f)
 else if (nf defs t).2.1=false/\(nf defs t).2.2=0 then .ok (t,false,f)
 else if f=0 then .bD (220,f) else .ok ((nf defs t).1,true,f-1)
theorem aIB (q:F4 k) {t:Tm} {defs:List Df} (hd:Is k defs) (z:In k t) {f:Int} (hf:0<=f/\f<=100000) (I:px (Int×Int) (Tm×Bool×Int)->OS S):
  pX k t defs f I=I (MN defs t f):=by
 have hk:=q.f3
 have A:4294968296<=k:=hk
 obtain ⟨j,hj⟩: ∃j,k=j+1:=⟨k-1,by omega⟩
 have h1: ∀r1,dd k I defs f r1 k=fU k I defs f r1:=fun r1=>by
  conv=>lhs;rw [hj]
  rfl
 have B: ∀r1,azv k I defs f t r1 k=l3 k I defs f t r1 (fU k I defs f r1):=fun r1=>by
  rw [<-h1]
  conv=>lhs;rw [hj]
  rw [hj];rfl
 have E:ot .i64 (f-1)=f-1:=uY (by omega) (by omega)
 simp only [pX,ox,ag hk.fu,ar,aIA q hd z,B,l3,fU,E]
 unfold MN
 generalize nf defs t=r
 obtain ⟨x,b,e⟩:=r
 dsimp only
 by_cases he:e=0
 ·grind [n3,ae]
 ·rw [beq_false_of_ne he,sV,ae]
  by_cases F:f=0
  ·subst F
   rw [show decide ((0:Int)>0)=false from rfl,n3,if_neg (fun h=>by omega),if_neg (fun h=>he h.2),if_pos rfl]
   cases b<;>grind [ae,n3]
  grind [ae]
def p2 (kd:Int):Int:=if kd=6\/kd=9\/kd=10\/kd=13\/kd=18\/kd=15\/kd=14 then 0 else if kd=22 then 3 else if kd=27 then 4 else-1
def IK (t:Tm):Int:=if (t.c.length:Int)<ct t.k then-1 else p2 t.k
theorem aIs (hk:F3 k) (t:Tm) (I:Int->OS S):aU k t I=I (IK t):=by
 have J:4294968296<=k:=hk
 obtain ⟨j,hj⟩: ∃j,k=j+1:=⟨k-1,by omega⟩
 have L: ∀v,aV k I t k v=I (if (t.c.length:Int)<ct t.k then-1 else v):=fun v=>by
  grind [aV,bo,aiR,ag,ae,n3]
 simp only [aU,aAo,L]
 unfold IK p2
 by_cases M:t.k=6
 ·rw [M];rfl
 by_cases O:t.k=9
 ·rw [O];rfl
 by_cases q:t.k=10
 ·rw [q];rfl
 by_cases x:t.k=13
 ·rw [x];rfl
 by_cases z:t.k=18
 ·rw [z];rfl
 by_cases A:t.k=15
 ·rw [A];rfl
 by_cases B:t.k=14
 ·rw [B];rfl
 by_cases E:t.k=22
 ·rw [E];rfl
 by_cases F:t.k=27
 ·rw [F];rfl
 grind [n3]

theorem ZT {n:Nat} {l:LB} (h:Jx n l) {f:LC} (hf:aq f/\f.length<1073741824) {t:Tm} (q:Sm n t):Jx n (⟨f,[t]⟩::l):=by
 refine ⟨?_, ?_, ?_⟩
 ·rw [ba,Fa,aZ,aZ];exact ⟨⟨⟨hf.1,hf.2,by simp⟩,q.ok,trivial⟩,h.ok⟩
 ·rw [aI,Fq,ay,ay,uN,Nat.succ_mul]
  have:=h.dP;have:=q.dP;omega
 ·rw [aO,Ez,aH,aH]
  have:=h.dep;have:=q.dep;omega
theorem acF {kd:Int} (x:kd=22\/kd=27) {b:Tm} {q:LT} (fb:Fm b) (fm: ∀y∈q,Fm y) (I:q.length<=3): ∀ {r l:LB},(∀b∈r,b.c=[AK b]/\Fm (AK b)/\RX true b.f)->M0 kd b q r= .ok l->Jx 110000 l/\aO l<=299/\l.length=r.length/\l.map (·.f)=r.map (·.f):=by
 intro r
 induction r with
 |nil=>intro l _ h;rw [M0] at h;injection h with h;subst h;exact ⟨Dp _,by rw [aO];omega,rfl,rfl⟩
 |cons y r E=>
  intro l B h
  rw [M0] at h
  obtain ⟨ms,h1,h⟩:=i8 h
  obtain ⟨J,h2,h⟩:=i8 h
  injection h with h;subst h
  obtain ⟨i1,i2,i3,i4⟩:=E (fun b hb=>B b (by simp [hb])) h2
  obtain ⟨_,z,A⟩:=B y (by simp)
  obtain ⟨f1,f2⟩:=I_ fm h1
  obtain ⟨F,q2⟩:=pO x fb z f1 (by omega)
  refine ⟨ZT i1 (G9 A) (F.mono (by omega)), ?_,by simp [i3],by simp [i4]⟩
  rw [aO,Ez,aH,aH];omega
structure ElimP (k:Nat) (t:Tm) (f b line:Tm) (l:LB) (y:Tm):Prop where
 so:xv [(xQ t).c.getD 0 ou,(xQ t).c.getD 1 ou,J4 (xQ t).s]=0
 fill:FA ((xQ t).c.getD 0 ou) ((xQ t).c.getD 1 ou) (xQ t).s= .ok f
 up:J6 0 1 (t.c.getD 0 ou)= .ok b
 plug:K4 0 b f= .ok line
 brs:M0 t.k b (yt t) (xQ t).s= .ok l
 so2:xv [line,ig t.k (t.c.getD 0 ou) (yt t) ((xQ t).c.getD 1 ou),J4 l]=0
 comp:dF line (ig t.k (t.c.getD 0 ou) (yt t) ((xQ t).c.getD 1 ou)) l= .ok y
 fy:bw y=0
 ff:Fm f
 fb:Fm b
 fl:Fm line
 fa:Fm (ig t.k (t.c.getD 0 ou) (yt t) ((xQ t).c.getD 1 ou))
 fw:Fm (J4 l)
 bs:l.map (·.f)=(xQ t).s.map (·.f)
 yin:In k y
theorem KC (hk:F3 k) {t y:Tm} (ft:Fm t) (q:t.k=22\/t.k=27) (A:(xQ t).k=15) (h:RH t.k (t.c.getD 0 ou) (yt t) (xQ t)= .ok y): ∃f b line l,ElimP k t f b line l y:=by
 unfold RH at h
 obtain ⟨f,h1,h⟩:=i8 h
 obtain ⟨b,h2,h⟩:=i8 h
 obtain ⟨line,L,h⟩:=i8 h
 obtain ⟨l,M,h⟩:=i8 h
 obtain ⟨so2,fy,hc⟩:=BI h
 obtain ⟨so,ff,B⟩:=BI h1
 have hlen:2<=t.c.length/\t.c.length<=5:=by
  have:=ft.nk
  rcases q with h|h<;>rw [h] at this
  ·have e:ct 22=4:=rfl
   omega
  ·have e:ct 27=5:=rfl
   omega
 obtain ⟨gl,T⟩:=nw hlen.1
 have fx:=ft.bU T
 obtain ⟨u,a,x⟩:=I8 (E5 fx A (n:=2) rfl)
 obtain ⟨E,z⟩:=EC x
 have fu:Fm u:=fx.bU (by rw [x];simp)
 have fa:Fm a:=fx.bU (by rw [x];simp)
 obtain ⟨sy,W⟩:=fx.sy A
 have fp:Fm (t.c.getD 0 ou):=ft.bU (by
  match h:t.c,hlen.1 with
  |a::l,_=>simp)
 have J:=Jc hk fx
 have fm: ∀y∈yt t,Fm y:=fun y Y=>ft.bU (cu Y)
 have F:(yt t).length<=3:=by unfold yt;rw [List.length_drop,List.length_take];omega
 have O:Fm f:=⟨(ux hk (E▸fu) (z▸fa) (iQ (wg (E▸fu).ok (z▸fa).ok J.1 so).2.2) B).1.1,ff⟩
 have fb:=mD (by omega) fp h2
 have fl:=cx (by omega) fb O L
 obtain ⟨b1,b2,b3,b4⟩:=acF q fb fm F sy M
 have I:=Jb hk (by omega) b1 (by omega) b2
 obtain ⟨q1,q2⟩:=pO q fp (a:=(xQ t).c.getD 1 ou) (z▸fa) fm F
 obtain ⟨f1,f2,f3⟩:=wg fl.ok q1.ok I.1 so2
 exact ⟨f,b,line,l,so,B,h2,L,M,so2,hc,fy,O,fb,fl,f2,f3,b4,(yu hk f1 f2 (iQ f3) hc).1⟩
theorem acE (hk:F3 k) {t:Tm} (x:In k t):In k (pP t).1:=by
 unfold pP
 by_cases q:bw t=0
 case neg=>rw [if_pos q];exact gQ hk
 rw [if_neg (by simp [q])]
 have ft:Fm t:=⟨x.1,q⟩
 split
 case isTrue hc=>
  cases z:RH t.k (t.c.getD 0 ou) (yt t) (xQ t) with
  |error e=>exact gQ hk
  |ok y=>
   obtain ⟨f,b,line,l,hp⟩:=KC hk ft hc.1 hc.2 z
   show In k (if bw y=0 then (y,true,(0:Int)) else (ou,false,bw y)).1
   split
   ·exact hp.yin
   ·exact gQ hk
 case isFalse hc=>exact gQ hk
end
section
section
variable {n kd:Int} {u:Tm}
end
section
variable {f g:Int->LC->Except Int (LC)} {kd:Int}
end

variable {S:Type} {k:Nat}


section
variable {hd:Tm->(Int->OS S)->OS S} {t:Tm}
end
theorem ao6 {kd D E:Int} (h:D<=E): ∀ {l:LB},ba l->l.all (bX kd D)=true->l.all (bX kd E)=true:=by
 intro l
 induction l with
 |nil=>intro _ _;rfl
 |cons b l q=>
  intro ho hb
  obtain ⟨f,x⟩:=b
  rw [ba,Fa] at ho
  rw [List.all_cons,qk] at hb ⊢
  refine ⟨?_,q ho.2 hb.2⟩
  have h1:=hb.1
  unfold bX at h1 ⊢
  simp only [qk,decide_eq_true_eq] at h1 ⊢
  exact ⟨h1.1,h1.2.1,P' ((oB ho.1.1.1).1 h1.2.1).1 h1.2.2 h⟩
theorem aqc (t:Tm):pr t-> ∀ {V D E:Int},sL false V D t=true->D<=E->sL false (-1) E t=true:=by
 induction t using gq with
 |h kd n nm r T sys I J=>
  intro A V D E h z
  rw [pr] at A
  obtain ⟨W,Y,o3,M,o5,o6,o7⟩:=A.1
  have hk: ∀ {l:LT} {i:Nat},(∀x∈l,pr x-> ∀ {V D E:Int},sL false V D x=true->D<=E->sL false (-1) E x=true)->aZ l->bO false V D kd i l=true->bO false (-1) E kd i l=true:=by
   intro l
   induction l with
   |nil=>intro i _ _ _;rw [bO]
   |cons t l B=>
    intro i h hl ha
    rw [aZ] at hl
    rw [bO,qk] at ha ⊢
    rw [B2]
    exact ⟨h t (by simp) hl.1 ha.1 (by omega),B (fun x L=>h x (by simp [L])) hl.2 ha.2⟩
  have O: ∀ {l:LT},(∀x∈l,pr x-> ∀ {V D E:Int},sL false V D x=true->D<=E->sL false (-1) E x=true)->aZ l->ca false V D kd l=true->ca false (-1) E kd l=true:=by
   intro l
   induction l with
   |nil=>intro _ _ _;rw [ca]
   |cons t l B=>
    intro h hl ha
    rw [aZ] at hl
    rw [ca,qk] at ha ⊢
    exact ⟨h t (by simp) hl.1 ha.1 (by omega),B (fun x L=>h x (by simp [L])) hl.2 ha.2⟩
  have hs: ∀ {l:LB},(∀b∈l,∀x∈b.c,pr x-> ∀ {V D E:Int},sL false V D x=true->D<=E->sL false (-1) E x=true)->ba l->ck false V D kd l=true->ck false (-1) E kd l=true:=by
   intro l
   induction l with
   |nil=>intro _ _ _;rw [ck]
   |cons b l B=>
    intro h hl ha
    obtain ⟨f,F⟩:=b
    rw [ba,Fa] at hl
    rw [ck,jT,qk] at ha ⊢
    exact ⟨O (l:=F) (h ⟨f,F⟩ (by simp)) hl.1.2 ha.1,B (fun b hb=>h b (by simp [hb])) hl.2 ha.2⟩
  rw [sL,qk,qk,qk] at h ⊢
  refine ⟨rfl, ?_,hk I A.2.1 h.2.2.1,hs J A.2.2 h.2.2.2⟩
  have h2:=h.2.1
  unfold cL at h2 ⊢
  simp only [qk] at h2 ⊢
  refine ⟨h2.1, ?_⟩
  have q:=h2.2
  split
  ·rename_i c
   rw [if_pos c] at q
   simp only [qk,decide_eq_true_eq] at q ⊢
   exact ⟨q.1,q.2.1,.inl (by omega)⟩
  ·rename_i c
   rw [if_neg c] at q
   split
   ·rename_i c
    rw [if_pos c] at q;exact q
   ·rename_i c
    rw [if_neg c] at q
    split
    ·rename_i c
     rw [if_pos c,qk] at q
     rw [qk]
     exact ⟨q.1,P' ((L6 M).1 q.1) q.2 z⟩
    ·rename_i c
     rw [if_neg c] at q
     split
     ·rename_i c
      rw [if_pos c,qk] at q
      rw [qk]
      exact ⟨q.1,P' ((oB M).1 q.1).1 q.2 z⟩
     ·rename_i c
      rw [if_neg c,qk] at q
      rw [qk]
      exact ⟨ao6 z A.2.2 q.1,q.2⟩
theorem apu {t:Tm} (h:In k t) {V D:Int} (q:MV t V D=0):Fm t:=by
 have x:=q
 unfold MV at q
 split at q
 ·cases q
 split at q
 ·cases q
 split at q
 ·cases q
 obtain ⟨_,_,hs⟩:=aoN x
 exact ⟨h.1,pS (by omega) (by omega) (aqc t h.1 (aoD t hs) (aoS hs))⟩
structure MayR (k:Nat) (x t:Tm) (V D:Int) (r:Tm×Bool×Int):Prop where
 ins:In k r.1
 no:r.2.1=false->r.1=ou
 ok:r.2.1=true->r.2.2=0/\MV r.1 V D=0/\r.1.k=x.k/\(x.k=15->r.1.s.map (·.f)=x.s.map (·.f))
def Ie (r:Tm×Bool×Int):Prop:=r.2.1=true->bw r.1=0/\r.2.2=0
theorem Ho (e:Int):Ie (ou,false,e):=fun h=>by cases h
theorem aAR (q:Tm×Int):(∃e,L9 q=(ou,false,e))\/q.2=0/\bw q.1=0/\L9 q=(q.1,true,0):=by
 grind [L9,dM]
theorem Sd (q:Tm×Int):Ie (L9 q):=by
 rcases aAR q with ⟨e,he⟩|⟨_,h,he⟩
 ·rw [he];exact Ho e
 ·rw [he];exact fun _=>⟨h,rfl⟩
theorem aAt (x:Except Int Tm):Ie (Fy x):=by
 cases x with
 |error e=>exact Ho e
 |ok t=>
  by_cases h:bw t=0
  ·rw [show Fy (.ok t)=(t,true,0) from if_pos h];exact fun _=>⟨h,rfl⟩
  grind [Fy,Ho]
theorem EI {c:Prop} [Decidable c] {a b:Tm×Bool×Int} (ha:Ie a) (hb:Ie b):Ie (if c then a else b):=by
 grind
theorem cy {r s:Tm×Bool×Int} (q:Ie r) (hs:Ie s):Ie (aux r s):=EI q hs
theorem aI5 (t:Tm):Ie (fR t):=EI (Ho _) (EI (Sd _) (Ho _))
theorem aI3 (t:Tm):Ie (h_ t):=EI (Ho _) (EI (aAt _) (Ho _))
theorem aI4 (t:Tm):Ie (pP t):=EI (Ho _) (EI (aAt _) (Ho _))
theorem aI7 (t:Tm):Ie (u9 t):=EI (Ho _) (EI (Ho _) (EI (Sd _) (EI (Sd _) (EI (Sd _) (EI (Sd _) (EI (aI3 t) (EI (aI5 t) (Ho _))))))))
theorem aI2 (t:Tm):Ie (ts t):=EI (Ho _) (EI (Sd _) (Ho _))
theorem aI6 (t:Tm):Ie (sf t):=EI (Ho _) (EI (Sd _) (EI (Ho _) (EI (aAt _) (Ho _))))
theorem aI8 {defs:List Df} (hd:Is k defs) (t:Tm):Ie (if (KU defs t).2=true then ((KU defs t).1,true,0) else (ou,false,0)):=by
 by_cases h:(KU defs t).2=true
 ·rw [if_pos h]
  refine fun _=>⟨?_,rfl⟩
  unfold KU at h ⊢
  by_cases h2:t.k=2
  ·rw [if_pos h2] at h ⊢
   cases hf:defs.find? fun d=>decide (d.name=t.name) with
   |none=>grind
   |some d=>
    rw [hf] at h
    have h:(MV d.body 0 0==0)=true:=h
    exact (apu (hd.2 d (List.mem_of_find?_eq_some hf)) (by simpa using h)).2
  grind
 grind [Ho]
theorem aDp {defs:List Df} (hd:Is k defs) (t:Tm):Ie (nf defs t):=EI (Ho _) (cy (aI2 t) (cy (aI4 t) (cy (aI7 t) (cy (aI6 t) (aI8 hd t)))))
theorem aE5 {kd D:Int} {f:LC} {ks:LT} (h:(ks.length:Int)=xV kd) (h1:cV f=true) (h2:dg f D=true):bX kd D ⟨f,ks⟩=true:=by
 show (decide ((ks.length:Int)=xV kd)&&(cV f&&dg f D))=true
 grind
section
variable {V D:Int} {a y k0:Tm} {sys:LB}
end
section
variable {V D:Int} {a y:Tm} {sys:LB}
end
theorem aDu {V D kd:Int}: ∀ {l:LB},(∀y∈l,bX kd D y=true/\ca false V D kd y.c=true)->l.all (bX kd D)=true/\ck false V D kd l=true:=by
 intro l
 induction l with
 |nil=>grind [ck]
 |cons x l q=>
  intro h
  obtain ⟨A,q2⟩:=h x (by simp)
  obtain ⟨i1,i2⟩:=q fun y z=>h y (by simp [z])
  obtain ⟨f,B⟩:=x
  grind [ck,jT]
theorem wM1 {V D kd:Int} {t:Tm}:ca false V D kd [t]=true↔Wk0 V (D+av kd) t:=by grind [ca]
theorem aJi {V D kd:Int} {a b:LB} (ha:a.all (bX kd D)=true/\ck false V D kd a=true) (hb:b.all (bX kd D)=true/\ck false V D kd b=true):(a++b).all (bX kd D)=true/\ck false V D kd (a++b)=true:=by
 grind [wH]
def Wb (n V D:Int) (t:Tm):Prop:=Wk0 V D t/\True
theorem Wb.mono {n m V D:Int} {t:Tm} (h:Wb n V D t) (hn:n<=m):Wb m V D t:=h
def WB (n kd V D:Int) (l:LB):Prop:=(l.all (bX kd D)=true/\ck false V D kd l=true)/\True
theorem WB.app {n kd V D:Int} {a b:LB} (ha:WB n kd V D a) (hb:WB n kd V D b):WB n kd V D (a++b):=⟨aJi ha.1 hb.1,trivial⟩
theorem WB.nil {n kd V D:Int}:WB n kd V D []:=⟨aDu (fun y q=>by cases q),trivial⟩
theorem WB.of {n kd V D:Int} (hp:xV kd=1) {l:LB} (h: ∀b∈l,∃z,b.c=[z]/\cV b.f=true/\dg b.f D=true/\Wb n V (D+av kd) z):WB n kd V D l:=by
 refine ⟨aDu fun b hb=> ?_,trivial⟩
 obtain ⟨z,q,q2,x,A⟩:=h b hb
 obtain ⟨f,B⟩:=b
 have q:B=[z]:=q
 subst q
 exact ⟨aE5 (by grind) q2 x,wM1.2 A.1⟩
variable {n V D:Int}
section
variable {oe:LC} {V D n:Int}
end
section
variable {oe:LC} {V D n:Int}
end


section
variable {t g b a:Tm}
theorem aF_ (z:Fm g) (A:g.k=16): ∀ {l l':LB},(∀b∈l,b.c=[AK b]/\Fm (AK b)/\RX true b.f)->fi (eh g) l= .ok l'->cz 50000 l'/\l'.length=l.length:=by
 intro l
 induction l with
 |nil=>grind [fi,Ma]
 |cons x l B=>
  intro l' q h
  rw [fi] at h
  obtain ⟨u,g1,h⟩:=i8 h
  obtain ⟨m,g2,h⟩:=i8 h
  injection h with h;subst h
  obtain ⟨i1,i2⟩:=B (fun b hb=>q b (by simp [hb])) g2
  obtain ⟨E,q2,F⟩:=q x (by simp)
  have:=azZ (u:=u) (.inl (mD (by omega) (azf z A) g1)) q2
  grind [Mv,G9]
theorem aGb (hk:F3 k) (ft:Fm t) (fb:Fm b): ∀ {l l':LB},(∀b∈l,b.c=[AK b,k1 b]/\Fm (AK b)/\Fm (k1 b)/\RX true b.f)->fW b t.s l= .ok l'->cz 500000 l'/\l'.length=l.length:=by
 intro l
 induction l with
 |nil=>grind [fW,Ma]
 |cons x l E=>
  intro l' q h
  rw [fW] at h
  obtain ⟨f,g1,h⟩:=i8 h
  obtain ⟨w,g2,h⟩:=i8 h
  obtain ⟨m,g3,h⟩:=i8 h
  injection h with h;subst h
  obtain ⟨i1,i2⟩:=E (fun b hb=>q b (by simp [hb])) g3
  obtain ⟨M,q2,F,I⟩:=q x (by simp)
  have ff:=mD (by omega) F g1
  obtain ⟨so,z,A⟩:=BI g2
  have B:=Jc hk ft
  have fw:Fm w:=⟨(ux hk q2 fb (iQ (wg q2.ok fb.ok B.1 so).2.2) A).1.1,z⟩
  have J:=Mx (kd:=9) (by omega) (n:=20000) (ks:=[f]) (fun x q=>by simp at q;subst q;exact ⟨ff.sm,by have:=ff.dep;omega⟩) (by simp)
  have L:=Mx (kd:=6) (by omega) (n:=80001) (ks:=[dS 9 [f],w]) (fun x q=>by
   simp at q
   rcases q with rfl|rfl
   ·refine ⟨J.1, ?_⟩
    unfold dS;rw [am,aH,aH,aO];have:=ff.dep;omega
   ·exact ⟨fw.sm.mono (by omega),by have:=fw.dep;omega⟩) (by simp)
  exact ⟨Mv (G9 I) (L.1.mono (by omega)) (by omega) i1,by grind⟩
end
theorem aG5 (hk:F3 k) {t y:Tm} (ft:Fm t) (x:t.k=15) (q:(t.c.getD 0 ou).k=16) (h:Lo t= .ok y):In k y/\y.k=17:=by
 obtain ⟨g,b,z⟩:=I8 (E5 ft x (n:=2) rfl)
 obtain ⟨d0,d1⟩:=EC z
 have A:Fm g:=ft.bU (by grind)
 have fb:Fm b:=ft.bU (by grind)
 obtain ⟨sy,B⟩:=ft.sy x
 rw [d0] at q
 obtain ⟨E,hl,a,F,fa⟩:=A.gl q
 unfold Lo at h
 rw [d0,d1] at h
 obtain ⟨O,I,h⟩:=i8 h
 obtain ⟨T,J,h⟩:=i8 h
 injection h with h;subst h
 obtain ⟨L,W⟩:=aF_ A q sy I
 obtain ⟨M,Y⟩:=aGb hk ft fb E J
 exact ⟨aCw hk ft A q (by grind) fa fb L (by omega) M (by omega),rfl⟩

section
variable {hd:Tm->(Int->OS S)->OS S} {t:Tm}
end
theorem aFZ (hk:F3 k) {oe:LC} {g a:Tm} (L:Fm g) (M:g.k=16) (fa:Fm a) (hp:RX true oe):pr (W2 oe g a).1:=by
 obtain ⟨E,sB,lB⟩:=aAK hk L M fa hp
 unfold W2
 dsimp only
 generalize Sv g oe a=B at E sB lB ⊢
 obtain ⟨st,a1,c0⟩:=B
 dsimp only at E sB lB ⊢
 have O:GN (mM c0 (wD 0 [⟨0,0⟩] g)).1:=h5 L M Qz (aBA (by decide))
 generalize mM c0 (wD 0 [⟨0,0⟩] g)=G at O ⊢
 obtain ⟨f1,I,lG,_⟩:=aBc O
 have A:=aDv (oe:=oe) (st:=st) (a1:=a1) (t1:=Ib G.1.c) (c:=G.2) hk fa E f1 hp sB lB I
 have J:(wq (ky oe a a1 (Ib G.1.c) st) G.2 G.1.s).1.length=G.1.s.length:=Nd
 generalize wq (ky oe a a1 (Ib G.1.c) st) G.2 G.1.s=ws at A J ⊢
 have T: ∀c,FN (mM c (wA 0 1 a1)).1:=fun c=>Fs (by omega) (by omega) E.sm.1.ok
 obtain ⟨Y,w2⟩:=s6 (F:=fun c=>mM c (wA 0 1 a1)) hp (n:=20000) (fun c=>⟨(T c).sm.1,by have:=(T c).sm.2;omega⟩) ws.2
 generalize EH oe (fun c=>mM c (wA 0 1 a1)) ws.2=W at Y w2 ⊢
 have x: ∀q∈G.1.s.zip ws.1,q.1∈G.1.s/\q.2∈ws.1:=fun q z=>⟨(List.of_mem_zip z).1,(List.of_mem_zip z).2⟩
 generalize hZ:wq (MT a1) W.2 (G.1.s.zip ws.1)=Z
 have zq: ∀y∈Z.1,∃t,y.c=[t]/\pr t/\am t<=299/\aq y.f/\y.f.length<1073741824:=by
  rw [<-hZ]
  exact Sz fun q z c=>aA7 E.sm.1.ok (A q.2 (x q z).2).1.ok (I q.1 (x q z).1).2.2.1.ok (G9 (I q.1 (x q z).1).2.2.2) c
 have zl:Z.1.length=(G.1.s.zip ws.1).length:=by grind [Nd]
 have pq: ∀y∈(G.1.s.zip ws.1).map ib,∃t,y.c=[t]/\pr t/\am t<=301/\aq y.f/\y.f.length<1073741824:=fun y hy=>by
  obtain ⟨q,z,rfl⟩:=xl.1 hy
  obtain ⟨h1,h2⟩:=A q.2 (x q z).2
  have r:=G9 (I q.1 (x q z).1).2.2.2
  refine ⟨_,rfl, ?_, ?_,r.1,r.2⟩
  ·unfold dS;rw [pr,aZ,aZ,ba];exact ⟨⟨by unfold aG;omega,by unfold aG;omega,by decide,(fun c hc=>by cases hc),by simp,by simp,by simp⟩,⟨h1.ok,trivial⟩,trivial⟩
  grind [dS,am,aH,aO]
 obtain ⟨o1,o2⟩:=r5 (l:=W.1++Z.1) (n:=299) fun y hy=>by
  rcases xN.1 hy with hy|hy
  ·obtain ⟨t,q1,q2,q3,q4,q5⟩:=Y y hy;exact ⟨t,q1,q2.ok,q3,q4,q5⟩
  grind
 obtain ⟨o3,o4⟩:=r5 pq
 have ad:(G.1.s.zip ws.1).length<=10000:=by grind
 rw [pr,aZ,aZ,pr,aZ,aZ,aZ]
 exact ⟨⟨by unfold aG;omega,by unfold aG;omega,by decide,(fun c hc=>by cases hc),by simp,by simp,by grind⟩,⟨⟨⟨by unfold aG;omega,by unfold aG;omega,by decide,(fun c hc=>by cases hc),by simp,by simp,by grind⟩,⟨f1.sm.1.ok,E.sm.1.ok,trivial⟩,o1⟩,trivial⟩,o3⟩
theorem IQ:pr ou:=Ko.1.ok
theorem Si {q:Tm×Int} (h:pr q.1):pr (L9 q).1:=by
 grind [aAR,IQ]
theorem aG7 {x:Except Int Tm} (h: ∀y,x= .ok y->pr y):pr (Fy x).1:=by
 cases x<;>grind [IQ,Fy]
theorem Ht {c:Prop} [Decidable c] {a b:Tm×Bool×Int} (ha:c->pr a.1) (hb: ¬c->pr b.1):pr (if c then a else b).1:=by
 grind
theorem An:F4 4294970296:=by simp
theorem aI9 {t:Tm} (ft:Fm t):pr (u9 t).1:=by
 have z:=An
 have hk:=z.f3
 unfold u9
 refine Ht (fun _=>IQ) fun _=>Ht (fun _=>IQ) fun x=> ?_
 have x:t.k=14:=Decidable.not_not.1 x
 obtain ⟨l,a,F⟩:=I8 (E5 ft x (n:=2) rfl)
 obtain ⟨A,B⟩:=EC F
 have fl:Fm l:=ft.bU (by grind)
 have fa:Fm a:=ft.bU (by grind)
 have hp:=ft.r14 x
 dsimp only
 rw [A,B]
 refine Ht (fun _=>Si fa.ok) fun _=>Ht (fun W=>Si ?_) fun _=>Ht (fun Y=>Si ?_) fun _=>Ht (fun I=>Si ?_) fun _=>Ht (fun _=>(apb hk (ft.isIn hk)).1) fun _=>Ht (fun J=> ?_) fun _=>IQ
 ·obtain ⟨k0,L,hb⟩:=I8 (E5 fl W (n:=2) rfl)
  obtain ⟨M,O⟩:=EC hb
  rw [M,O]
  obtain ⟨x1,x2,x3,x4,x5,x6⟩:=a
  obtain ⟨T,c,_,q2,E⟩:=aDg (S:=Unit) (oe:=t.r) z hb (fl.bU (by grind)) (fl.bU (by grind)) fa hp (fun _=>none)
  rw [<-q2];exact E.1
 ·obtain ⟨k0,L,hb⟩:=I8 (E5 fl Y (n:=2) rfl)
  obtain ⟨M,O⟩:=EC hb
  rw [M,O]
  obtain ⟨x1,x2,x3,x4,x5,x6⟩:=a
  obtain ⟨T,c,_,q2,E⟩:=aDi (S:=Unit) (oe:=t.r) z hb (fl.bU (by grind)) (fl.bU (by grind)) fa hp (fun _=>none)
  rw [<-q2];exact E.1
 ·obtain ⟨k0,kl,kr,hb⟩:=azt (E5 fl I (n:=3) rfl)
  rw [show l.c.getD 0 ou=k0 by grind,show l.c.getD 1 ou=kl by grind,show l.c.getD 2 ou=kr by grind]
  obtain ⟨x1,x2,x3,x4,x5,x6⟩:=a
  obtain ⟨T,c,_,q2,E⟩:=aDf (S:=Unit) (oe:=t.r) hk hb (fl.bU (by grind)) (fl.bU (by grind)) (fl.bU (by grind)) fa hp (fun _=>none)
  rw [<-q2];exact E.1
 ·unfold fR
  refine Ht (fun _=>IQ) fun _=>Ht (fun _=> ?_) fun _=>IQ
  rw [A,B]
  exact Si (q:=W2 t.r l a) (aFZ hk fl J fa hp)
theorem aE1 {t:Tm} (ft:Fm t):pr (ts t).1:=Ht (fun _=>IQ) fun _=>Ht (fun _=>Si (aAJ ft).1) fun _=>IQ
theorem aF3 {t:Tm} (ft:Fm t):pr (sf t).1:=by
 have J:=An
 have hk:=J.f3
 unfold sf
 refine Ht (fun _=>IQ) fun h0=>Ht (fun h=> ?_) fun hn=> ?_
 ·obtain ⟨k0,a,B⟩:=I8 (E5 ft h.1 (n:=2) rfl)
  obtain ⟨d0,d1⟩:=EC B
  have fa:Fm a:=ft.bU (by grind)
  obtain ⟨sy,z⟩:=ft.sy h.1
  rw [d1]
  have Y:=Sz (F:=L5 a) (Q:=dx) (l:=t.s) (c:=0) fun x T c=>aDr fa ⟨(sy x T).2.1,(sy x T).2.2⟩ c
  have hl:(wq (L5 a) 0 t.s).1.length=t.s.length:=Nd
  obtain ⟨b1,b2,b3⟩:=aAN Y
  refine Si ?_
  show pr (.mk 16 0 pf [] [a] (wq (L5 a) 0 t.s).1)
  rw [pr,aZ,aZ]
  exact ⟨⟨by unfold aG;omega,by unfold aG;omega,by decide,(fun c hc=>by cases hc),by simp,by simp,by omega⟩,⟨fa.ok,trivial⟩,b1⟩
 ·unfold Sr
  refine Ht (fun _=>IQ) fun _=>Ht (fun hc=>aG7 fun y q=> ?_) fun _=>IQ
  obtain ⟨E,L⟩:=hc
  obtain ⟨k0,a,B⟩:=I8 (E5 ft E (n:=2) rfl)
  obtain ⟨d0,d1⟩:=EC B
  have A:Fm k0:=ft.bU (by grind)
  have fa:Fm a:=ft.bU (by grind)
  obtain ⟨sy,z⟩:=ft.sy E
  rw [d0] at L
  unfold azm at q
  rw [d0,d1] at q
  dsimp only at q
  by_cases M:k0.k=4
  ·rw [if_pos M] at q
   obtain ⟨p,b,hb⟩:=I8 (E5 A M (n:=2) rfl)
   rw [(EC hb).2] at q
   obtain ⟨x1,x2,x3,x4,x5,x6⟩:=a
   obtain ⟨W,i1,_,i3,i4,_⟩:=aC_ (S:=Unit) hk hb (A.bU (by grind)) fa sy z (fun _=>none)
   rw [<-(i4 y q).1];exact i3.1
  rw [if_neg M] at q
  by_cases O:k0.k=7
  ·rw [if_pos O] at q
   obtain ⟨p,b,hb⟩:=I8 (E5 A O (n:=2) rfl)
   rw [(EC hb).1,(EC hb).2] at q
   obtain ⟨x1,x2,x3,x4,x5,x6⟩:=a
   obtain ⟨W,i1,_,i3,i4,_⟩:=aDa (S:=Unit) J hb (A.bU (by grind)) (A.bU (by grind)) fa sy z (fun _=>none)
   rw [<-(i4 y q).1];exact i3.1
  rw [if_neg O] at q
  by_cases I:k0.k=11
  ·rw [if_pos I] at q
   obtain ⟨p,l,r,hb⟩:=azt (E5 A I (n:=3) rfl)
   rw [hb] at q
   obtain ⟨x1,x2,x3,x4,x5,x6⟩:=a
   obtain ⟨W,i1,_,i3,i4,_⟩:=aC9 (S:=Unit) hk hb (A.bU (by grind)) (A.bU (by grind)) (A.bU (by grind)) fa sy z (fun _=>none)
   rw [<-(i4 y q).1];exact i3.1
  rw [if_neg I] at q
  by_cases h3:k0.k=3
  ·grind
  rw [if_neg h3] at q
  exact (aG5 hk ft E (by grind) q).1.1
theorem aJb {defs:List Df} (hd:Is k defs) (t:Tm):pr (if (KU defs t).2=true then ((KU defs t).1,true,(0:Int)) else (ou,false,0)).1:=by
 refine Ht (fun h=> ?_) fun _=>IQ
 unfold KU at h ⊢
 by_cases h2:t.k=2
 ·rw [if_pos h2] at h ⊢
  cases hf:defs.find? fun d=>decide (d.name=t.name) with
  |none=>grind
  |some d=>exact (hd.2 d (List.mem_of_find?_eq_some hf)).1
 grind
theorem ea {r s:Tm×Bool×Int} (q:pr r.1) (hs:pr s.1):pr (aux r s).1:=Ht (fun _=>q) fun _=>hs
theorem aIS {defs:List Df} (hd:Is k defs) {t:Tm} (q:pr t):pr (nf defs t).1:=by
 unfold nf
 refine Ht (fun _=>IQ) fun x=> ?_
 have ft:Fm t:=⟨q,Decidable.not_not.1 x⟩
 exact ea (aE1 ft) (ea (acE An.f3 (ft.isIn An.f3)).1 (ea (aI9 ft) (ea (aF3 ft) (aJb hd t))))
theorem az0 {defs:List Df} (hd:Is k defs) {t:Tm} (q:pr t) (h:(nf defs t).2.1=true):Fm (nf defs t).1/\(nf defs t).2.2=0:=
 ⟨⟨aIS hd q,(aDp hd t h).1⟩,(aDp hd t h).2⟩
noncomputable def oS {α:Type} (a b:α):Bool:= @decide (a=b) (Classical.propDecidable _)
theorem Ns {α:Type} {a b:α} (h:a=b):oS a b=true:=by grind [oS]
theorem K3 {α:Type} {a b:α} (h:a≠b):oS a b=false:=by grind [oS]
section
variable {hd:B9 S}
theorem aGO (I:Bool->OS S) {l z:LT} (E: ∀y∈l,∀u g,hd y u g=g (oS y u)) (hl:l.length<4294967296):
  ∀ (r s p q:LT) (m:Nat),l=p++r->z=q++s->p.length=q.length->r.length=s.length->r.length<m->xf hd k I z l m (p.length:Int)=I (oS r s):=by
 intro r
 induction r with
 |nil=>
  grind [py,xf,r9,n3,Ns]
 |cons x r F=>
  intro s p q m h h2 hp hs J
  obtain ⟨m,rfl,A⟩:=py J
  obtain ⟨L,M,O,T⟩:=qH h (by omega)
  cases s with
  |nil=>simp at hs
  |cons y s=>
  have g2:af z (p.length:Int)=some y:=by rw [h2,hp];exact ED (n:=q.length) rfl (by simp)
  simp only [xf,r9,L,ae,M,g2,ql,ar,E x (by grind),O]
  by_cases B:x=y
  ·subst B
   rw [Ns rfl,va,n3,F s (p++[x]) (q++[x]) m T (by grind) (by simp [hp]) (by grind) A]
   by_cases W:r=s<;>grind [Ns,K3,List.cons.inj]
  grind [K3,ae,List.cons.inj]
theorem aC8 (hk:4294967296<=k) (I:Bool->OS S) {l:LT} (x:LT) (z: ∀y∈l,∀u g,hd y u g=g (oS y u)) (hl:l.length<4294967296):j4 hd k l x I=I (oS l x):=by
 simp only [j4,aAm]
 by_cases h:l.length=x.length
 ·rw [h,beq_self_eq_true,va,n3]
  exact aGO I z hl l x [] [] k rfl rfl rfl h (by omega)
 ·rw [beq_false_of_ne (by omega),sV,ae,K3 (fun q=>h (congrArg EO q))]
theorem aGP (hk:4294967296+1<=k) (I:Bool->OS S) {l B:LB} (L: ∀b∈l,∀y∈b.c,∀u g,hd y u g=g (oS y u)) (hb: ∀b∈l,b.c.length<4294967296/\b.f.length<4294967296) (hl:l.length<4294967296):
  ∀ (r s p q:LB) (m:Nat),l=p++r->B=q++s->p.length=q.length->r.length=s.length->r.length<m->qd hd k I B l m (p.length:Int)=I (oS r s):=by
 have z:Fu k:=by omega
 intro r
 induction r with
 |nil=>
  grind [py,qd,l2,n3,Ns]
 |cons x r M=>
  intro s p q m h h2 hp hs O
  obtain ⟨m,rfl,E⟩:=py O
  obtain ⟨T,W,Y,e4⟩:=qH h (by omega)
  cases s with
  |nil=>simp at hs
  |cons y s=>
  have g2:af B (p.length:Int)=some y:=by rw [h2,hp];exact ED (n:=q.length) rfl (by simp)
  obtain ⟨b1,b2⟩:=hb x (by grind)
  have hx: ∀g:Bool->OS S,dt hd k x y g=g (oS x y):=fun g=>by
   obtain ⟨f,J⟩:=x
   obtain ⟨f',A⟩:=y
   simp only [dt,ag z,iv z b2,aC8 (by omega) _ A (L ⟨f,J⟩ (by grind)) b1]
   by_cases hf:f=f'
   ·subst hf
    rw [decide_eq_true rfl,ae]
    by_cases ad:J=A<;>simp_all [Ns,K3]
   simp_all [n3,K3]
  simp only [qd,l2,T,ae,W,g2,ql,ag z,hx,Y]
  by_cases F:x=y
  ·subst F
   rw [Ns rfl,va,n3,M s (p++[x]) (q++[x]) m e4 (by grind) (by simp [hp]) (by grind) E]
   by_cases ao:r=s<;>grind [Ns,K3,List.cons.inj]
  grind [K3,ae,List.cons.inj]
end
theorem aID (t:Tm):pr t-> ∀ {k:Nat} (u:Tm) (I:Bool->OS S),Fd k (am t+1)->KZ k t u I=I (oS t u):=by
 induction t using c7 with
 |h t E F=>
  intro B k u I hk
  obtain ⟨q,rfl⟩: ∃q,k=q+1:=⟨k-1,by omega⟩
  have hq:4294967296+1<=q:=by grind [HE]
  have x:Fu q:=by omega
  obtain ⟨o1,o2,o3,o4,o5,o6,o7⟩:=B.no
  have ad:4294967296+(am t+1)<=q+1:=hk
  have hQ: ∀y∈t.c,∀ (v:Tm) (g:Bool->OS S),KZ q y v g=g (oS y v):=fun y z v g=>E y z (B.ki z) v g (by have:=bY z;omega)
  have J: ∀b∈t.s,∀y∈b.c,∀ (v:Tm) (g:Bool->OS S),KZ q y v g=g (oS y v):=fun b hb y z v g=>F b hb y z ((B.bi hb).2 y z) v g (by have:=b8 hb z;omega)
  have hS: ∀ (A:LB) (g:Bool->OS S),bz (KZ q) q t.s A g=g (oS t.s A):=fun A g=>by
   simp only [bz,aAl]
   by_cases h:t.s.length=A.length
   ·rw [h,beq_self_eq_true,va,n3]
    exact aGP hq g J (fun b hb=>by have:=(B.bi hb).1;omega) (by omega) t.s A [] [] q rfl rfl rfl h (by omega)
   ·rw [beq_false_of_ne (by omega),sV,ae,K3 (fun q=>h (congrArg EO q))]
  have e:KZ (q+1) t u I=a7 (KZ q) q I t u:=rfl
  rw [e]
  simp only [a7,ag x,Jq,iv x (show t.r.length<4294967296 by omega),aC8 x _ u.c hQ (show t.c.length<4294967296 by omega),hS]
  obtain ⟨a1,a2,a3,a4,a5,L⟩:=t
  obtain ⟨M,O,T,W,Y,b6⟩:=u
  show ab (a1==M) (ab (a2==O) (ab (decide (a3=T)) (ab (decide (a4=W)) (ab (oS a5 Y) (I (oS L b6)) (I false)) (I false)) (I false)) (I false)) (I false)=_
  by_cases h1:a1=M
  case neg=>simp_all [beq_false_of_ne,n3,K3]
  by_cases h2:a2=O
  case neg=>simp_all [ae,beq_false_of_ne,n3,K3]
  by_cases h3:a3=T
  case neg=>simp_all [ae,n3,K3]
  by_cases h4:a4=W
  case neg=>simp_all [ae,n3,K3]
  by_cases h5:a5=Y
  case neg=>simp_all [ae,K3,n3]
  subst h1;subst h2;subst h3;subst h4;subst h5
  rw [beq_self_eq_true,ae,beq_self_eq_true,ae,decide_eq_true rfl,ae,decide_eq_true rfl,ae,Ns rfl,ae]
  by_cases h6:L=b6<;>simp_all [Ns,K3]
def JT (t:Tm):Prop:=pr t/\am t<=300/\au t<=1000000
theorem JT.isIn {t:Tm} (h:JT t) (hk:F3 k):In k t:=⟨h.1,hk.fd (by have:=h.2.1;omega),by have:=h.2.2;omega⟩
theorem Fm.jt {t:Tm} (h:Fm t):JT t:=⟨h.ok,by have:=h.dep;omega,by have:=h.dP;omega⟩
def K7 (defs:List Df):Prop:=defs.length<1073741824/\ ∀d∈defs,JT d.body
theorem K7.isIn {defs:List Df} (h:K7 defs) (hk:F3 k):Is k defs:=⟨h.1,fun d hd=>(h.2 d hd).isIn hk⟩
theorem aIP: ∀ {l:LT} {i:Nat} {a:Tm},aZ l->pr a->aZ (l.set i a)/\aH (l.set i a)<=max (aH l) (am a)/\ay (l.set i a)<=ay l+au a:=by
 intro l
 induction l with
 |nil=>grind
 |cons x l q=>
  intro i a h ha
  rw [aZ] at h
  cases i<;>grind [aZ,aH,ay]
theorem azV {t a:Tm} {i:Nat} (ft:Fm t) (fa:Fm a):JT (atR t i a):=by
 have h1:=ft.ok;have h2:=ft.dep;have q:=ft.dP;have z:=fa.dep;have A:=fa.dP
 obtain ⟨kd,n,nm,r,x,sys⟩:=t
 rw [pr] at h1
 rw [am] at h2
 rw [au] at q
 obtain ⟨B,q2,E⟩:=aIP (i:=i) h1.2.1 fa.ok
 obtain ⟨F,I,J,L,M,O,T⟩:=h1.1
 show JT (.mk kd n nm r (x.set i a) sys)
 refine ⟨?_, ?_, ?_⟩
 all_goals grind [pr,am,au]
def re (t:Tm):List Nat:=(if 0<=IK t then [(IK t).toNat] else [])++(if t.k=14/\(kd0 t).k=23 then [1] else [])
def My (x:Except Int (Tm×Nat)) (R:px (Int×Int) (Tm×Int)):Prop:=match x with
 | .ok p=>R= .ok (p.1,(p.2:Int))
 | .error e=> ∃c,R= .bD (e,c)
theorem aIM (hk:F3 k) {hd:Mf S} {t bU:Tm} {i:Nat} {defs:List Df} {f:Int} (ft:Fm t) (q:af t.c (i:Int)=some bU) {R:px (Int×Int) (Tm×Int)} (x: ∀g,hd bU defs f g=g R) (z: ∀a c,R= .ok (a,c)->Fm a) (I:px (Int×Int) (Tm×Bool×Int)->OS S):
  Nh hd k t (i:Int) defs f I=I (match R with
   | .bD e=> .bD e
   | .ok p=>if oS p.1 bU=true then .ok (t,false,p.2) else .ok (atR t i p.1,true,p.2)):=by
 simp only [Nh,ar,q,ql,x]
 cases R with
 |bD e=>rfl
 |ok p=>
  obtain ⟨a,c⟩:=p
  have fa:=z a c rfl
  show (KZ k a bU fun A=>_)=_
  rw [aID a fa.ok bU _ (hk.fd (by have:=fa.dep;omega))]
  dsimp only
  cases oS a bU with
  |true=>rfl
  |false=>
   have:=ft.ok.no.2.2.2.2.2.1
   rw [n3,if_neg (by decide),J5 (by omega)]
   rfl
noncomputable abbrev hA (defs:List Df):=sk (nf defs) re 220
noncomputable abbrev hP (defs:List Df):=eT (nf defs) re 220
def wa (f:Nat) (x:Except Int (Tm×Nat)):Prop:= ∀a r,x= .ok (a,r)->Fm a/\r<=f
theorem az1 {defs:List Df} {t:Tm} (h:(nf defs t).2.2=0):bw t=0:=by
 grind [nf]
noncomputable def oI (t:Tm) (i:Nat) (bU:Tm):px (Int×Int) (Tm×Int)->px (Int×Int) (Tm×Bool×Int)
 | .bD e=> .bD e
 | .ok p=>if oS p.1 bU=true then .ok (t,false,p.2) else .ok (atR t i p.1,true,p.2)
theorem zt {defs:List Df} {n f:Nat} {t:Tm} {i:Nat} {l:List Nat}:(∀e,hA defs n f (xP t i)= .error e->hP defs n f t (i::l)= .error e)/\
  (∀a r,hA defs n f (xP t i)= .ok (a,r)->oS a (xP t i)=true->hP defs n f t (i::l)=hP defs n r t l)/\
  ∀a r,hA defs n f (xP t i)= .ok (a,r)->oS a (xP t i)=false->hP defs n f t (i::l)=hA defs n r (atR t i a):=by
 grind [eT,oS]
theorem ve {defs:List Df} {n f:Nat} {t:Tm} {i:Nat} {l:List Nat} {W:(px (Int×Int) (Tm×Bool×Int)->OS S)->OS S} {R:px (Int×Int) (Tm×Int)}
  (q:My (hA defs n f (xP t i)) R)
  (z: ∀g,W g=g (oI t i (xP t i) R))
  {L:(px (Int×Int) (Tm×Int)->OS S)->Int->Tm->OS S} {N:(px (Int×Int) (Tm×Int)->OS S)->Int->OS S}
  (B: ∀a r,hA defs n f (xP t i)= .ok (a,r)->hA defs n r (atR t i a)≠ .error 0-> ∃R',My (hA defs n r (atR t i a)) R'/\ ∀I,L I (r:Int) (atR t i a)=I R')
  (E: ∀a r,hA defs n f (xP t i)= .ok (a,r)->hP defs n r t l≠ .error 0-> ∃R',My (hP defs n r t l) R'/\ ∀I,N I (r:Int)=I R')
  (F:hP defs n f t (i::l)≠ .error 0):
  ∃R',My (hP defs n f t (i::l)) R'/\ ∀I:px (Int×Int) (Tm×Int)->OS S,(W fun r6=>px.elim r6 (fun r6=>ab r6.2.1 (L I r6.2.2 r6.1) (N I r6.2.2)) fun e=>I (.bD (e.1,e.2)))=I R':=by
 simp only [z]
 obtain ⟨A,J,M⟩:=zt (defs:=defs) (n:=n) (f:=f) (t:=t) (i:=i) (l:=l)
 cases x:hA defs n f (xP t i) with
 |error e=>
  rw [x] at q
  obtain ⟨c,rfl⟩:=q
  rw [A e x]
  exact ⟨.bD (e,c),⟨c,rfl⟩,fun _=>rfl⟩
 |ok p=>
  obtain ⟨a,r⟩:=p
  rw [x] at q
  have q:R= .ok (a,(r:Int)):=q
  grind [oS,oI,px.elim,n3,ae]
theorem aGi:JT ou:=⟨IQ,by decide,by decide⟩
theorem Mm {t:Tm} (ft:Fm t) (i:Nat):JT (xP t i):=by
 unfold xP
 by_cases h:i<t.c.length
 ·have q:t.c.getD i ou∈t.c:=(xD rfl h).2
  have h1:=bY q
  have h2:=k_ q
  have z:ay t.c<=au t:=by
   obtain ⟨kd,n,nm,r,x,sys⟩:=t
   show ay x<=_
   rw [au];omega
  have:=ft.dep;have:=ft.dP
  exact ⟨ft.ok.ki q,by omega,by omega⟩
 grind [aGi]
theorem Hd {defs:List Df} (hd:K7 defs): ∀n,(∀f t,JT t->wa f (hA defs n f t))/\ ∀l f t,Fm t->wa f (hP defs n f t l):=by
 have hk:F3 4294970296:=An.f3
 have E: ∀n,(∀f t,JT t->wa f (hA defs n f t))-> ∀l f t,Fm t->wa f (hP defs n f t l):=by
  intro n x l
  induction l with
  |nil=>
   intro f t ft a r h
   grind [eT]
  |cons i l z=>
   intro f t ft a r h
   obtain ⟨L,F,I⟩:=zt (defs:=defs) (n:=n) (f:=f) (t:=t) (i:=i) (l:=l)
   cases A:hA defs n f (xP t i) with
   |error e=>grind
   |ok p=>
    obtain ⟨b,s⟩:=p
    obtain ⟨fb,hs⟩:=x f _ (Mm ft i) b s A
    cases hb:oS b (xP t i) with
    |true=>rw [F b s A hb] at h;obtain ⟨B,q2⟩:=z s t ft a r h;grind
    |false=>rw [I b s A hb] at h;obtain ⟨B,q2⟩:=x s _ (azV ft fb) a r h;grind
 intro n
 induction n with
 |zero=>
  grind [wa,sk]
 |succ n z=>
  have h1: ∀f t,JT t->wa f (hA defs (n+1) f t):=by
   intro f t jt a r h
   have h:sk (nf defs) re 220 (n+1) f t= .ok (a,r):=h
   rw [sk] at h
   split at h
   ·cases h
   rename_i c1
   split at h
   ·rename_i c2;exact z.2 _ f t ⟨jt.1,az1 c2.2⟩ a r h
   rename_i c2
   split at h
   ·cases h
   rename_i c3
   have M:(nf defs t).2.2=0:=Decidable.byContradiction fun q=>c1 ⟨q,c3⟩
   have J:(nf defs t).2.1=true:=by
    grind
   obtain ⟨B,q2⟩:=z.1 (f-1) _ (az0 (hd.isIn hk) jt.1 J).1.jt a r h
   grind
  grind
theorem aGI {defs:List Df} (hd:K7 defs): ∀n k m,n<=m->4294970296+n<=k-> ∀f t,f<=100000->JT t->hA defs n f t≠ .error 0->
  ∃R,My (hA defs n f t) R/\ ∀I:px (Int×Int) (Tm×Int)->OS S,MQ (EF k) k I defs m (f:Int) t=I R:=by
 intro n
 induction n with
 |zero=>grind [sk]
 |succ n ih=>
  intro k m hm ax f t hf jt h
  have O:F4 k:=by omega
  have hk:=O.f3
  obtain ⟨m,rfl⟩: ∃j,m=j+1:=⟨m-1,by omega⟩
  have hL:=ih k m (by omega) (by omega)
  change sk (nf defs) re 220 (n+1) f t≠_ at h
  change ∃R,My (sk (nf defs) re 220 (n+1) f t) R/\_
  rw [sk] at h ⊢
  simp only [MQ,J0,ag hk.fu,ar,aIB O (hd.isIn hk) (jt.isIn hk) (show (0:Int)<=(f:Int)/\(f:Int)<=100000 by omega)]
  by_cases c1:(nf defs t).2.2≠0/\f≠0
  ·have J:MN defs t (f:Int)= .bD ((nf defs t).2.2,(f:Int)):=by
    grind [MN]
   rw [if_pos c1,J]
   exact ⟨.bD ((nf defs t).2.2,(f:Int)),⟨_,rfl⟩,fun _=>rfl⟩
  have az: ¬((nf defs t).2.2≠0/\(0:Int)<(f:Int)):=fun q=>c1 ⟨q.1,by omega⟩
  rw [if_neg c1] at h ⊢
  by_cases c2:(nf defs t).2.1=false/\(nf defs t).2.2=0
  ·have J:MN defs t (f:Int)= .ok (t,false,(f:Int)):=by
    grind [MN]
   rw [if_pos c2] at h ⊢
   rw [J]
   have ft:Fm t:=⟨jt.1,az1 c2.2⟩
   have hK: ∀i z,z<=100000->hA defs n z (xP t i)≠ .error 0->i<t.c.length-> ∃R,My (hA defs n z (xP t i)) R/\ ∀g:px (Int×Int) (Tm×Bool×Int)->OS S,Nh (EF k) k t (i:Int) defs (z:Int) g=g (oI t i (xP t i) R):=by
    intro i z E F hi
    obtain ⟨j,rfl⟩: ∃j,k=j+1:=⟨k-1,by omega⟩
    obtain ⟨R,B,q2⟩:=ih j j (by omega) (by omega) z (xP t i) E (Mm ft i) F
    have fR: ∀a c,R= .ok (a,c)->Fm a:=by
     intro a c e
     cases M:hA defs n z (xP t i) with
     |error e'=>rw [M] at B;obtain ⟨c',B⟩:=B;grind
     |ok p=>
      rw [M] at B
      have B:R= .ok (p.1,(p.2:Int)):=B
      rw [B] at e
      injection e with e;injection e with e1 e2
      exact e1▸(((Hd hd n).1 z _ (Mm ft i)) p.1 p.2 M).1
    refine ⟨R,B,fun g=> ?_⟩
    have hh: ∀g,EF (j+1) (xP t i) defs (z:Int) g=g R:=fun g=>by
     rw [<-q2 g]
     simp only [EF,q',ar]
    rw [aIM (hd:=EF (j+1)) hk ft (bU:=xP t i) (xD rfl hi).1 (R:=R) hh fR g]
    cases R<;>rfl
   have hE: ∀z,∃R',My (hP defs n z t []) R'/\ ∀I:px (Int×Int) (Tm×Int)->OS S,I (.ok (t,(z:Int)))=I R':=fun z=>by
    simp_all [My,eT]
   have ao: ∀i z a r,hA defs n z (xP t i)= .ok (a,r)->Fm a/\r<=z:=fun i z a r h=>((Hd hd n).1 z _ (Mm ft i)) a r h
   have F: ∀i l z,hP defs n z t (i::l)≠ .error 0->hA defs n z (xP t i)≠ .error 0:=fun i l z h q=>h (zt.1 0 q)
   have T: ∀i z,z<=100000-> ∀a r,hA defs n z (xP t i)= .ok (a,r)->hA defs n r (atR t i a)≠ .error 0->
     ∃R',My (hA defs n r (atR t i a)) R'/\ ∀I:px (Int×Int) (Tm×Int)->OS S,MQ (EF k) k I defs m (r:Int) (atR t i a)=I R':=
    fun i z E a r M hn=>hL r _ (by grind) (azV ft (ao i z a r M).1) hn
   have W: ∀z,z<=100000->hP defs n z t (if t.k=14/\(kd0 t).k=23 then [1] else [])≠ .error 0->
     ∃R',My (hP defs n z t (if t.k=14/\(kd0 t).k=23 then [1] else [])) R'/\ ∀I:px (Int×Int) (Tm×Int)->OS S,
      (ab (t.k==14) ((af t.c 0).bind fun x8=>ab (x8.k==23) (Nh (EF k) k t 1 defs (z:Int) fun A=>px.elim A (fun A=>ab A.2.1 (MQ (EF k) k I defs m A.2.2 A.1) (I (.ok (t,A.2.2)))) fun e=>I (.bD (e.1,e.2))) (I (.ok (t,(z:Int))))) (I (.ok (t,(z:Int)))))=I R':=by
    intro z E h
    by_cases Y:t.k=14
    ·have hl:t.c.length=2:=E5 ft Y rfl
     have hg:af t.c 0=some (kd0 t):=(xD (i:=0) hl (by omega)).1
     simp only [Y,hg,ql,show ((14:Int)==14)=true from rfl,ae,true_and] at h ⊢
     by_cases ad:(kd0 t).k=23
     ·rw [if_pos ad] at h ⊢
      simp only [ad,show ((23:Int)==23)=true from rfl,ae]
      obtain ⟨R,B,q2⟩:=hK 1 z E (F 1 [] z h) (by omega)
      exact ve (L:=fun I r x=>MQ (EF k) k I defs m r x) (N:=fun I r=>I (.ok (t,r))) B q2 (T 1 z E) (fun a r _ _=>hE r) h
     simp_all [n3,beq_false_of_ne]
    simp_all [n3,beq_false_of_ne]
   have hM:0<=IK t->(IK t).toNat<t.c.length:=by
    intro h0
    have a6:=ft.nk
    unfold IK p2 at h0 ⊢
    rw [if_neg (by omega)] at h0 ⊢
    split at h0
    ·rename_i q
     have:0<ct t.k:=by rcases q with q|q|q|q|q|q|q<;>rw [q]<;>decide
     omega
    ·rename_i q
     rw [if_neg q]
     split at h0
     ·rename_i q2
      have:3<ct t.k:=by rw [q2];decide
      omega
     ·rename_i q2
      rw [if_neg q2]
      split at h0
      ·rename_i q3
       have:4<ct t.k:=by rw [q3];decide
       omega
      ·omega
   change eT (nf defs) re 220 n f t (re t)≠_ at h
   simp only [px.elim,n3,aIs hk]
   unfold re at h ⊢
   by_cases c:0<=IK t
   ·rw [if_pos c] at h ⊢
    have hi:=hM c
    obtain ⟨R,B,q2⟩:=hK (IK t).toNat f hf (F _ _ f h) hi
    have hc:(((IK t).toNat:Nat):Int)=IK t:=by omega
    rw [hc] at q2
    simp only [decide_eq_true (show IK t>=0 from c),ae]
    exact ve (L:=fun I r x=>MQ (EF k) k I defs m r x) (N:=fun I r=>ab (t.k==14) ((af t.c 0).bind fun x8=>ab (x8.k==23) (Nh (EF k) k t 1 defs r fun A=>px.elim A (fun A=>ab A.2.1 (MQ (EF k) k I defs m A.2.2 A.1) (I (.ok (t,A.2.2)))) fun e=>I (.bD (e.1,e.2))) (I (.ok (t,r)))) (I (.ok (t,r)))) B q2 (T _ f hf) (fun a r M hn=>W r (by grind) hn) h
   ·rw [if_neg c] at h ⊢
    simp only [decide_eq_false (show ¬(IK t>=0) from c),n3]
    exact W f hf h
  rw [if_neg c2] at h ⊢
  by_cases c3:f=0
  ·have J:MN defs t (f:Int)= .bD (220,(f:Int)):=by
    grind [MN]
   rw [if_pos c3,J]
   exact ⟨.bD (220,(f:Int)),⟨_,rfl⟩,fun _=>rfl⟩
  rw [if_neg c3] at h ⊢
  have J:MN defs t (f:Int)= .ok ((nf defs t).1,true,(f:Int)-1):=by
   grind [MN]
  have e0:(nf defs t).2.2=0:=Decidable.byContradiction fun q=>c1 ⟨q,c3⟩
  have e1:(nf defs t).2.1=true:=by
   grind
  obtain ⟨R,B,q2⟩:=hL (f-1) _ (by omega) (az0 (hd.isIn hk) jt.1 e1).1.jt h
  refine ⟨R,B,fun I=> ?_⟩
  rw [<-q2 I,show ((f-1:Nat):Int)=(f:Int)-1 by omega,J]
  rfl
end
section
variable {st:Tm->Tm×Bool×Int} {pl:Tm->List Nat} {eF:Int}
theorem aF7: ∀ (n:Nat),(∀f t a r,sk st pl eF n f t= .ok (a,r)->r<=f/\(r=f->a=t))/\
  ∀ (l:List Nat) f t a r,eT st pl eF n f t l= .ok (a,r)->r<=f/\(r=f->a=t):=by
 have hP: ∀n,(∀f t a r,sk st pl eF n f t= .ok (a,r)->r<=f/\(r=f->a=t))-> ∀ (l:List Nat) f t a r,eT st pl eF n f t l= .ok (a,r)->r<=f/\(r=f->a=t):=by
  intro n hA l
  induction l<;>grind [eT]
 intro n
 induction n<;>grind [sk]
end
section
variable {S:Type} {k:Nat}
theorem aHf {t:Tm} (ft:Fm t) {i:Nat} (h:i∈re t):i<t.c.length:=by
 have z:=ft.nk
 unfold re at h
 rcases xN.1 h with h|h
 ·split at h
  ·rename_i x
   obtain rfl:i=(IK t).toNat:=by grind
   unfold IK p2 at x ⊢
   rw [if_neg (by omega)] at x ⊢
   split at x
   ·rename_i q
    have:0<ct t.k:=by rcases q with q|q|q|q|q|q|q<;>rw [q]<;>decide
    omega
   ·rename_i q
    rw [if_neg q]
    split at x
    ·rename_i q2
     have:3<ct t.k:=by rw [q2];decide
     omega
    ·rename_i q2
     rw [if_neg q2]
     split at x
     ·rename_i A
      have:4<ct t.k:=by rw [A];decide
      omega
     ·omega
  simp_all
 ·split at h
  ·rename_i x
   obtain rfl:i=1:=by grind
   have:t.c.length=2:=E5 ft x.1 rfl
   omega
  simp_all
theorem aGH {t:Tm} {i:Nat} (h:i<t.c.length):am (xP t i)+1<=am t:=by
 have q:t.c.getD i ou∈t.c:=(xD rfl h).2
 exact bY q
theorem aFK {defs:List Df} (hd:K7 defs): ∀n f t,JT t->f*301+am t+1<=n->hA defs n f t≠ .error 0:=by
 intro n
 induction n with
 |zero=>simp
 |succ n B=>
  intro f t jt hn h
  have h:sk (nf defs) re 220 (n+1) f t= .error 0:=h
  rw [sk] at h
  split at h
  ·grind
  rename_i c1
  split at h
  ·rename_i c2
   have ft:Fm t:=⟨jt.1,az1 c2.2⟩
   have E:=jt.2.1
   have key: ∀l:List Nat,(∀i∈l,i<t.c.length)-> ∀x,x<=f->hP defs n x t l≠ .error 0:=by
    intro l
    induction l with
    |nil=>
     grind [eT]
    |cons i l F=>
     intro hl x z q
     have W:=aGH (hl i (by simp))
     have Y:x*301<=f*301:=H0 _ z
     have I:=B x (xP t i) (Mm ft i) (by omega)
     obtain ⟨p1,p2,J⟩:=zt (defs:=defs) (n:=n) (f:=x) (t:=t) (i:=i) (l:=l)
     cases A:hA defs n x (xP t i) with
     |error e=>grind
     |ok p=>
      obtain ⟨b,s⟩:=p
      obtain ⟨fb,hs⟩:=(Hd hd n).1 x _ (Mm ft i) b s A
      cases hb:oS b (xP t i) with
      |true=>grind
      |false=>
       rw [J b s A hb] at q
       have L:s≠x:=fun e=>by
        have:=((aF7 n).1 _ _ _ _ A).2 e
        grind [oS]
       have M:=azV (i:=i) ft fb
       have:=M.2.1
       grind
   grind [aHf]
  rename_i c2
  split at h
  ·grind
  rename_i c3
  have e0:(nf defs t).2.2=0:=Decidable.byContradiction fun q=>c1 ⟨q,c3⟩
  have O:(nf defs t).2.1=true:=by
   grind
  have T:=(az0 (hd.isIn An.f3) jt.1 O).1.jt
  have:=T.2.1
  grind
def nH:Nat:=40000000
theorem aAZ {defs:List Df} (hd:K7 defs) {f:Nat} (hf:f<=100000) {t:Tm} (jt:JT t):hA defs nH f t≠ .error 0:=
 aFK hd nH f t jt (by have:=jt.2.1;unfold nH;omega)
noncomputable def hdQ (defs:List Df) (f:Nat) (t:Tm):Tm×Int×Int:=match hA defs nH f t with
 | .ok p=>(p.1,(p.2:Int),0)
 | .error e=>(ou,0,e)
noncomputable def ns (defs:List Df) (t:Tm) (f:Int):Tm×Int×Int:=
 if bw t≠0 then (ou,0,bw t) else if f<0\/100000<f then (ou,0,2) else hdQ defs f.toNat t
end
section
def Il (t:Tm):Except Int Tm:=if t.k=5 then .ok (kd0 t) else bE (wA 1 0 t) fun x=> .ok (dS 6 [x,vN 0])
def FE (t:Tm) (kd:Int):Tm:=if t.k=8 then t.c.getD (kd-9).toNat ou else dS kd [t]
def L4 (t p:Tm):Except Int Tm:=if t.k=12 then .ok (kd0 t) else
 bE (wD 0 [] (kd0 p)) fun l=>bE (wD 0 [⟨0,0⟩] (kd0 p)) fun r=>bE (wA 0 1 t) fun x=>bE (wA 0 1 l) fun q=>bE (wA 0 1 r) fun z=> .ok (fG [⟨1,0⟩] x q z)
def ID (r:LC):List Int->Tm->Except Int Tm
 |[],t=> .ok t
 |i::l,t=>bE (ua (tb i r false) (tb i r true) 0 t) fun x=>ID r l x
def Mj (t:Tm) (c:Cl):Except Int Tm:=if bw t≠0 then .error (bw t) else if fE c=false\/bS c=true then .error 2 else
 bE (ID [⟨0,0⟩] (Iv c.pos) t) fun x=>ID [] (Iv c.neg) x
def Ia:LC->LB->Except Int (LC)
 |h,[]=> .ok h
 |h,b::l=>if (EQ h b.f).2=0 then Ia (EQ h b.f).1 l else .error (EQ h b.f).2
def vx (c:Cl) (p:Tm×Tm):It:=match Mj p.1 c with
 | .error e=> .err e
 | .ok x=>match Mj p.2 c with
  | .error e=> .err e
  | .ok y=> .ask x y
def M6 (kd:Int) (c:Cl):Cl×Int:=if kd=15 then dw c 0 1 else (c,0)
def Ik (kd:Int) (f:LC) (a b:LT):List It:=f.flatMap fun c=>if (M6 kd c).2=0 then (a.zip b).map (vx (M6 kd c).1) else [.err (M6 kd c).2]
def Mk (f g:LC):LC×Int:=if cV f&&cV g then MZ f g else ([],2)
def mv (kd:Int) (x y:Br Tm):List It:=if (Mk x.f y.f).2=0 then Ik kd (Mk x.f y.f).1 x.c y.c else [.err (Mk x.f y.f).2]
noncomputable def G1 (kd:Int) (a b:LB):List It:=match Ia [] a with
 | .error e=>[.err e]
 | .ok f=>match Ia [] b with
  | .error e=>[.err e]
  | .ok g=>if f≠g then [.no] else if a.map (·.f)=b.map (·.f) then (a.zip b).flatMap fun p=>Ik kd p.1.f p.1.c p.2.c
   else a.flatMap fun x=>b.flatMap fun y=>mv kd x y
noncomputable def HW (x y:Tm):List It:=
 if x.k=5\/y.k=5 then (match Il x with
  | .error e=>[.err e]
  | .ok f=>match Il y with
   | .error e=>[.err e]
   | .ok g=>[.ask f g])
 else if x.k=8\/y.k=8 then [.ask (FE x 9) (FE y 9),.ask (FE x 10) (FE y 10)]
 else if x.k=12 then (match L4 y x with
  | .error e=>[.err e]
  | .ok g=>[.ask (kd0 x) g])
 else if y.k=12 then (match L4 x y with
  | .error e=>[.err e]
  | .ok g=>[.ask g (kd0 y)])
 else if x.k≠y.k\/x.n≠y.n\/x.name≠y.name\/x.r≠y.r then [.no]
 else if x.k=13 then [.ask (kd0 x) (kd0 y)]
 else (x.c.zip y.c).map (fun p=> .ask p.1 p.2)++G1 x.k x.s y.s
variable {S:Type} {k:Nat}
theorem aOa {i:Int} {r:LC} {t x:Tm} (h:ua (tb i r false) (tb i r true) 0 t= .ok x):Wk t x:=
 Uj (fun d f g hf h=>rB hf h) (fun d f g hf h=>rB hf h) (fun d=>QI) t 0 x h
theorem aNJ (hk:F3 k) (I:Tm×Int->OS S) (q:Tm->Int->OS S) {x8:Vd} (L:RF x8.row) {c:Cl} {r5 r6:LC} {v:Int} {A:List Int} (B: ∀i∈A,0<=i/\i<24) (hl:A.length<=24):
  ∀ (r p:List Int) (m:Nat) (t:Tm),A=p++r->r.length<m->pr t->q7 t->am t<=200->
   SI k I q x8 c r5 r6 v A m t (p.length:Int)=eE (ID x8.row r t) (fun x=>q x (ot .i64 (v+1))) fun e=>I (ou,e):=by
 intro r
 induction r with
 |nil=>
  intro p m t h E _ _ _
  obtain ⟨m,rfl,z⟩:=py E
  simp only [SI,FJ,xw h,n3,ar,ID,aP]
 |cons i r M=>
  intro p m t h E F ro dt
  obtain ⟨m,rfl,z⟩:=py E
  obtain ⟨O,T,W,Y⟩:=qH h (by omega)
  have hi:=B i (by rw [h];simp)
  simp only [SI,FJ,O,ae,T,ql,ag hk.fu,ar,DF,DG,DH,W]
  rw [ahW hi L t F ro _ (hk.fd (by omega)) (by omega) (by omega),ID,AS]
  cases J:ua (tb i x8.row false) (tb i x8.row true) 0 t with
  |error e=>
   have:=jK jD jD t J
   show ab (!(e==0)) _ _=_
   rw [dj (show e≠0 by omega),sV,ae];rfl
  |ok x=>
   obtain ⟨w1,w2,w3,w4⟩:=aOa J
   obtain ⟨q1,q2⟩:=w4 F ro
   exact M (p++[i]) m x Y z q1 q2 (by omega)
theorem aNk {row:LC}: ∀ {l:List Int} {t x:Tm},pr t->q7 t->ID row l t= .ok x->pr x/\q7 x/\am x<=am t/\au x<=au t:=by
 intro l
 induction l with
 |nil=>intro t x q ro h;rw [ID] at h;injection h with h;subst h;exact ⟨q,ro,xt _,xt _⟩
 |cons i l z=>
  intro t x q ro h
  rw [ID] at h
  obtain ⟨y,h1,h⟩:=i8 h
  obtain ⟨E,F,I,A⟩:=aOa h1
  obtain ⟨B,q2⟩:=A q ro
  obtain ⟨z1,z2,z3,z4⟩:=z B q2 h
  exact ⟨z1,z2,by omega,by omega⟩
theorem aNU {s:Int}:(∀i∈ra s,0<=i/\i<24)/\(ra s).length<=24:=by
 unfold ra
 refine ⟨fun i q=> ?_, ?_⟩
 ·obtain ⟨j,hj,rfl⟩:=xl.1 q
  have:=(List.mem_filter.1 hj).1
  have:=List.mem_range.1 this
  exact ⟨Int.natCast_nonneg _,by show (j:Int)<24;omega⟩
 ·rw [List.length_map]
  exact bu (List.length_filter_le _ _) (by rw [List.length_range];omega)
theorem aN_ {t x:Tm} {c:Cl} (q:pr t) (h:Mj t c= .ok x):JT x:=by
 unfold Mj at h
 split at h
 ·cases h
 rename_i z
 split at h
 ·cases h
 have ft:Fm t:=⟨q,Decidable.not_not.1 z⟩
 obtain ⟨y,h1,h⟩:=i8 h
 obtain ⟨a1,a2,a3,a4⟩:=aNk q ft.rows h1
 obtain ⟨A,B,E,F⟩:=aNk a1 a2 h
 have:=ft.dep;have:=ft.dP
 exact ⟨A,by omega,by omega⟩
theorem aNX {row:LC}: ∀ {l:List Int} {t:Tm} {e:Int},ID row l t= .error e->0<e/\e<=1000:=by
 intro l
 induction l with
 |nil=>intro t e h;rw [ID] at h;cases h
 |cons i l q=>
  intro t e h
  rw [ID] at h
  rcases be h with h|⟨_,_,h⟩
  ·exact jK jD jD t h
  ·exact q h
theorem dh {t:Tm} {c:Cl} {e:Int} (h:Mj t c= .error e):e≠0:=by
 unfold Mj at h
 split at h
 ·rename_i q;injection h with h;subst h;exact q
 split at h
 ·injection h with h;subst h;decide
 rcases be h with h|⟨_,_,h⟩
 ·have:=aNX h;omega
 ·have:=aNX h;omega
theorem aN2 (hk:F3 k) {t:Tm} (q:In k t) {c:Cl} (hc:aX c) (I:Tm×Int->OS S):rv k t c I=I (tE (Mj t c)):=by
 have B:4294968296<=k:=hk
 simp only [rv,aNq,ag hk.fu,ar,Ah q.1 q.2.1 q.dep]
 unfold Mj
 by_cases z:bw t=0
 case neg=>rw [dj z,sV,ae,if_pos z];rfl
 rw [z,show (!((0:Int)==0))=false from rfl,n3,if_neg (by simp),Rg hk.fu hc]
 cases h1:fE c with
 |false=>rw [sV,ae,if_pos (.inl rfl)];rfl
 |true=>
 rw [va,n3,Rf hk.fu hc]
 cases h2:bS c with
 |true=>rw [ae,if_pos (.inr rfl)];rfl
 |false=>
 have ft:Fm t:=⟨q.1,z⟩
 have A:=ft.dep
 rw [n3,if_neg (by simp),vU t q.1 _ q.2.1]
 simp only [Nr,tK]
 obtain ⟨m,E⟩: ∃m,k=m+3:=⟨k-3,by omega⟩
 obtain ⟨m1,m2⟩:=aNU (s:=c.pos)
 obtain ⟨m3,m4⟩:=aNU (s:=c.neg)
 have F: ∀x,KO k I c [⟨0,0⟩] [] (m+1) x 2=I (x,0):=fun x=>by
  simp only [KO,j9]
  rw [show decide ((2:Int)<([(Vd.mk c.pos [⟨0,0⟩]),(Vd.mk c.neg [])].length:Int))=false from rfl,n3,ar]
 have J: ∀x,pr x->q7 x->am x<=200->KO k I c [⟨0,0⟩] [] (m+2) x 1=eE (ID [] (Iv c.neg) x) (fun y=>I (y,0)) fun e=>I (ou,e):=fun x L rx M=>by
  rw [KO]
  simp only [j9]
  rw [show decide ((1:Int)<([(Vd.mk c.pos [⟨0,0⟩]),(Vd.mk c.neg [])].length:Int))=true from rfl,ae,show af [(Vd.mk c.pos [⟨0,0⟩]),(Vd.mk c.neg [])] 1=some (Vd.mk c.neg []) from rfl,ql,ql]
  simp only [vz,ar]
  have:=aNJ (v:=1) (x8:=Vd.mk c.neg []) hk I (KO k I c [⟨0,0⟩] [] (m+1)) rA (c:=c) (r5:=[⟨0,0⟩]) (r6:=[]) m3 m4 (ra c.neg) [] k x rfl (by omega) L rx M
  refine po this ?_
  rw [<-Ny hc.2]
  exact Dc (fun y _=>F y) fun e _=>rfl
 have O:KO k I c [⟨0,0⟩] [] (m+3) t 0=I (tE (bE (ID [⟨0,0⟩] (Iv c.pos) t) fun x=>ID [] (Iv c.neg) x)):=by
  rw [KO]
  simp only [j9]
  rw [show decide ((0:Int)<([(Vd.mk c.pos [⟨0,0⟩]),(Vd.mk c.neg [])].length:Int))=true from rfl,ae,show af [(Vd.mk c.pos [⟨0,0⟩]),(Vd.mk c.neg [])] 0=some (Vd.mk c.pos [⟨0,0⟩]) from rfl,ql,ql]
  simp only [vz,ar]
  have:=aNJ (v:=0) (x8:=Vd.mk c.pos [⟨0,0⟩]) hk I (KO k I c [⟨0,0⟩] [] (m+2)) Qz (c:=c) (r5:=[⟨0,0⟩]) (r6:=[]) m1 m2 (ra c.pos) [] k t rfl (by omega) q.1 ft.rows A
  refine po this ?_
  rw [I0 _ I,AS,<-Ny hc.1]
  refine Dc (fun y T=> ?_) fun e _=>rfl
  obtain ⟨a1,a2,a3,a4⟩:=aNk q.1 ft.rows T
  exact J y a1 a2 (by omega)
 have: ∀n,n=m+3->KO k I c [⟨0,0⟩] [] n t 0=KO k I c [⟨0,0⟩] [] (m+3) t 0:=fun n h=>by rw [h]
 exact (this k E).trans O
theorem aOY (hk:F3 k) (I:LC×Int->OS S) {l:LB} (hl:l.length<1073741824) (hb: ∀b∈l,aq b.f/\b.f.length<1073741824):
  ∀ (r p:LB) (m:Nat) (h:LC),l=p++r->r.length<m->aq h->h.length<1073741824->mh k I l m (p.length:Int) h=eE (Ia h r) (fun f=>I (f,0)) fun e=>I ([],e):=by
 intro r
 induction r with
 |nil=>
  intro p m f h A _ _
  obtain ⟨m,rfl,z⟩:=py A
  simp only [mh,x',xw h,n3,Ia,aP]
 |cons x r F=>
  intro p m f h A of J
  obtain ⟨m,rfl,z⟩:=py A
  obtain ⟨L,M,O,T⟩:=qH h (by omega)
  obtain ⟨B,W⟩:=hb x (by rw [h];simp)
  simp only [mh,x',L,ae,M,ql,ag hk.fu,aH8 hk.fu of B J W,O]
  rw [Ia]
  by_cases q:(EQ f x.f).2=0
  ·rw [q,show (!((0:Int)==0))=false from rfl,n3,if_pos rfl]
   have E:aq (EQ f x.f).1/\(EQ f x.f).1.length<1073741824:=by
    unfold EQ at q ⊢
    split
    ·rename_i c
     rw [if_pos c] at q
     have:=Lc of B q
     exact ⟨this.2,by have:=this.len;omega⟩
    ·exact ⟨fun c hc=>(by cases hc),by simp⟩
   exact F (p++[x]) m _ T z E.1 E.2
  ·rw [dj q,sV,ae,if_neg q];rfl
theorem aN7 (hk:F3 k) {l:LB} (hl:l.length<1073741824) (hb: ∀b∈l,aq b.f/\b.f.length<1073741824) (I:LC×Int->OS S):W3 k l I=eE (Ia [] l) (fun f=>I (f,0)) fun e=>I ([],e):=by
 have q:4294968296<=k:=hk
 simp only [W3,aNs]
 exact aOY hk I hl hb l [] k [] rfl (by omega) (fun c hc=>by cases hc) (by simp)
theorem h4: ∀ {l:LB} {h:LC} {e:Int},Ia h l= .error e->e≠0:=by
 intro l
 induction l with
 |nil=>intro h e q;rw [Ia] at q;cases q
 |cons x l z=>
  intro h e q
  rw [Ia] at q
  split at q
  ·exact z q
  ·rename_i c;injection q with q;subst q;exact c
theorem aOD: ∀ {l:LB} {h f:LC},h.length<=64->Ia h l= .ok f->f.length<=64:=by
 intro l
 induction l with
 |nil=>intro h f z q;rw [Ia] at q;injection q with q;subst q;exact z
 |cons x l A=>
  intro h f z q
  rw [Ia] at q
  split at q
  ·refine A ?_ q
   unfold EQ
   split
   ·exact LF _
   ·simp
  ·cases q
theorem aO2 {f g:LC} (hf:aq f) (q:aq g) (h:(Mk f g).2=0):zo (Mk f g).1:=by
 unfold Mk at h ⊢
 split
 ·rename_i c;rw [if_pos c] at h;exact vo hf q h
 ·rename_i c;rw [if_neg c] at h;cases h
theorem aO9 (hk:F3 k) {f g:LC} (hf:aq f) (q:aq g) (h1:f.length<1073741824) (h2:g.length<1073741824) (I:LC×Int->OS S):b' k f g I=I (Mk f g):=by
 simp only [b',ag hk.fu,aH9 hk.fu (l:=[f,g]) (by intro x z;simp at z;rcases z with rfl|rfl;exact ⟨hf,by omega⟩;exact ⟨q,by omega⟩) (by simp)]
 have e:[f,g].all cV=(cV f&&cV g):=by simp
 unfold Mk
 rw [e]
 cases h:(cV f&&cV g) with
 |false=>rfl
 |true=>
  rw [if_pos rfl,if_pos rfl,show (!((0:Int)==0))=false from rfl,n3]
  rw [qk] at h
  have A:=((oB hf).1 h.1).1.len
  have B:=((oB q).1 h.2).1.len
  rw [ajg hk.fu hf q (by omega) (by omega)]
theorem aOX (hk:F3 k) (I:Bool->OS S) {a b:LB} (ha:a.length<1073741824) (hb: ∀x∈a,x.f.length<1073741824):
  ∀ (r p q s:LB) (m:Nat),a=p++r->b=q++s->p.length=q.length->r.length=s.length->r.length<m->ka k I b a m (p.length:Int)=I (decide (r.map (·.f)=s.map (·.f))):=by
 intro r
 induction r with
 |nil=>
  intro p q s m h h' hp hs A
  obtain ⟨m,rfl,z⟩:=py A
  obtain rfl:s=[]:=Iu.1 hs.symm
  simp only [ka,bh,xw h,n3];rfl
 |cons x r E=>
  intro p q s m h h' hp hs A
  obtain ⟨m,rfl,z⟩:=py A
  cases s with
  |nil=>cases hs
  |cons y s=>
  obtain ⟨F,J,L,M⟩:=qH h (by omega)
  have B:b.length<4611686018427387904:=by
   have:a.length=b.length:=by rw [h,h'];simp [hp];simpa using hs
   omega
  obtain ⟨_,f2,_,f4⟩:=qH h' B
  rw [<-hp] at f2
  simp only [ka,bh,F,ae,J,f2,ql,ag hk.fu,az,iv hk.fu (show x.f.length<4294967296 by have:=hb x (by rw [h];simp);omega),L]
  by_cases hf:x.f=y.f
  ·rw [decide_eq_true hf,va,n3,E (p++[x]) (q++[y]) s m M f4 (by simp [hp]) (by simpa using hs) z]
   congr 1
   simp [hf]
  ·rw [decide_eq_false hf,sV,ae,decide_eq_false (fun h=>by simp at h;exact hf h.1)]
theorem aO8 (hk:F3 k) {a b:LB} (ha:a.length<1073741824) (hb: ∀x∈a,x.f.length<1073741824) (I:Bool->OS S):b1 k a b I=I (decide (a.map (·.f)=b.map (·.f))):=by
 have z:4294968296<=k:=hk
 simp only [b1,aNr]
 by_cases h:a.length=b.length
 ·rw [show ((a.length:Int)==(b.length:Int))=true from by simp [h],va,n3]
  exact aOX hk I ha hb a [] [] b k rfl rfl rfl h (by omega)
 ·rw [show ((a.length:Int)==(b.length:Int))=false from by simp;omega,sV,ae,decide_eq_false fun q=>h (by simpa using congrArg EO q)]
theorem aN3 (hk:F3 k) (t:Tm) (c:Int) (I:px Int Tm->OS S):sb k t c I=I (if c=0 then .ok t else .bD c):=by
 simp only [sb,R6,ag hk.fu,ar]
 by_cases h:c=0
 ·rw [h];rfl
 ·rw [dj h,if_neg h];rfl
theorem aN4 (hk:F3 k) {t:Tm} (ft:Fm t) (I:px Int Tm->OS S):SK k t I=I (pE (Il t)):=by
 simp only [SK,ag hk.fu,ar,Nq,zc]
 unfold Il
 by_cases q:t.k=5
 ·rw [q,show ((5:Int)==5)=true from rfl,ae,if_pos rfl,show af t.c 0=some (kd0 t) from (xD (n:=1) (i:=0) (E5 ft q rfl) (by omega)).1];rfl
 ·rw [beq_false_of_ne q,n3,if_neg q,E8 hk (fun _=>ft.isIn hk) (by omega) (by omega)]
  simp only [aN3 hk]
  cases h:wA 1 0 t with
  |ok x=>rfl
  |error e=>
   have:=Nu e h
   show px.elim (if e=0 then _ else _) _ _=_
   rw [if_neg (show e≠0 by omega)];rfl
theorem aNB {t:Tm} {e:Int} (h:Il t= .error e):e≠0:=by
 unfold Il at h
 split at h
 ·cases h
 rcases be h with h|⟨_,_,h⟩
 ·have:=Nu e h;omega
 ·cases h
theorem a6 {n:Nat} {t:Tm} (h:Sm n t) (hn:n<=1000000) (hd:am t<=300):JT t:=⟨h.ok,hd,by have:=h.dP;omega⟩
theorem aPf:Fm (vN 0):=⟨okv 0 (by omega),by decide⟩
theorem aNC {t x:Tm} (ft:Fm t) (h:Il t= .ok x):JT x:=by
 unfold Il at h
 split at h
 ·rename_i z
  injection h with h;subst h
  exact (ft.bU (xD (n:=1) (i:=0) (E5 ft z rfl) (by omega)).2).jt
 ·obtain ⟨y,h1,h⟩:=i8 h
  injection h with h;subst h
  have fy:Fm y:=mD (by omega) (IC ft.ok h1).1 (IC ft.ok h1).2
  have v0:=aPf
  have q:=IF (kd:=6) (by omega) (d:=201) (n:=20000) ⟨fy.sm,by have:=fy.dep;omega⟩ ⟨v0.sm,by have:=v0.dep;omega⟩ (by omega)
  exact a6 q.1 (by omega) (by have:=q.2;omega)
theorem Ij (hk:F3 k) {t:Tm} (ft:Fm t) {kd:Int} (x:kd=9\/kd=10) (I:Tm->OS S):MG k t kd I=I (FE t kd):=by
 simp only [MG,ag hk.fu,ar,zc]
 unfold FE
 by_cases q:t.k=8
 ·have hl:=E5 ft q (n:=2) rfl
  rw [q,show ((8:Int)==8)=true from rfl,ae,if_pos rfl]
  rcases x with rfl|rfl
  ·rw [show ot .i64 ((9:Int)-9)=((0:Nat):Int) from rfl,(xD hl (i:=0) (by omega)).1];rfl
  ·rw [show ot .i64 ((10:Int)-9)=((1:Nat):Int) from rfl,(xD hl (i:=1) (by omega)).1];rfl
 ·rw [beq_false_of_ne q,n3,if_neg q];rfl
theorem eg {t:Tm} (ft:Fm t) {kd:Int} (q:kd=9\/kd=10):JT (FE t kd):=by
 unfold FE
 split
 ·exact Mm ft (kd-9).toNat
 ·have h1:=Mg (kd:=kd) (n:=20000) (by omega) ⟨ft.sm,ft.dep⟩ (by omega)
  exact a6 h1.1 (by omega) (by have:=h1.2;omega)
theorem aN6 (hk:F3 k) {t p:Tm} (ft:Fm t) (fp:Fm p) (A:p.k=12) (I:px Int Tm->OS S):gw k t p I=I (pE (L4 t p)):=by
 have hl:=E5 fp A (n:=1) rfl
 obtain ⟨g0,m0⟩:=xD hl (i:=0) (by omega)
 have g0:af p.c 0=some (kd0 p):=g0
 have f0:Fm (kd0 p):=fp.bU m0
 simp only [gw,ag hk.fu,ar,tO]
 unfold L4
 by_cases h:t.k=12
 ·rw [h,show ((12:Int)==12)=true from rfl,ae,if_pos rfl,show af t.c 0=some (kd0 t) from (xD (n:=1) (i:=0) (E5 ft h rfl) (by omega)).1];rfl
 rw [beq_false_of_ne h,n3,if_neg h,g0,ql,SH hk (fun _=>f0.isIn hk) rA]
 simp only [ql,aN3 hk]
 rw [vZ hk (fun _=>f0.isIn hk),E8 hk (fun _=>ft.isIn hk) (by omega) (by omega)]
 have E: ∀ {c:Int},FN (mM c (wD 0 [] (kd0 p))).1:=fun {c}=>Bl fun y q=>aN8 (Sa f0.ok q).1 (Sa f0.ok q).2
 have F: ∀ {c:Int},FN (mM c (wD 0 [⟨0,0⟩] (kd0 p))).1:=fun {c}=>Bl fun y q=>aN9 (Sa f0.ok q).1 (Sa f0.ok q).2
 rw [E8 hk (fun _=>E.sm.1.isIn hk (by omega)) (by omega) (by omega),E8 hk (fun _=>F.sm.1.isIn hk (by omega)) (by omega) (by omega)]
 have t1: ∀y:Tm,tE (.ok y)=(y,0):=fun _=>rfl
 have t2: ∀e:Int,tE (.error e:Except Int Tm)=(ou,e):=fun _=>rfl
 cases h1:wD 0 [] (kd0 p) with
 |error e=>
  have:=qU e h1
  have he:e≠0:=by omega
  simp only [kR,t1,t2,n9 he,if_neg he];rfl
 |ok l=>
 simp only [kR,t1]
 cases h2:wD 0 [⟨0,0⟩] (kd0 p) with
 |error e=>
  have:=qU e h2
  have he:e≠0:=by omega
  simp only [kR,t1,t2,n9 he,if_neg he];rfl
 |ok r=>
 simp only [kR,t1]
 cases J:wA 0 1 t with
 |error e=>
  have:=Nu e J
  have he:e≠0:=by omega
  simp only [kR,t1,t2,n9 he,if_neg he];rfl
 |ok x=>
 simp only [kR,t1]
 cases z:wA 0 1 l with
 |error e=>
  have:=Nu e z
  have he:e≠0:=by omega
  simp only [kR,t1,t2,n9 he,if_neg he,aD,z];rfl
 |ok L=>
 simp only [kR,t1]
 cases B:wA 0 1 r with
 |error e=>
  have:=Nu e B
  have he:e≠0:=by omega
  simp only [kR,t1,t2,n9 he,if_neg he,aD,z,B];rfl
 |ok M=>simp only [aD,z,B];rfl
theorem aNV {t p:Tm} {e:Int} (h:L4 t p= .error e):e≠0:=by
 unfold L4 at h
 split at h
 ·cases h
 rcases be h with h|⟨_,_,h⟩
 ·have:=qU e h;omega
 rcases be h with h|⟨_,_,h⟩
 ·have:=qU e h;omega
 rcases be h with h|⟨_,_,h⟩
 ·have:=Nu e h;omega
 rcases be h with h|⟨_,_,h⟩
 ·have:=Nu e h;omega
 rcases be h with h|⟨_,_,h⟩
 ·have:=Nu e h;omega
 ·cases h
theorem aNW {t p x:Tm} (ft:Fm t) (fp:Fm p) (q:p.k=12) (h:L4 t p= .ok x):JT x:=by
 have f0:Fm (kd0 p):=fp.bU (xD (n:=1) (i:=0) (E5 fp q rfl) (by omega)).2
 unfold L4 at h
 split at h
 ·rename_i z
  injection h with h;subst h
  exact (ft.bU (xD (n:=1) (i:=0) (E5 ft z rfl) (by omega)).2).jt
 ·obtain ⟨l,h1,h⟩:=i8 h
  obtain ⟨r,h2,h⟩:=i8 h
  obtain ⟨y,F,h⟩:=i8 h
  obtain ⟨I,J,h⟩:=i8 h
  obtain ⟨L,z,h⟩:=i8 h
  injection h with h;subst h
  have fl:Fm l:=aN8 f0 (Sa f0.ok h1).2
  have E:Fm r:=aN9 f0 (Sa f0.ok h2).2
  have fy:Fm y:=mD (by omega) ft (IC ft.ok F).2
  have A:Fm I:=mD (by omega) fl (IC fl.ok J).2
  have B:Fm L:=mD (by omega) E (IC E.ok z).2
  have:=tg (r:=[⟨1,0⟩]) ⟨by intro c hc;simp at hc;subst hc;exact ⟨⟨by decide,by decide⟩,by decide,by decide⟩,by simp⟩ (.inl fy) (.inl A) (.inl B)
  exact a6 this.1 (by omega) (by have:=this.2;omega)
def F5 (k:Nat):Prop:=4500000000<=k
theorem F5.f4 (h:F5 k):F4 k:=by grind [F5]
theorem F5.f3 (h:F5 k):F3 k:=h.f4.f3
theorem aIq (F:4294970296+nH<k) {defs:List Df} (hd:K7 defs) {t:Tm} (q:In k t) {f:Int} (I:Tm×Int×Int->OS S):h7 k defs t f I=I (ns defs t f):=by
 have A:F4 k:=by omega
 have hk:=A.f3
 simp only [h7,ag hk.fu,ar,Ah q.1 q.2.1 q.dep]
 unfold ns
 by_cases z:bw t=0
 case neg=>rw [dj z,sV,ae,if_pos z];rfl
 rw [z,show (!((0:Int)==0))=false from rfl,n3,if_neg (by simp)]
 by_cases h1:f<0
 ·rw [decide_eq_true h1,ae,if_pos (.inl h1)];rfl
 rw [decide_eq_false h1,n3]
 by_cases h2:100000<f
 ·rw [decide_eq_true (show f>100000 from h2),ae,if_pos (.inr h2)];rfl
 rw [decide_eq_false (show ¬f>100000 from h2),n3,if_neg (by omega),vU t q.1 _ q.2.1]
 have jt:JT t:=Fm.jt ⟨q.1,z⟩
 obtain ⟨j,rfl⟩: ∃j,k=j+1:=⟨k-1,by omega⟩
 obtain ⟨R,x,q2⟩:=aGI (S:=S) hd nH j j (by omega) (by omega) f.toNat t (by omega) jt (aAZ hd (by omega) jt)
 have E: ∀g,EF (j+1) t defs f g=g R:=fun g=>by
  rw [<-q2 g,show ((f.toNat:Nat):Int)=f by omega]
  simp only [EF,q',ar]
 rw [E]
 unfold hdQ
 cases B:hA defs nH f.toNat t with
 |ok p=>rw [B] at x;rw [show R= .ok (p.1,(p.2:Int)) from x];rfl
 |error e=>rw [B] at x;obtain ⟨c,x⟩:=x;rw [x];rfl
theorem aIi (hk:F3 k) {t:Tm} (q:In k t) (I:Bool->OS S): ∃c,HV k t I=I c/\(c=false->au t<=100):=by
 simp only [HV,ar]
 obtain ⟨w,h1,h2,x,z⟩:=aDd t q.1 100 (by unfold Mo;omega) (fun r1=>I (decide (r1>100))) q.2.1
 grind
theorem aGW (hk:F3 k) (I:Bool->OS S) {l:List Df} (hl:Is k l):
  ∀ (r p:List Df) (m:Nat),l=p++r->r.length<m-> ∃c,Sl k I l m (p.length:Int)=I c/\(c=false-> ∀d∈r,au d.body<=100):=by
 intro r
 induction r with
 |nil=>
  intro p m h q
  obtain ⟨m,rfl,z⟩:=py q
  simp_all [Sl,IB,n3]
 |cons x r M=>
  intro p m h q
  obtain ⟨m,rfl,z⟩:=py q
  have A:=hl.1
  obtain ⟨B,E,F,O⟩:=qH h (by omega)
  have J:=hl.2 x (by grind)
  simp only [Sl,IB,B,ae,E,ql,ag hk.fu,ar,F]
  obtain ⟨c,c1,c2⟩:=aIi hk J (fun L=>ab L (I true) (ab (decide ((x.name.size:Int)>50)) (I true) (Sl k I l m ((p++[x]).length:Int))))
  rw [c1]
  cases c<;>grind [ae,n3,decide_eq_false]
theorem aIr (hk:F3 k) {l:List Df} (hl:Is k l) (I:Bool->OS S): ∃c,b0 k l I=I c/\(c=false->l.length<=8/\K7 l/\ ∀d∈l,au d.body<=100):=by
 simp only [b0,aAk]
 by_cases q:(l.length:Int)>8
 ·simp_all [ae]
 rw [decide_eq_false q,n3]
 have x:4294968296<=k:=hk
 obtain ⟨c,h1,h2⟩:=aGW hk I hl l [] k rfl (by omega)
 exact ⟨c,h1,fun h=>⟨by omega,⟨by omega,fun d hd=>⟨(hl.2 d hd).1,by grind [zG],by grind⟩⟩,h2 h⟩⟩
theorem aGN (I:List Df->OS S) {l:List Df} (hl:l.length<1073741824):
  ∀ (r p:List Df) (m:Nat),l=p++r->r.length<m->kv k I l m p (p.length:Int)=I l:=by
 intro r
 induction r with
 |nil=>
  grind [py,kv,w2,n3]
 |cons x r A=>
  intro p m h q
  obtain ⟨m,rfl,z⟩:=py q
  obtain ⟨B,E,F,J⟩:=qH h (by omega)
  grind [kv,w2,ae,aFO,J5]
theorem aH6 (hk:F3 k) {l:List Df} (hl:l.length<1073741824) (I:List Df->OS S):ek k l I=I l:=by
 simp only [ek,h3]
 have q:4294968296<=k:=hk
 exact aGN I hl l [] k rfl (by omega)
abbrev FC:=px (Int×Int) (Bool×Int)
noncomputable def xu (hd:xY S) (defs:List Df) (I:FC->OS S):List It->Int->(Int->OS S)->OS S
 |[],f,K=>K f
 |i::l,f,K=>match i with
  | .err e=>I (.bD (e,f))
  | .no=>I (.ok (false,f))
  | .ask a b=>hd a b defs f fun r=>px.elim r (fun r=>ab (!r.1) (I (.ok (false,r.2))) (xu hd defs I l r.2 K)) fun e=>I (.bD (e.1,e.2))
section
variable {hd:xY S} {defs:List Df}
theorem fP {I:FC->OS S} {K:Int->OS S}: ∀ {l m:List It} {f:Int},xu hd defs I (l++m) f K=xu hd defs I l f fun q=>xu hd defs I m q K:=by
 intro l
 induction l with
 |nil=>intro m f;rfl
 |cons i l x=>
  intro m f
  cases i with
  |err e=>rfl
  |no=>rfl
  |ask a b=>
   show hd a b defs f (fun r=>px.elim r (fun r=>ab (!r.1) (I (.ok (false,r.2))) (xu hd defs I (l++m) r.2 K)) fun e=>I (.bD (e.1,e.2)))=hd a b defs f (fun r=>px.elim r (fun r=>ab (!r.1) (I (.ok (false,r.2))) (xu hd defs I l r.2 fun q=>xu hd defs I m q K)) fun e=>I (.bD (e.1,e.2)))
   simp only [x]
theorem aOp {I q:FC->OS S} {K:Int->OS S} (h1: ∀e,q (.bD e)=I (.bD e)) (h2: ∀f,q (.ok (false,f))=I (.ok (false,f))): ∀ {l:List It} {f:Int},xu hd defs q l f K=xu hd defs I l f K:=by
 intro l
 induction l with
 |nil=>intro f;rfl
 |cons i l x=>
  intro f
  cases i with
  |err e=>exact h1 _
  |no=>exact h2 _
  |ask a b=>
   show hd a b defs f (fun r=>px.elim r (fun r=>ab (!r.1) (q (.ok (false,r.2))) (xu hd defs q l r.2 K)) fun e=>q (.bD (e.1,e.2)))=hd a b defs f (fun r=>px.elim r (fun r=>ab (!r.1) (I (.ok (false,r.2))) (xu hd defs I l r.2 K)) fun e=>I (.bD (e.1,e.2)))
   simp only [x,h1,h2]
theorem aOA (I:FC->OS S):(fun r:FC=>px.elim r (fun r=>I (.ok (r.1,r.2))) fun e=>I (.bD (e.1,e.2)))=I:=by
 funext r
 cases r<;>rfl
theorem xM {I:FC->OS S} {a b:Tm} {f:Int}:xu hd defs I [.ask a b] f (fun q=>I (.ok (true,q)))=hd a b defs f fun r=>px.elim r (fun r=>I (.ok (r.1,r.2))) fun e=>I (.bD (e.1,e.2)):=by
 show (hd a b defs f fun r=>_)=(hd a b defs f fun r=>_)
 congr 1
 funext r
 cases r with
 |bD e=>rfl
 |ok p=>
  obtain ⟨v,g⟩:=p
  cases v<;>rfl
theorem aOW (hk:F3 k) (I:FC->OS S) (z:Int->Int->OS S) {kind:Int} {fc:LC} {v:Int} {a b:LT} (hl:a.length<1073741824) (A:a.length=b.length) (ha: ∀x∈a,In k x) (hb: ∀x∈b,In k x) {c:Cl} (hc:aX c):
  ∀ (r p s q:LT) (m:Nat) (f:Int),a=p++r->b=q++s->p.length=q.length->r.length<m->
   RP hd k I z defs kind fc v a b m f c (p.length:Int)=xu hd defs I ((r.zip s).map (vx c)) f fun M=>z M (ot .i64 (v+1)):=by
 intro r
 induction r with
 |nil=>
  intro p s q m f h h' hp E
  obtain ⟨m,rfl,B⟩:=py E
  simp only [RP,Km,xw h,n3,List.zip_nil_left,List.map_nil,xu]
 |cons x r F=>
  intro p s q m f h h' hp E
  obtain ⟨m,rfl,B⟩:=py E
  cases s with
  |nil=>rw [h,h'] at A;simp at A;omega
  |cons y s=>
  obtain ⟨O,T,W,Y⟩:=qH h (by omega)
  obtain ⟨_,f2,_,f4⟩:=qH h' (by omega)
  rw [<-hp] at f2
  have hx:=ha x (by rw [h];simp)
  have hy:=hb y (by rw [h'];simp)
  simp only [RP,Km,O,ae,T,f2,ql,ag hk.fu,ar,aN2 hk hx hc,aN2 hk hy hc,R6,W,List.zip_cons_cons,Ft]
  unfold vx
  dsimp only
  cases h1:Mj x c with
  |error e=>
   have he:=dh h1
   show ab (!(e==0)) _ _=_
   rw [dj he];rfl
  |ok J=>
   cases h2:Mj y c with
   |error e=>
    have he:=dh h2
    show ab (!(e==0)) _ _=_
    rw [dj he];rfl
   |ok L=>
    show (hd J L defs f fun ad=>_)=(hd J L defs f fun r=>_)
    have:=F (p++[x]) s (q++[y]) m
    simp only [F (p++[x]) s (q++[y]) m _ Y f4 (by simp [hp]) B]
    rfl
theorem aOV (hk:F3 k) (I:FC->OS S) {kind:Int} {fc:LC} (hf:aq fc) (M:fc.length<1073741824) {a b:LT} (hl:a.length<1073741824) (E:a.length=b.length) (ha: ∀x∈a,In k x) (hb: ∀x∈b,In k x):
  ∀ (r p:LC) (m:Nat) (f:Int),fc=p++r->r.length<m->
   NA hd k I defs kind fc a b m f (p.length:Int)=xu hd defs I (Ik kind r a b) f fun z=>I (.ok (true,z)):=by
 have O:4294968296<=k:=hk
 intro r
 induction r with
 |nil=>
  intro p m f h F
  obtain ⟨m,rfl,A⟩:=py F
  simp only [NA,pq,xw h,n3,Ik,List.flatMap_nil,xu]
 |cons c r T=>
  intro p m f h F
  obtain ⟨m,rfl,A⟩:=py F
  obtain ⟨W,Y,e3,e4⟩:=qH h (by omega)
  have oc:aX c:=hf c (by rw [h];simp)
  have hi:Ik kind (c::r) a b=(if (M6 kind c).2=0 then (a.zip b).map (vx (M6 kind c).1) else [.err (M6 kind c).2])++Ik kind r a b:=by
   unfold Ik;rw [List.flatMap_cons]
  rw [hi,fP]
  simp only [NA,pq,W,ae,Y,ql,ag hk.fu,ad]
  have go: ∀B,aX B->RP hd k I (NA hd k I defs kind fc a b m) defs kind fc (p.length:Int) a b k f B 0=xu hd defs I ((a.zip b).map (vx B)) f fun z=>xu hd defs I (Ik kind r a b) z fun z=>I (.ok (true,z)):=fun B J=>by
   have:=aOW (hd:=hd) (defs:=defs) hk I (NA hd k I defs kind fc a b m) (kind:=kind) (fc:=fc) (v:=(p.length:Int)) hl E ha hb J a [] b [] k f rfl rfl rfl (by omega)
   refine po this ?_
   congr 1
   funext z
   rw [e3,T (p++[c]) m z e4 A]
  unfold M6
  by_cases q:kind=15
  ·rw [q,show ((15:Int)==15)=true from rfl,ae,ai4 hk.fu oc (by unfold aG;omega) (by unfold aG;omega)]
   simp only [if_pos]
   by_cases L:(dw c 0 1).2=0
   ·rw [L,show (!((0:Int)==0))=false from rfl,n3,if_pos rfl]
    rw [q] at go
    have rc:=LJ c 0 1
    exact go _ ⟨⟨rc.1.1,by have:=rc.1.2;omega⟩,rc.2.1,by have:=rc.2.2;omega⟩
   ·rw [dj L,sV,ae,if_neg L];rfl
  ·rw [beq_false_of_ne q,n3,if_neg q,if_pos rfl]
   exact go c oc
theorem aO7 (hk:F3 k) (I:FC->OS S) {kind:Int} {fc:LC} (hf:aq fc) (q:fc.length<1073741824) {a b:LT} (hl:a.length<1073741824) (z:a.length=b.length) (ha: ∀x∈a,In k x) (hb: ∀x∈b,In k x) (f:Int):
  G0 hd k kind fc a b defs f I=xu hd defs I (Ik kind fc a b) f fun A=>I (.ok (true,A)):=by
 have B:4294968296<=k:=hk
 simp only [G0,aNp]
 exact aOV hk I hf q hl z ha hb fc [] k f rfl (by omega)
def MM (k:Nat) (n:Int) (x:Br Tm):Prop:=aq x.f/\x.f.length<1073741824/\x.c.length<1073741824/\(x.c.length:Int)=n/\ ∀y∈x.c,In k y
theorem aN1 (hk:F3 k) (I:FC->OS S) {kind n:Int} {fc:LC} (hf:aq fc) (q:fc.length<1073741824) {x y:Br Tm} (A:MM k n x) (B:MM k n y) (f:Int) (K:Int->OS S):
  (G0 hd k kind fc x.c y.c defs f fun r=>px.elim r (fun r=>ab (!r.1) (I (.ok (false,r.2))) (K r.2)) fun e=>I (.bD (e.1,e.2)))=xu hd defs I (Ik kind fc x.c y.c) f K:=by
 obtain ⟨x1,x2,x3,x4,x5⟩:=A
 obtain ⟨y1,y2,y3,y4,y5⟩:=B
 rw [aO7 hk _ hf q x3 (by omega) x5 y5]
 have key: ∀R':FC->OS S,(∀e,R' (.bD e)=I (.bD e))->(∀f,R' (.ok (false,f))=I (.ok (false,f)))->(fun z=>R' (.ok (true,z)))=K->xu hd defs R' (Ik kind fc x.c y.c) f (fun z=>R' (.ok (true,z)))=xu hd defs I (Ik kind fc x.c y.c) f K:=fun R' a b c=>by rw [c];exact aOp a b
 exact key _ (fun e=>rfl) (fun f=>rfl) rfl
theorem aOS (hk:F3 k) (I:FC->OS S) {kind n:Int} {a b:LB} (hl:a.length<1073741824) (z:a.length=b.length) (ha: ∀x∈a,MM k n x) (hb: ∀x∈b,MM k n x):
  ∀ (r p s q:LB) (m:Nat) (f:Int),a=p++r->b=q++s->p.length=q.length->r.length<m->
   k8 hd k I defs kind b a m f (p.length:Int)=xu hd defs I ((r.zip s).flatMap fun p=>Ik kind p.1.f p.1.c p.2.c) f fun A=>I (.ok (true,A)):=by
 intro r
 induction r with
 |nil=>
  intro p s q m f h h' hp E
  obtain ⟨m,rfl,B⟩:=py E
  simp only [k8,w3,xw h,n3,List.zip_nil_left,List.flatMap_nil,xu]
 |cons x r J=>
  intro p s q m f h h' hp E
  obtain ⟨m,rfl,B⟩:=py E
  cases s with
  |nil=>rw [h,h'] at z;simp at z;omega
  |cons y s=>
  obtain ⟨L,M,O,T⟩:=qH h (by omega)
  obtain ⟨_,f2,_,f4⟩:=qH h' (by omega)
  rw [<-hp] at f2
  have F:=ha x (by rw [h];simp)
  have W:=hb y (by rw [h'];simp)
  simp only [k8,w3,L,ae,M,f2,ql,ag hk.fu,O,List.zip_cons_cons,List.flatMap_cons]
  rw [fP]
  simp only [J (p++[x]) s (q++[y]) m _ T f4 (by simp [hp]) B]
  exact aN1 hk I F.1 F.2.1 F W f fun A=>xu hd defs I ((r.zip s).flatMap fun p=>Ik kind p.1.f p.1.c p.2.c) A fun A=>I (.ok (true,A))
theorem aOU (hk:F3 k) (I:FC->OS S) (q:Int->Int->OS S) {kind n v:Int} {a b:LB} (hl:b.length<1073741824) {x:Br Tm} (B:MM k n x) (hb: ∀x∈b,MM k n x):
  ∀ (r p:LB) (m:Nat) (f:Int),b=p++r->r.length<m->
   SJ hd k I q defs x kind b a v m f (p.length:Int)=xu hd defs I (r.flatMap fun y=>mv kind x y) f fun z=>q z (ot .i64 (v+1)):=by
 intro r
 induction r with
 |nil=>
  intro p m f h J
  obtain ⟨m,rfl,A⟩:=py J
  simp only [SJ,L',xw h,n3,List.flatMap_nil,xu]
 |cons y r M=>
  intro p m f h J
  obtain ⟨m,rfl,A⟩:=py J
  obtain ⟨O,T,W,Y⟩:=qH h (by omega)
  have E:=hb y (by rw [h];simp)
  simp only [SJ,L',O,ae,T,ql,ag hk.fu,aO9 hk B.1 E.1 B.2.1 E.2.1,l8,W,List.flatMap_cons]
  rw [fP]
  have hM:mv kind x y=if (Mk x.f y.f).2=0 then Ik kind (Mk x.f y.f).1 x.c y.c else [.err (Mk x.f y.f).2]:=rfl
  rw [hM]
  by_cases F:(Mk x.f y.f).2=0
  ·rw [F,show (!((0:Int)==0))=false from rfl,n3,if_pos rfl]
   have L:=aO2 B.1 E.1 F
   simp only [M (p++[y]) m _ Y A]
   exact aN1 hk I L.1.2 (by have:=L.1.len;omega) B E f fun z=>xu hd defs I (r.flatMap fun y=>mv kind x y) z fun z=>q z (ot .i64 (v+1))
  ·rw [dj F,sV,ae,if_neg F];rfl
theorem aOT (hk:F3 k) (I:FC->OS S) {kind n:Int} {a b:LB} (hl:a.length<1073741824) (z:b.length<1073741824) (ha: ∀x∈a,MM k n x) (hb: ∀x∈b,MM k n x):
  ∀ (r p:LB) (m:Nat) (f:Int),a=p++r->r.length<m->
   RQ hd k I defs kind b a m f (p.length:Int)=xu hd defs I (r.flatMap fun x=>b.flatMap fun y=>mv kind x y) f fun A=>I (.ok (true,A)):=by
 have E:4294968296<=k:=hk
 intro r
 induction r with
 |nil=>
  intro p m f h B
  obtain ⟨m,rfl,q⟩:=py B
  simp only [RQ,ml,xw h,n3,List.flatMap_nil,xu]
 |cons x r F=>
  intro p m f h B
  obtain ⟨m,rfl,q⟩:=py B
  obtain ⟨J,L,M,O⟩:=qH h (by omega)
  have T:=ha x (by rw [h];simp)
  simp only [RQ,ml,J,ae,L,ql,List.flatMap_cons]
  rw [fP]
  have:=aOU (hd:=hd) (defs:=defs) (a:=a) (v:=(p.length:Int)) (kind:=kind) hk I (RQ hd k I defs kind b a m) z T hb b [] k f rfl (by omega)
  refine po this ?_
  congr 1
  funext A
  rw [M,F (p++[x]) m A O q]
theorem aO6 (hk:F3 k) (I:FC->OS S) {kind n:Int} {a b:LB} (hl:a.length<1073741824) (z:b.length<1073741824) (ha: ∀x∈a,MM k n x) (hb: ∀x∈b,MM k n x) (f:Int):
  k7 hd k kind a b defs f I=xu hd defs I (G1 kind a b) f fun B=>I (.ok (true,B)):=by
 have E:4294968296<=k:=hk
 simp only [k7,aNo,ag hk.fu,aN7 hk hl fun x q=>⟨(ha x q).1,(ha x q).2.1⟩,aN7 hk z fun x q=>⟨(hb x q).1,(hb x q).2.1⟩,l8,aO8 hk hl fun x q=>(ha x q).2.1]
 unfold G1
 cases h1:Ia [] a with
 |error e=>
  have he:=h4 h1
  show ab (!(e==0)) _ _=_
  rw [dj he];rfl
 |ok fa=>
  cases h2:Ia [] b with
  |error e=>
   have he:=h4 h2
   show ab (!(e==0)) _ _=_
   rw [dj he];rfl
  |ok fb=>
   have F:=aOD (by simp) h1
   show (zz k fa fb fun J=>_)=_
   rw [iv hk.fu (by omega)]
   dsimp only
   by_cases hf:fa=fb
   ·rw [decide_eq_true hf,if_neg (by simp [hf]),va,n3]
    by_cases A:a.map (·.f)=b.map (·.f)
    ·rw [decide_eq_true A,if_pos A,ae]
     exact aOS hk I hl (by simpa using congrArg EO A) ha hb a [] b [] k f rfl rfl rfl (by omega)
    ·rw [decide_eq_false A,if_neg A,n3]
     exact aOT hk I hl z ha hb a [] k f rfl (by omega)
   ·rw [decide_eq_false hf,if_pos hf];rfl
end
end
section
def aKx (r:Tm×Bool×Int):Prop:=r.2.1=false/\r.2.2=0
structure Shp (t t':Tm):Prop where
 kd:t'.k=t.k
 nm:t'.name=t.name
 r:t'.r=t.r
 fa:t'.s.map (·.f)=t.s.map (·.f)
 le:t'.c.length=t.c.length
 pl: ∀i∈re t,(xP t' i).k=(xP t i).k
section
variable {t t':Tm} (ft:Fm t) (h:Shp t t')
include ft h
end
noncomputable def hE (defs:List Df) (f:Nat) (t:Tm):Except Int (Tm×Nat):=if bw t≠0 then .error (bw t) else hA defs nH f t
theorem x0 {defs:List Df} (hd:K7 defs) {f:Nat} {t a:Tm} {r:Nat} (q:pr t) (h:hE defs f t= .ok (a,r)):Fm t/\Fm a/\r<=f/\(r=f->a=t)/\xA (nf defs) re nH a:=by
 unfold hE at h
 split at h
 ·cases h
 rename_i x
 have ft:Fm t:=⟨q,Decidable.not_not.1 x⟩
 obtain ⟨z,q2⟩:=(aF7 (st:=nf defs) (pl:=re) (eF:=220) nH).1 _ _ _ _ h
 exact ⟨ft,((Hd hd nH).1 _ _ ft.jt _ _ h).1,z,q2,((aGF nH).1 _ _ _ _ h).1⟩
theorem R0 {defs:List Df} {f:Nat} {t a:Tm} {r:Nat} (h:hE defs f t= .ok (a,r)):r<=f:=by
 unfold hE at h
 split at h
 ·cases h
 ·exact ((aF7 (st:=nf defs) (pl:=re) (eF:=220) nH).1 _ _ _ _ h).1
inductive NF (defs:List Df):Tm->Prop where
 |mk (t:Tm) (q:aKx (nf defs t)) (k: ∀x∈t.c,NF defs x) (s: ∀b∈t.s,∀x∈b.c,NF defs x):NF defs t
variable {S:Type} {k:Nat}
theorem aG6 (more:Int):0<=ot .i64 (Int.tmod (ot .u64 more) 10)/\ot .i64 (Int.tmod (ot .u64 more) 10)<10:=by
 have h:0<=ot .u64 more:=by
  show 0<=more%_
  omega
 grind [uY]
def avp (x:Except Int (Tm×Nat)):Tm×Int×Int:=match x with
 | .ok p=>(p.1,(p.2:Int),0)
 | .error e=>(ou,0,e)
theorem aKL {defs:List Df} {t:Tm} {f:Nat} (hf:f<=100000):ns defs t (f:Int)=avp (hE defs f t):=by
 grind [ns,hE,hdQ,avp]
theorem aKK {defs:List Df} (j:Nat) (f:Nat) (t:Tm):xZ 220 j (hE defs f t) (hE defs (f+j) t):=by
 unfold hE
 by_cases q:bw t≠0
 ·rw [if_pos q,if_pos q];exact ⟨fun a r h=>(by cases h),fun e h _ _=>h⟩
 ·rw [if_neg q,if_neg q];exact (aF6 (st:=nf defs) (pl:=re) (eF:=220) (by decide) j nH).1 f t
noncomputable abbrev cv (defs:List Df):=Im (hE defs) HW 220
noncomputable abbrev cl (defs:List Df):=DQ (hE defs) HW 220
def gn (x:Except Int (Bool×Nat)) (R:FC):Prop:=match x with
 | .ok p=>R= .ok (p.1,(p.2:Int))
 | .error e=> ∃c,R= .bD (e,c)
theorem p0 (z:4294970296+nH<k) {defs:List Df} (hd:K7 defs) {t:Tm} (jt:JT t) {f:Nat} (hf:f<=100000) (I:px (Int×Int) (Tm×Int)->OS S):
  fD k t defs (f:Int) I=I (match hE defs f t with
   | .ok p=> .ok (p.1,(p.2:Int))
   | .error e=> .bD (e,0)):=by
 have hk:F3 k:=by unfold F3;omega
 simp only [fD,ag hk.fu,ar,aIq z hd (jt.isIn hk),aKL hf,R6]
 cases x:hE defs f t with
 |ok p=>rfl
 |error e=>
  have he:e≠0:=by
   intro q
   unfold hE at x
   split at x
   ·rename_i c;injection x with x;exact c (by rw [x,q])
   ·rename_i c;exact aAZ hd hf (Fm.jt ⟨jt.1,Decidable.not_not.1 c⟩) (by rw [x,q])
  show ab (!(e==0)) _ _=_
  rw [dj he];rfl
def Sb (i:It):Prop:=(∀a b,i= .ask a b->JT a/\JT b)/\ ∀e,i= .err e->e≠0
theorem RR {a b:Tm} (ha:JT a) (hb:JT b):Sb (.ask a b):=⟨fun c d h=>by injection h with h1 h2;subst h1;subst h2;exact ⟨ha,hb⟩,fun e h=>by cases h⟩
theorem M4 {e:Int} (he:e≠0):Sb (.err e):=⟨fun c d h=>(by cases h),fun e' h=>by injection h with h;subst h;exact he⟩
theorem aNG:Sb .no:=⟨fun c d h=>(by cases h),fun e h=>by cases h⟩
theorem aNH {kd:Int} {f:LC} {a b:LT} (ha: ∀x∈a,pr x) (hb: ∀x∈b,pr x): ∀i∈Ik kd f a b,Sb i:=by
 intro i q
 obtain ⟨c,_,q⟩:=List.mem_flatMap.1 q
 split at q
 ·obtain ⟨p,hp,rfl⟩:=xl.1 q
  have h1:=ha _ (List.of_mem_zip hp).1
  have h2:=hb _ (List.of_mem_zip hp).2
  unfold vx
  cases z:Mj p.1 (M6 kd c).1 with
  |error e=>exact M4 (dh z)
  |ok x=>
   cases q2:Mj p.2 (M6 kd c).1 with
   |error e=>exact M4 (dh q2)
   |ok y=>exact RR (aN_ h1 z) (aN_ h2 q2)
 ·rename_i c
  obtain rfl:i=_:=by simpa using q
  exact M4 c
theorem aOI {kd:Int} {a b:LB} (ha: ∀x∈a,∀y∈x.c,pr y) (hb: ∀x∈b,∀y∈x.c,pr y): ∀i∈G1 kd a b,Sb i:=by
 intro i q
 unfold G1 at q
 cases h1:Ia [] a with
 |error e=>
  rw [h1] at q
  obtain rfl:i=_:=by simpa using q
  exact M4 (h4 h1)
 |ok f=>
  cases h2:Ia [] b with
  |error e=>
   rw [h1,h2] at q
   obtain rfl:i=_:=by simpa using q
   exact M4 (h4 h2)
  |ok g=>
   rw [h1,h2] at q
   dsimp only at q
   split at q
   ·obtain rfl:i=_:=by simpa using q
    exact aNG
   split at q
   ·obtain ⟨p,hp,q⟩:=List.mem_flatMap.1 q
    exact aNH (ha _ (List.of_mem_zip hp).1) (hb _ (List.of_mem_zip hp).2) i q
   ·obtain ⟨x,z,q⟩:=List.mem_flatMap.1 q
    obtain ⟨y,A,q⟩:=List.mem_flatMap.1 q
    unfold mv at q
    split at q
    ·exact aNH (ha x z) (hb y A) i q
    ·rename_i c
     obtain rfl:i=_:=by simpa using q
     exact M4 c
theorem aNY {x y:Tm} (fx:Fm x) (fy:Fm y): ∀i∈HW x y,Sb i:=by
 intro i hi
 unfold HW at hi
 split at hi
 ·cases h1:Il x with
  |error e=>
   rw [h1] at hi
   obtain rfl:i=_:=by simpa using hi
   exact M4 (aNB h1)
  |ok f=>
   cases h2:Il y with
   |error e=>
    rw [h1,h2] at hi
    obtain rfl:i=_:=by simpa using hi
    exact M4 (aNB h2)
   |ok g=>
    rw [h1,h2] at hi
    obtain rfl:i=_:=by simpa using hi
    exact RR (aNC fx h1) (aNC fy h2)
 split at hi
 ·rcases xF.1 hi with rfl|hi
  ·exact RR (eg fx (.inl rfl)) (eg fy (.inl rfl))
  ·obtain rfl:i=_:=by simpa using hi
   exact RR (eg fx (.inr rfl)) (eg fy (.inr rfl))
 split at hi
 ·rename_i q
  cases h1:L4 y x with
  |error e=>
   rw [h1] at hi
   obtain rfl:i=_:=by simpa using hi
   exact M4 (aNV h1)
  |ok g=>
   rw [h1] at hi
   obtain rfl:i=_:=by simpa using hi
   exact RR (Mm fx 0) (aNW fy fx q h1)
 split at hi
 ·rename_i q
  cases h1:L4 x y with
  |error e=>
   rw [h1] at hi
   obtain rfl:i=_:=by simpa using hi
   exact M4 (aNV h1)
  |ok g=>
   rw [h1] at hi
   obtain rfl:i=_:=by simpa using hi
   exact RR (aNW fx fy q h1) (Mm fy 0)
 split at hi
 ·obtain rfl:i=_:=by simpa using hi
  exact aNG
 split at hi
 ·obtain rfl:i=_:=by simpa using hi
  exact RR (Mm fx 0) (Mm fy 0)
 rcases xN.1 hi with hi|hi
 ·obtain ⟨p,hp,rfl⟩:=xl.1 hi
  exact RR (fx.bU (List.of_mem_zip hp).1).jt (fy.bU (List.of_mem_zip hp).2).jt
 ·exact aOI (fun b hb z A=>(fx.brk hb A).ok) (fun b hb z A=>(fy.brk hb A).ok) i hi
theorem aNb {defs:List Df}: ∀n,(∀f a b v r,cv defs n f a b= .ok (v,r)->r<=f)/\ ∀l f v r,cl defs n f l= .ok (v,r)->r<=f:=by
 have mk: ∀n,(∀f a b v r,cv defs n f a b= .ok (v,r)->r<=f)-> ∀l f v r,cl defs n f l= .ok (v,r)->r<=f:=by
  intro n hA l
  induction l with
  |nil=>intro f v r h;change DQ (hE defs) HW 220 n f []=_ at h;rw [j1] at h;injection h with h;injection h with _ h;omega
  |cons i l q=>
   intro f v r h
   change DQ (hE defs) HW 220 n f (i::l)=_ at h
   cases i with
   |err e=>rw [l0] at h;cases h
   |no=>rw [Ih] at h;injection h with h;injection h with _ h;omega
   |ask a b=>
    rw [j2] at h
    obtain ⟨y,f1,h1,h⟩:=auC h
    have:=hA _ _ _ _ _ h1
    cases y with
    |true=>have:=q _ _ _ h;omega
    |false=>injection h with h;injection h with _ h;omega
 intro n
 induction n with
 |zero=>
  have hA: ∀f a b v r,cv defs 0 f a b= .ok (v,r)->r<=f:=fun f a b v r h=>by change Im (hE defs) HW 220 0 f a b=_ at h;rw [aNa] at h;cases h
  exact ⟨hA,mk 0 hA⟩
 |succ n q=>
  have hA: ∀f a b v r,cv defs (n+1) f a b= .ok (v,r)->r<=f:=fun f a b v r h=>by
   change Im (hE defs) HW 220 (n+1) f a b=_ at h
   rw [iw] at h
   split at h
   ·cases h
   obtain ⟨x,f1,h1,h⟩:=auC h
   obtain ⟨y,f2,h2,h⟩:=auC h
   have:=R0 h1;have:=R0 h2;have:=q.2 _ _ _ _ h
   omega
  exact ⟨hA,mk _ hA⟩
theorem aNx {defs:List Df} (hd:K7 defs): ∀n f a b,f<=100000->pr a->pr b->f+1<=n->cv defs n f a b≠ .error 0:=by
 have E: ∀f t,f<=100000->pr t->hE defs f t≠ .error 0:=by
  intro f t hf M A
  unfold hE at A
  split at A
  ·rename_i c;injection A with A;exact c A
  ·rename_i c;exact aAZ hd hf (Fm.jt ⟨M,Decidable.not_not.1 c⟩) A
 intro n
 induction n with
 |zero=>intro f a b _ _ _ h;omega
 |succ n O=>
  intro f a b hf ha hb hn h
  change Im (hE defs) HW 220 (n+1) f a b=_ at h
  rw [iw] at h
  split at h
  ·injection h with h;cases h
  rename_i hz
  rcases azM h with h|⟨x,f1,h1,h⟩
  ·exact E _ _ (by omega) ha h
  rcases azM h with h|⟨y,f2,h2,h⟩
  ·have:=R0 h1;exact E _ _ (by omega) hb h
  have l1:=R0 h1;have l2:=R0 h2
  have fx:=(x0 hd ha h1).2.1
  have fy:=(x0 hd hb h2).2.1
  have key: ∀l:List It,(∀i∈l,Sb i)-> ∀B,B+1<=n->B<=100000->DQ (hE defs) HW 220 n B l≠ .error 0:=by
   intro l
   induction l with
   |nil=>intro _ B _ _ q;rw [j1] at q;cases q
   |cons i l I=>
    intro hl B J L q
    have F:=hl i (by simp)
    cases i with
    |err e=>rw [l0] at q;injection q with q;exact F.2 e rfl q
    |no=>rw [Ih] at q;cases q
    |ask c d=>
     obtain ⟨T,W⟩:=F.1 c d rfl
     rw [j2] at q
     rcases azM q with q|⟨z,f3,Y,q⟩
     ·exact O B c d L T.1 W.1 J q
     ·have:=(aNb n).1 _ _ _ _ _ Y
      cases z with
      |true=>exact I (fun i F=>hl i (by simp [F])) f3 (by omega) (by omega) q
      |false=>cases q
  exact key _ (aNY fx fy) f2 (by omega) (by omega) h
theorem aOq {hd:xY S} {defs:List Df} {n f0:Nat} (J: ∀f a b,f<=f0->JT a->JT b->cv defs n f a b≠ .error 0-> ∃R,gn (cv defs n f a b) R/\ ∀g,hd a b defs (f:Int) g=g R):
  ∀ (l:List It) f,f<=f0->(∀i∈l,Sb i)->cl defs n f l≠ .error 0-> ∃R,gn (cl defs n f l) R/\ ∀I:FC->OS S,xu hd defs I l (f:Int) (fun x=>I (.ok (true,x)))=I R:=by
 intro l
 induction l with
 |nil=>
  intro f _ _ _
  refine ⟨.ok (true,(f:Int)), ?_,fun I=>rfl⟩
  show gn (DQ (hE defs) HW 220 n f []) _
  rw [j1];rfl
 |cons i l L=>
  intro f hf hl z
  have B:=hl i (by simp)
  cases i with
  |err e=>
   refine ⟨.bD (e,(f:Int)), ?_,fun I=>rfl⟩
   show gn (DQ (hE defs) HW 220 n f (.err e::l)) _
   rw [l0];exact ⟨_,rfl⟩
  |no=>
   refine ⟨.ok (false,(f:Int)), ?_,fun I=>rfl⟩
   show gn (DQ (hE defs) HW 220 n f (.no::l)) _
   rw [Ih];rfl
  |ask a b=>
   have eq:cl defs n f (.ask a b::l)=KK (cv defs n f a b) fun yes x=>if yes then cl defs n x l else .ok (false,x):=j2
   rw [eq] at z ⊢
   obtain ⟨M,O⟩:=B.1 a b rfl
   have E:cv defs n f a b≠ .error 0:=fun q=>z (by rw [q];rfl)
   obtain ⟨R,A,q2⟩:=J f a b hf M O E
   have T: ∀I:FC->OS S,xu hd defs I (.ask a b::l) (f:Int) (fun x=>I (.ok (true,x)))=px.elim R (fun r=>ab (!r.1) (I (.ok (false,r.2))) (xu hd defs I l r.2 fun x=>I (.ok (true,x)))) fun e=>I (.bD (e.1,e.2)):=fun I=>q2 _
   simp only [T]
   cases F:cv defs n f a b with
   |error e=>
    rw [F] at A
    obtain ⟨c,rfl⟩:=A
    exact ⟨.bD (e,c),⟨c,rfl⟩,fun I=>rfl⟩
   |ok p=>
    obtain ⟨v,r⟩:=p
    rw [F] at A z
    have A:R= .ok (v,(r:Int)):=A
    subst A
    have hle:=(aNb n).1 _ _ _ _ _ F
    rw [x9] at z ⊢
    cases v with
    |false=>exact ⟨.ok (false,(r:Int)),rfl,fun I=>rfl⟩
    |true=>
     rw [if_pos rfl] at z ⊢
     exact L r (by omega) (fun i B=>hl i (by simp [B])) z
theorem aOR (hk:F3 k) {hd:xY S} {defs:List Df} (I:FC->OS S) {x y:Tm×Int} (hl:x.1.c.length<1073741824) (B:x.1.c.length=y.1.c.length) (f0:Int) {K:Int->OS S} (L: ∀f:Int,(k7 hd k x.1.k x.1.s y.1.s defs f fun A=>px.elim A (fun A=>I (.ok (A.1,A.2))) fun E=>I (.bD (E.1,E.2)))=K f):
  ∀ (r p s q:LT) (m:Nat) (f:Int),x.1.c=p++r->y.1.c=q++s->p.length=q.length->r.length<m->
   jq hd k I defs x y m f (p.length:Int)=xu hd defs I ((r.zip s).map fun p=> .ask p.1 p.2) f K:=by
 intro r
 induction r with
 |nil=>
  intro p s q m f h h' hp J
  obtain ⟨m,rfl,F⟩:=py J
  simp only [jq,hg,xw h,n3,List.zip_nil_left,List.map_nil,xu,ag hk.fu,L]
 |cons z r M=>
  intro p s q m f h h' hp J
  obtain ⟨m,rfl,F⟩:=py J
  cases s with
  |nil=>rw [h,h'] at B;simp at B;omega
  |cons w s=>
  obtain ⟨O,T,W,Y⟩:=qH h (by omega)
  obtain ⟨_,f2,_,f4⟩:=qH h' (by omega)
  rw [<-hp] at f2
  simp only [jq,hg,O,ae,T,f2,ql,ar,W,List.zip_cons_cons,Ft,M (p++[z]) s (q++[w]) m _ Y f4 (by simp [hp]) F]
  rfl
theorem aNw {n:Int} {t:Tm} (ft:Fm t) (hk:F3 k) (hn:xV t.k=n): ∀b∈t.s,MM k n b:=fun b hb=>
 ⟨(ft.ok.bi hb).1.1,(ft.ok.bi hb).1.2.1,(ft.ok.bi hb).1.2.2,by rw [<-hn];exact ft.parts b hb,fun y q=>(ft.brk hb q).isIn hk⟩
theorem aPb (hF:4334970400<=k) {defs:List Df} (hd:K7 defs) {a b x y:Tm} {f f1 f2:Nat} (h0:f≠0) (hf:f<=100000) (ja:JT a) (jb:JT b) (h1:hE defs (f-1) a= .ok (x,f1)) (h2:hE defs f1 b= .ok (y,f2)) (I:FC->OS S):
  Bx (k+1) a b defs (f:Int) I=xu (Bx k) defs I (HW x y) (f2:Int) fun J=>I (.ok (true,J)):=by
 have hk:F3 k:=by unfold F3;omega
 have bc:4294968296<=k:=hk
 have l1:=R0 h1
 have fx:=(x0 hd ja.1 h1).2.1
 have fy:=(x0 hd jb.1 h2).2.1
 have hw:ot .i64 ((f:Int)-1)=((f-1:Nat):Int):=by rw [uY (by omega) (by omega)];omega
 simp only [Bx,kx,ag hk.fu,ar,hw]
 rw [show ((f:Int)==0)=false from beq_false_of_ne (by omega),n3,p0 (by unfold nH;omega) hd ja (by omega),h1]
 dsimp only [px.elim]
 rw [p0 (by unfold nH;omega) hd jb (by omega),h2]
 dsimp only [px.elim]
 simp only [aN4 hk fx,aN4 hk fy,Ij hk fx (.inl rfl),Ij hk fx (.inr rfl),Ij hk fy (.inl rfl),Ij hk fy (.inr rfl)]
 have T:(px.elim (pE (Il x)) (fun r8=>px.elim (pE (Il y)) (fun az=>Bx k r8 az defs (f2:Int) fun r14=>px.elim r14 (fun r14=>I (.ok (r14.1,r14.2))) fun W=>I (.bD (W.1,W.2))) fun a6=>I (.bD (a6,(f2:Int)))) fun e9=>I (.bD (e9,(f2:Int))))=
   xu (Bx k) defs I (match Il x with
    | .error e=>[.err e]
    | .ok f=>match Il y with
     | .error e=>[.err e]
     | .ok g=>[.ask f g]) (f2:Int) fun J=>I (.ok (true,J)):=by
  cases q1:Il x with
  |error e=>rfl
  |ok u=>
   cases q2:Il y with
   |error e=>rfl
   |ok w=>exact xM.symm
 unfold HW
 by_cases x5:x.k=5
 ·rw [x5,show ((5:Int)==5)=true from rfl,ae,if_pos (.inl rfl)]
  exact T
 rw [beq_false_of_ne x5,n3]
 by_cases y5:y.k=5
 ·rw [y5,show ((5:Int)==5)=true from rfl,ae,if_pos (.inr rfl)]
  exact T
 rw [beq_false_of_ne y5,n3,if_neg (fun q=>q.elim x5 y5)]
 have Y:(Bx k (FE x 9) (FE y 9) defs (f2:Int) fun F=>px.elim F (fun F=>ab F.1 (Bx k (FE x 10) (FE y 10) defs F.2 fun L=>px.elim L (fun L=>I (.ok (L.1,L.2))) fun ad=>I (.bD (ad.1,ad.2))) (I (.ok (false,F.2)))) fun ao=>I (.bD (ao.1,ao.2)))=
   xu (Bx k) defs I [.ask (FE x 9) (FE y 9),.ask (FE x 10) (FE y 10)] (f2:Int) fun J=>I (.ok (true,J)):=by
  show _=Bx k (FE x 9) (FE y 9) defs (f2:Int) fun r=>px.elim r (fun r=>ab (!r.1) (I (.ok (false,r.2))) (xu (Bx k) defs I [.ask (FE x 10) (FE y 10)] r.2 fun J=>I (.ok (true,J)))) fun e=>I (.bD (e.1,e.2))
  congr 1
  funext r
  cases r with
  |bD e=>rfl
  |ok p=>
   obtain ⟨v,g⟩:=p
   cases v with
   |true=>exact xM.symm
   |false=>rfl
 by_cases x8:x.k=8
 ·rw [x8,show ((8:Int)==8)=true from rfl,ae,if_pos (.inl rfl)]
  exact Y
 rw [beq_false_of_ne x8,n3]
 by_cases y8:y.k=8
 ·rw [y8,show ((8:Int)==8)=true from rfl,ae,if_pos (.inr rfl)]
  exact Y
 rw [beq_false_of_ne y8,n3,if_neg (fun q=>q.elim x8 y8)]
 by_cases B:x.k=12
 ·rw [if_pos B,B,show ((12:Int)==12)=true from rfl,ae,show af x.c 0=some (kd0 x) from (xD (n:=1) (i:=0) (E5 fx B rfl) (by omega)).1,ql,aN6 hk fy fx B]
  cases q1:L4 y x with
  |error e=>rfl
  |ok u=>exact xM.symm
 rw [if_neg B,beq_false_of_ne B,n3]
 by_cases z:y.k=12
 ·rw [if_pos z,z,show ((12:Int)==12)=true from rfl,ae,aN6 hk fx fy z]
  cases q1:L4 x y with
  |error e=>
   show (oa (af y.c 0) fun _=>_)=_
   rw [show af y.c 0=some (kd0 y) from (xD (n:=1) (i:=0) (E5 fy z rfl) (by omega)).1,ql]
   rfl
  |ok u=>
   show (oa (af y.c 0) fun bf=>_)=_
   rw [show af y.c 0=some (kd0 y) from (xD (n:=1) (i:=0) (E5 fy z rfl) (by omega)).1,ql]
   exact xM.symm
 rw [if_neg z,beq_false_of_ne z,n3]
 by_cases A:x.k=y.k
 case neg=>rw [beq_false_of_ne A,if_pos (.inl A)];rfl
 rw [show (x.k==y.k)=true from by simp [A],va,n3]
 by_cases hn:x.n=y.n
 case neg=>rw [beq_false_of_ne hn,if_pos (.inr (.inl hn))];rfl
 rw [show (x.n==y.n)=true from by simp [hn],va,n3,Jq]
 by_cases M:x.name=y.name
 case neg=>rw [decide_eq_false M,if_pos (.inr (.inr (.inl M)))];rfl
 rw [decide_eq_true M,va,n3,iv hk.fu (by have:=fx.ok.no.2.2.2.2.1;omega)]
 by_cases hr:x.r=y.r
 case neg=>rw [decide_eq_false hr,if_pos (.inr (.inr (.inr hr)))];rfl
 rw [decide_eq_true hr,va,n3,if_neg (fun q=>q.elim (fun q=>q A) fun q=>q.elim (fun q=>q hn) fun q=>q.elim (fun q=>q M) fun q=>q hr)]
 have a7:x.c.length=y.c.length:=by
  have h3:=fx.nk;have h4:=fy.nk
  rw [A] at h3;omega
 by_cases E:x.k=13
 ·have a8:y.k=13:=by rw [<-A];exact E
  rw [if_pos E,E,show ((13:Int)==13)=true from rfl,ae,show af x.c 0=some (kd0 x) from (xD (n:=3) (i:=0) (E5 fx E rfl) (by omega)).1,ql,show af y.c 0=some (kd0 y) from (xD (n:=3) (i:=0) (E5 fy a8 rfl) (by omega)).1,ql]
  exact xM.symm
 rw [if_neg E,beq_false_of_ne E,n3,fP]
 obtain ⟨o1,o2,o3,o4,o5,o6,o7⟩:=fx.ok.no
 obtain ⟨p1,p2,p3,p4,p5,p6,p7⟩:=fy.ok.no
 have hs: ∀g:Int,(k7 (Bx k) k x.k x.s y.s defs g fun O=>px.elim O (fun O=>I (.ok (O.1,O.2))) fun ax=>I (.bD (ax.1,ax.2)))=xu (Bx k) defs I (G1 x.k x.s y.s) g fun J=>I (.ok (true,J)):=fun g=>by
  rw [aOA]
  exact aO6 (n:=xV x.k) hk I o7 p7 (aNw fx hk rfl) (aNw fy hk (by rw [A])) g
 have:=aOR (x:=(x,(f1:Int))) (y:=(y,(f2:Int))) hk (hd:=Bx k) (defs:=defs) I o6 a7 (f2:Int) (fun g=>hs g) x.c [] y.c [] k (f2:Int) rfl rfl rfl (by omega)
 exact this
theorem aOQ {defs:List Df} (hd:K7 defs): ∀n k,4334970400+n<=k-> ∀f a b,f<=100000->JT a->JT b->cv defs n f a b≠ .error 0-> ∃R,gn (cv defs n f a b) R/\ ∀I:FC->OS S,Bx k a b defs (f:Int) I=I R:=by
 intro n
 induction n with
 |zero=>intro k _ f a b _ _ _ h;exact absurd aNa h
 |succ n A=>
  intro k L f a b hf q z h
  obtain ⟨k,rfl⟩: ∃j,k=j+1:=⟨k-1,by omega⟩
  have hk:F3 k:=by unfold F3;omega
  have A:=A k (by omega)
  have eq:cv defs (n+1) f a b=if f=0 then .error 220 else KK (hE defs (f-1) a) fun x f1=>KK (hE defs f1 b) fun y f2=>cl defs n f2 (HW x y):=iw
  rw [eq] at h ⊢
  by_cases B:f=0
  ·subst B
   refine ⟨.bD (220,0), ?_,fun I=> ?_⟩
   ·rw [if_pos rfl];exact ⟨0,rfl⟩
   ·simp only [Bx,kx]
    rfl
  rw [if_neg B] at h ⊢
  have F:ot .i64 ((f:Int)-1)=((f-1:Nat):Int):=by rw [uY (by omega) (by omega)];omega
  have J:((f:Int)==0)=false:=beq_false_of_ne (by omega)
  cases h1:hE defs (f-1) a with
  |error e=>
   refine ⟨.bD (e,0),⟨0,rfl⟩,fun I=> ?_⟩
   simp only [Bx,kx,ag hk.fu,ar,F]
   rw [J,n3,p0 (by unfold nH;omega) hd q (by omega),h1]
   rfl
  |ok p=>
   obtain ⟨x,f1⟩:=p
   rw [h1,x9] at h
   rw [x9]
   have O:=R0 h1
   cases h2:hE defs f1 b with
   |error e=>
    refine ⟨.bD (e,0),⟨0,rfl⟩,fun I=> ?_⟩
    simp only [Bx,kx,ag hk.fu,ar,F]
    rw [J,n3,p0 (by unfold nH;omega) hd q (by omega),h1]
    dsimp only [px.elim]
    rw [p0 (by unfold nH;omega) hd z (by omega),h2]
   |ok p=>
    obtain ⟨y,f2⟩:=p
    rw [h2,x9] at h
    rw [x9]
    have T:=R0 h2
    have fx:=(x0 hd q.1 h1).2.1
    have fy:=(x0 hd z.1 h2).2.1
    obtain ⟨R,M,q2⟩:=aOq (hd:=Bx (S:=S) k) (n:=n) (f0:=100000) (fun f a b hf q z E=>A f a b hf q z E) (HW x y) f2 (by omega) (aNY fx fy) h
    exact ⟨R,M,fun I=>(aPb (by omega) hd B hf q z h1 h2 I).trans (q2 I)⟩
noncomputable def qm (defs:List Df) (a b:Tm) (f:Int):Bool×Int×Int:=
 if bw a≠0 then (false,0,bw a) else if bw b≠0 then (false,0,bw b) else if f<0\/100000<f then (false,0,2) else
 match cv defs 200000 f.toNat a b with
 | .ok p=>(p.1,(p.2:Int),0)
 | .error e=>(false,0,e)
theorem aO5 (B:F5 k) {defs:List Df} (hd:K7 defs) {a b:Tm} (z:In k a) (A:In k b) {f:Int} (I:Bool×Int×Int->OS S):SL k defs a b f I=I (qm defs a b f):=by
 have F:4500000000<=k:=B
 have hk:=B.f3
 simp only [SL,aNn]
 obtain ⟨m,J⟩: ∃m,k=m+3:=⟨k-3,by omega⟩
 unfold qm
 have L: ∀g:bw a=0/\bw b=0,ME k I a b defs f (m+1) 2=I (if f<0\/100000<f then (false,0,2) else match cv defs 200000 f.toNat a b with
   | .ok p=>(p.1,(p.2:Int),0)
   | .error e=>(false,0,e)):=fun g=>by
  simp only [ME,iF]
  rw [show decide ((2:Int)<([(ac a),(ac b)].length:Int))=false from rfl,n3]
  by_cases h1:f<0
  ·rw [decide_eq_true h1,ae,if_pos (.inl h1)]
  rw [decide_eq_false h1,n3]
  by_cases h2:100000<f
  ·rw [decide_eq_true (show f>100000 from h2),ae,if_pos (.inr h2)]
  rw [decide_eq_false (show ¬f>100000 from h2),n3,if_neg (by omega)]
  simp only [ar]
  have M:JT a:=Fm.jt ⟨z.1,g.1⟩
  have O:JT b:=Fm.jt ⟨A.1,g.2⟩
  obtain ⟨R,x,q2⟩:=aOQ (S:=S) hd 200000 k (by omega) f.toNat a b (by omega) M O (aNx hd _ _ _ _ (by omega) z.1 A.1 (by omega))
  rw [show ((f.toNat:Nat):Int)=f by omega] at q2
  rw [q2]
  cases E:cv defs 200000 f.toNat a b with
  |ok p=>rw [E] at x;rw [show R= .ok (p.1,(p.2:Int)) from x];rfl
  |error e=>rw [E] at x;obtain ⟨c,x⟩:=x;rw [x];rfl
 have T:bw a=0->ME k I a b defs f (m+2) 1=I (if bw b≠0 then (false,0,bw b) else if f<0\/100000<f then (false,0,2) else match cv defs 200000 f.toNat a b with
   | .ok p=>(p.1,(p.2:Int),0)
   | .error e=>(false,0,e)):=fun g=>by
  rw [ME]
  simp only [iF,ag hk.fu]
  rw [show decide ((1:Int)<([(ac a),(ac b)].length:Int))=true from rfl,ae,show af [(ac a),(ac b)] 1=some (ac b) from rfl,ql,ql,ar,ar,Ah A.1 A.2.1 A.dep]
  by_cases q:bw b=0
  ·rw [q,show (!((0:Int)==0))=false from rfl,n3,if_neg (by simp)]
   exact L ⟨g,q⟩
  ·rw [dj q,sV,ae,if_pos q]
 have W:ME k I a b defs f (m+3) 0=I (if bw a≠0 then (false,0,bw a) else if bw b≠0 then (false,0,bw b) else if f<0\/100000<f then (false,0,2) else match cv defs 200000 f.toNat a b with
   | .ok p=>(p.1,(p.2:Int),0)
   | .error e=>(false,0,e)):=by
  rw [ME]
  simp only [iF,ag hk.fu]
  rw [show decide ((0:Int)<([(ac a),(ac b)].length:Int))=true from rfl,ae,show af [(ac a),(ac b)] 0=some (ac a) from rfl,ql,ql,ar,ar,Ah z.1 z.2.1 z.dep]
  by_cases q:bw a=0
  ·rw [q,show (!((0:Int)==0))=false from rfl,n3,if_neg (by simp)]
   exact T q
  ·rw [dj q,sV,ae,if_pos q]
 have: ∀n,n=m+3->ME k I a b defs f n 0=ME k I a b defs f (m+3) 0:=fun n h=>by rw [h]
 exact (this k J).trans W
theorem aPg {S:Type} (q:Nat) (I:Bool->OS S):o2 (q+400) I=I true:=by kernel_rfl
theorem aPa (hk:F3 k) (I:Bool->OS S):o2 k I=I true:=by
 have x:4294968296<=k:=hk
 obtain ⟨q,rfl⟩: ∃q,k=q+400:=⟨k-400,by omega⟩
 exact aPg q I
theorem aN5 (hk:F3 k) {t:Tm} (q:In k t) (I:Bool->OS S): ∃c,n2 k t I=I c:=by
 simp only [n2,ar]
 obtain ⟨w,h1,h2,x,z⟩:=aDd t q.1 60 (by unfold Mo;omega) (fun r1=>I (decide (r1>60))) q.2.1
 exact ⟨_,h1⟩
def Sc (n:Int):Int:=if n<0\/100000<n then n else n.tmod 60
theorem aO_ (n:Int) (I:Int->OS S):Bi k n I=I (Sc n):=by
 simp only [Bi]
 unfold Sc
 by_cases h1:n<0
 ·rw [decide_eq_true h1,ae,if_pos (.inl h1)]
 rw [decide_eq_false h1,n3]
 by_cases h2:100000<n
 ·rw [decide_eq_true (show n>100000 from h2),ae,if_pos (.inr h2)]
 ·rw [decide_eq_false (show ¬n>100000 from h2),n3,if_neg (by omega)]
theorem aOE {n:Int} (h: ¬(n<0\/100000<n)):0<=Sc n/\Sc n<60:=by
 unfold Sc
 rw [if_neg h]
 have:n.tmod 60=n%60:=Int.tmod_eq_emod_of_nonneg (by omega)
 rw [this];omega
theorem aOG {defs:List Df}: ∀j f t,xZ 220 j (hE defs f t) (hE defs (f+j) t):=fun j f t=>aKK j f t
theorem aO4 (F:F5 k) {defs:List Df} (hd:Is k defs) {a b:Tm} (A:In k a) (B:In k b) {fuel more:Int} (h1:aG fuel) (h2:aG more) (I:Bool->OS S):hr k defs a b fuel more I=I true:=by
 have hk:=F.f3
 simp only [hr,ag hk.fu,ar,aPa hk,va,n3]
 generalize x:(fun E:Bool=>ab E (I true) _)=R
 obtain ⟨c,c1⟩:=aN5 hk A R
 refine c1.trans ?_
 rw [<-x]
 cases c with
 |true=>rfl
 |false=>
 dsimp only
 rw [n3]
 generalize x:(fun E:Bool=>ab E (I true) _)=R
 obtain ⟨c,c1⟩:=aN5 hk B R
 refine c1.trans ?_
 rw [<-x]
 cases c with
 |true=>rfl
 |false=>
 dsimp only
 rw [n3]
 generalize x:(fun L:Bool=>ab L (I true) _)=R
 obtain ⟨c,c1,c2⟩:=aIr hk hd R
 refine c1.trans ?_
 rw [<-x]
 cases c with
 |true=>rfl
 |false=>
 dsimp only
 obtain ⟨_,hj,_⟩:=c2 rfl
 rw [n3]
 by_cases f0:fuel<0
 ·rw [decide_eq_true f0];rfl
 by_cases f1:fuel>100000
 ·rw [decide_eq_false f0,n3,decide_eq_true f1];rfl
 rw [decide_eq_false f0,n3,decide_eq_false f1,n3]
 obtain ⟨m0,m1⟩:=aG6 more
 obtain ⟨n0,M⟩:=aOE (n:=fuel) (by omega)
 simp only [aH6 hk hd.1,aO_,aO5 F hj A B]
 rw [uY (n:=Sc fuel+_) (by omega) (by omega)]
 generalize ot .i64 (Int.tmod (ot .u64 more) 10)=j at m0 m1 ⊢
 generalize Sc fuel=n at n0 M ⊢
 have same: ∀e:Int,e≠0->ab (e==220) (I true) (ab (e==e) (ab (false==false) (ab (!(e==0)) (I true) (I ((0:Int)==ot .i64 (0+j)))) (I false)) (I false))=I true:=fun e he=>by
  rw [beq_self_eq_true,ae,beq_self_eq_true,ae,dj he,sV,ae]
  cases (e==220)<;>rfl
 unfold qm
 by_cases g1:bw a=0
 case neg=>rw [if_pos g1,if_pos g1];exact same _ g1
 by_cases g2:bw b=0
 case neg=>rw [if_neg (by simp [g1]),if_pos g2,if_neg (by simp [g1]),if_pos g2];exact same _ g2
 rw [if_neg (by simp [g1]),if_neg (by simp [g2]),if_neg (by omega),if_neg (by simp [g1]),if_neg (by simp [g2]),if_neg (by omega),show (n+j).toNat=n.toNat+j.toNat by omega]
 obtain ⟨O,q2⟩:=(aOs (qs:=HW) (eF:=220) (j:=j.toNat) (aOG (defs:=defs) j.toNat) 200000).1 n.toNat a b
 cases z:cv defs 200000 n.toNat a b with
 |error e=>
  have he:e≠0:=fun q=>aNx hj 200000 n.toNat a b (by omega) A.1 B.1 (by omega) (by rw [z,q])
  by_cases J:e=220
  ·subst J;rfl
  ·rw [show cv defs 200000 (n.toNat+j.toNat) a b=_ from q2 e z he J];exact same e he
 |ok p=>
  have hle:=(aNb 200000).1 _ _ _ _ _ z
  rw [show cv defs 200000 (n.toNat+j.toNat) a b=_ from O p.1 p.2 z]
  dsimp only
  rw [show ((0:Int)==220)=false from rfl,n3,beq_self_eq_true,ae,beq_self_eq_true,ae,va,n3,uY (by omega) (by omega),show ((p.2+j.toNat:Nat):Int)=(p.2:Int)+j by omega,beq_self_eq_true]
end
section
open Go PI Go.ChangeShapes Go.WideShapes Go.ChangeAt Go.RowKit
section
variable {H:Type} {enc:TypeId×Value->H} {w:World} {base:Nat} {spare:Nat->Bool} {held:Bool} {o:Obj} {N:aN} {g:Gh UU}
def QDf (x:Df) (d:DataW H):Prop:=QT x.body d
theorem aG9 (B: ∀b o,¬N b o) (n:Nat) (cs:List Value) (d:DataW H) (pl:List MemPlace) (h:jG enc w base spare held n 50 cs=some (d,pl)): ∃x:EL ET.G,oM o w N g ET.G x cs/\QDf (show Df from x) d:=by
 have E:Tryz.prog.cellsOf 9=1:=by kernel_rfl
 have cT:Tryz.prog.cellsOf 27=6:=by kernel_rfl
 cases n with
 |zero=>cases h
 |succ n=>
  obtain ⟨xs,m,M,q,hl,hlen,hf⟩:=DataW.trod_struct Tryz.underlying50 h
  obtain rfl:n=m:=by omega
  injection q with q _
  subst q
  have z:cs.length=7:=hl.trans (by kernel_rfl)
  match cs,z,xs,hlen with
  |[a0,a1,a2,a3,a4,a5,O],_,[T,y1],_=>
  have A:=hf 0 _ rfl
  have h1:=hf 1 _ rfl
  simp [E,cT] at A h1
  obtain ⟨s,F,k0,_⟩:=DataW.trod_string Tryz.underlying9 A
  obtain rfl:a0= .string s:=by simpa using F
  obtain ⟨t,I,J⟩:=(ahu (o:=o) (g:=g) B n).1 _ _ _ h1
  refine ⟨(⟨s,show Tm from t⟩:Df),fun k p hp=> ?_, ?_⟩
  ·cases k with
   |zero=>cases hp;exact ⟨_,rfl,.str _⟩
   |succ k=>
    obtain ⟨v,hv,L⟩:=I k p (by
     revert hp
     generalize (show Tm from t)=u
     intro hp
     cases u
     exact hp)
    exact ⟨v,hv,L⟩
  ·obtain ⟨W,q2⟩:=J
   unfold QDf QT
   simp only [Ft,List.map_nil,Rows.uptoBulk,Rows.uptoBulkAll]
   exact ⟨by show au (show Tm from t)<=_;omega,fun hb=>q2 (by omega)⟩
theorem aEV (B: ∀b o,¬N b o) {W:World} {base:Nat} {v:Value} {d:DataW H} {ps:List MemPlace} (hv:Value.okWide Tryz.prog W .any base 22 v) (h:DataW.Trod enc Tryz.prog w 0 spare held 22 v d ps):
  ∃l:List Df,pw (LL o) w N g v (su l .none)/\l.length+1<=Rows.uptoBulk d/\ ∀x∈l,au x.body<=Rows.uptoBulk d/\(Rows.uptoBulk d<1073741824->pr x.body):=by
 obtain ⟨a,len,cap,rfl⟩:=okWide_slice Tryz.underlying22 hv
 obtain ⟨n,hn⟩:=h
 cases n with
 |zero=>cases hn
 |succ n=>
  obtain ⟨c,l,q,hc,I,hl,J,hb⟩:=FW (e:=ET.G) (Q:=fun x d=>QDf (show Df from x) d) B Tryz.underlying22 (by kernel_rfl) (fun cs d pl h=>aG9 B n cs d pl h) hn
  obtain rfl:c= .slice a len cap:=by simpa [Value.cells] using hc.symm
  have E:=Dr (l:=q)
  have L: @EO Df l=q.length:=hl
  refine ⟨l,I,by omega,fun x M=> ?_⟩
  obtain ⟨i,F⟩:=List.getElem?_of_mem M
  have z:i<q.length:=by rw [<-hl];exact (De.1 F).1
  have A:QT (Df.body x) q[i]:=J i x _ F (zj z)
  obtain ⟨T,q2⟩:=A
  have hle: ∀ (l:List (DataW H)) (i:Nat) (h:i<l.length),Rows.uptoBulk l[i]<=Rows.uptoBulkAll l:=by
   intro l
   induction l with
   |nil=>intro i h;cases h
   |cons y l O=>
    intro i h
    rw [Rows.uptoBulkAll]
    cases i with
    |zero=>simp
    |succ i=>have:=O i (by simpa using h);simp;omega
  have:=hle q i z
  exact ⟨by omega,fun h=>q2 (by omega)⟩
end
set_option maxHeartbeats 4000000
theorem adj {k:Nat} (hk:4296016872<=k) {H:Type} {t:Tm} {d:DataW H} (h:QT t d) (hb:Rows.uptoBulk d<=1048576):In k t:=by
 have h1:=h.1
 have h2:=zG t
 exact ⟨h.2 (by omega),by unfold Fd;omega,by omega⟩
theorem aFb {k:Nat} (hk:4296016872<=k) {H:Type} {l:List Df} {d:DataW H} (h1:l.length+1<=Rows.uptoBulk d) (h: ∀x∈l,au x.body<=Rows.uptoBulk d/\(Rows.uptoBulk d<1073741824->pr x.body)) (hb:Rows.uptoBulk d<=1048576):Is k l:=
 ⟨by omega,fun x q=>by
  obtain ⟨z,q2⟩:=h x q
  have h2:=zG x.body
  exact ⟨q2 (by omega),by unfold Fd;omega,by omega⟩⟩
theorem nO {H:Type} {enc:TypeId×Value->H} {w:World} {spare:Nat->Bool} {held:Bool} {o:Obj} {N:aN} {g:Gh UU} (E: ∀b o,¬N b o) {W:World} {base:Nat} {v:Value} {d:DataW H} {ps:List MemPlace} (hv:Value.okWide Tryz.prog W .any base 3 v) (h:DataW.Trod enc Tryz.prog w 0 spare held 3 v d ps):
  ∃n:Int,pw (LL o) w N g v (.int .i64 n)/\aG n:=by
 obtain ⟨n,rfl⟩:=okWide_int Tryz.underlying3 hv
 obtain ⟨q,x⟩:=h
 obtain ⟨z,A,B⟩:=NT x
 obtain rfl:n=z:=by simpa [Value.cells] using A
 exact ⟨n,.int _ _,B⟩
theorem p9 (q:Nat) {t0:List Df} {a1 b1:Int} {c1:ByteArray} {d1:List Cl} {x:List Tm} {f1:List (Br Tm)} {a2 z:Int} {c2:ByteArray} {d2:List Cl} {A:List Tm} {f2:List (Br Tm)} {t3:Int} {t4:Int}:J2 (S:=Out UU) q [su t0 .none,.agg (Dg ET.T (Tm.mk a1 b1 c1 d1 x f1)),.agg (Dg ET.T (Tm.mk a2 z c2 d2 A f2)),.int .i64 t3,.int .i64 t4] [] some=aa q (hr q t0 (Tm.mk a1 b1 c1 d1 x f1) (Tm.mk a2 z c2 d2 A f2) t3 t4) fun r=>some (Out.ret (U:=UU) (.bool r) []):=by kernel_rfl
theorem apP {j:Nat} (q:F5 (j+1)) {t0:List Df} (x:Is (j+1) t0) {t1:Tm} (h1:In (j+1) t1) {t2:Tm} (h2:In (j+1) t2) {t3:Int} (z:aG t3) {t4:Int} (A:aG t4):J2 (S:=Out UU) (j+1) [su t0 .none,.agg (Dg ET.T t1),.agg (Dg ET.T t2),.int .i64 t3,.int .i64 t4] [] some=some (.ret (.bool true) []):=by
 obtain ⟨a1,B,c1,d1,E,f1⟩:=t1
 obtain ⟨a2,F,c2,d2,I,f2⟩:=t2
 exact (p9 (j+1)).trans ((ZV (by omega) _ _).trans (aO4 q x h1 h2 z A fun r=>some (Out.ret (U:=UU) (.bool r) [])))
theorem agd {k:Nat} (hk:5000000000<=k) {o:Obj} (ho:ai o) {t0:List Df} (z:Is k t0) {t1:Tm} (h1:In k t1) {t2:Tm} (h2:In k t2) {t3:Int} (A:aG t3) {t4:Int} (B:aG t4):
  ci (LL o) 3 [su t0 .none,.agg (Dg ET.T t1),.agg (Dg ET.T t2),.int .i64 t3,.int .i64 t4] [] (.ret (.bool true) []):=by
 have E:F5 k:=by unfold F5;omega
 obtain ⟨j,rfl⟩: ∃j,k=j+1:=⟨k-1,by omega⟩
 obtain ⟨out,q,x⟩:=aPe (S:=Out UU) o ho (j+1) [su t0 .none,.agg (Dg ET.T t1),.agg (Dg ET.T t2),.int .i64 t3,.int .i64 t4] [] some (.ret (.bool true) []) (apP E z h1 h2 A B)
 injection x with x
 exact x▸q
theorem agc (H:Type) (enc:TypeId×Value->H) (W:World) (base:Nat) (args:Array Value) (ds gs:List (DataW H)) (before:List MemPlace)
  (x: ∀ (j:Nat) t v,Tryz.f3.params[j]? =some t->args[j]? =some v->Value.okWide Tryz.prog W .any base t v)
  (J:DataW.Whole enc Tryz.prog Tryz.f3.params.toList Rows.convMoreSpec.vars false W args.toList ds gs before) (M:laidMetH Tryz.prog Rows.convMoreRow.laid W) (hb:Rows.uptoBulkAll (ds++gs)<=1048576):
  Calls Tryz.prog 3 args W fun e W'=> ∃v,e= .returned v/\Rows.convMoreSpec.post enc Tryz.prog Tryz.f3 false true false false W args v W':=by
 have A:=J
 obtain ⟨p,q,B,hV,rfl,O,T⟩:=J
 have hA:DataW.TrodAll enc Tryz.prog W 0 (fun _=>true) true Tryz.f3.params.toList args.toList ds p:=B
 rw [Tryz.params3] at hA x
 obtain ⟨v0,Y,d0,ad,p0,q0,E,rfl,rfl,h0,r0⟩:=trodAll_cons hA
 obtain ⟨v1,ao,d1,ax,p1,q1,rfl,rfl,rfl,h1,r1⟩:=trodAll_cons r0
 obtain ⟨v2,az,d2,a6,p2,q2,rfl,rfl,rfl,h2,r2⟩:=trodAll_cons r1
 obtain ⟨v3,a7,d3,a8,p3,q3,rfl,rfl,rfl,h3,r3⟩:=trodAll_cons r2
 obtain ⟨v4,bc,d4,bf,p4,q4,rfl,rfl,rfl,h4,r4⟩:=trodAll_cons r3
 obtain ⟨rfl,rfl,rfl⟩:=trodAll_nil r4
 obtain rfl:args= #[v0,v1,v2,v3,v4]:=by cases args;simp_all
 obtain ⟨rfl,rfl⟩:=trodVars_none hV
 obtain ⟨o,ho,hh⟩:=akL M
 simp only [xS,Rows.uptoBulkAll,Nat.add_zero] at hb
 obtain ⟨t0,e0,m0⟩:=aEV (o:=o) (g:=gB UU 0 fun _=>0) uv (x 0 22 v0 rfl rfl) h0
 obtain ⟨t1,e1,k1⟩:=ZG (o:=o) (g:=gB UU 0 fun _=>0) uv h1
 obtain ⟨t2,e2,k2⟩:=ZG (o:=o) (g:=gB UU 0 fun _=>0) uv h2
 obtain ⟨t3,e3,k3⟩:=nO (o:=o) (g:=gB UU 0 fun _=>0) uv (x 3 3 v3 rfl rfl) h3
 obtain ⟨t4,e4,k4⟩:=nO (o:=o) (g:=gB UU 0 fun _=>0) uv (x 4 3 v4 rfl rfl) h4
 have hk:(5000000000:Nat)<=5000000000:=xt _
 generalize bh:(5000000000:Nat)=k at hk
 have F:=agd (k:=k) (by omega) ho (aFb (by omega) m0.1 m0.2 (by omega)) (adj (by omega) k1 (by omega)) (adj (by omega) k2 (by omega)) k3 k4
 refine (ZW F (adb hh rfl rfl fun j p hj=> ?_)).mono ?_
 ·match j,hj with
  |0,hj=>cases hj;exact e0
  |1,hj=>cases hj;exact e1
  |2,hj=>cases hj;exact e2
  |3,hj=>cases hj;exact e3
  |4,hj=>cases hj;exact e4
  |j+5,hj=>simp at hj
 ·rintro e W' ⟨rfl,z⟩
  refine ⟨_,rfl,ahF rfl rfl (fun t L=> ?_) rfl A z⟩
  rw [Tryz.params3] at L
  have I:t=22\/t=27\/t=27\/t=3\/t=3:=by simpa using L
  rcases I with rfl|rfl|rfl|rfl|rfl<;>exact of_decide_eq_true (by kernel_rfl)
noncomputable def Fb (os:Os):World:=
 {World.holding Tryz.prog os ⟨#[],#[],[]⟩ with heap:=(World.holding Tryz.prog os ⟨#[],#[],[]⟩).heap.modify 0 fun
   | .cells _ t frozen=> .cells (Lib.deBruijn32tab.map fun n:Nat=>Value.int .u8 n).toArray t frozen
   |o=>o}
def alC:Value:= .agg #[.int .i64 0,.int .i64 0,.string pf,.slice none 0 0,.slice none 0 0,.slice none 0 0]
def zp:Array Value:= #[.slice none 0 0,alC,alC,.int .i64 0,.int .i64 0]
def alA {H:Type}:DataW H:= .agg [.lit (.int .i64 0),.lit (.int .i64 0),.lit (.string []),.nil,.nil,.nil]
theorem af_ (os:Os):laidMet Tryz.prog Rows.convMoreRow.laid ((Fb os).forCall (fun _ _=>0) ⟨#[],zp,[]⟩).memory:=
 laidMet_of_run' 8 (by kernel_rfl) (by kernel_rfl)
theorem aim (os:Os) {H:Type} (enc:TypeId×Value->H): ∃places,DataW.whole enc Tryz.prog ((Fb os).forCall (fun _ _=>0) ⟨#[],zp,[]⟩).memory Tryz.f3.params.toList Rows.convMoreSpec.vars false zp.toList 8=some ([.nil,alA,alA,.lit (.int .i64 0),.lit (.int .i64 0)],[],places):=
 ⟨[],by kernel_rfl⟩
theorem agw (os:Os) (started:os.Started) (H:Type) (enc:TypeId×Value->H) (F:Stop.Interp):
  ReturnsInHanded {} Tryz.checked os 3 .any ((Rows.OpenSpec.upto Rows.convMoreSpec).preRow enc Tryz.prog Tryz.f3 Rows.convMoreUptoRow.domain false Rows.convMoreUptoRow.laid) (((Rows.OpenSpec.upto Rows.convMoreSpec).at F).post enc Tryz.prog Tryz.f3 false true false false):=by
 obtain ⟨places,z⟩:=aim os enc
 refine returnsInHanded_of_row (C:=Tryz.checked) (s:=Rows.OpenSpec.upto Rows.convMoreSpec) own started (by kernel_rfl) Tryz.func3
  (witness_row_at (enc:=enc) (C:=Tryz.checked) false (Fb os) zp rfl (by kernel_rfl) (by kernel_rfl) (by kernel_rfl)
   (OpenSpec.preRow_of_cond 8 z (by kernel_rfl) (fun k hk=>by cases hk;kernel_rfl) (by kernel_rfl) (af_ os))) ?_
 intro W base args A gs before x B _ q _ E _ _
 exact agc H enc W base args A gs before x B E (of_decide_eq_true (q _ rfl))
theorem aj3:Rows.ConvMoreUptoSaid:=
 OpenClaim.holds_of_cond 3 Tryz.f3 rfl rfl rfl rfl rfl rfl rfl ⟨rfl,rfl,rfl,rfl,rfl⟩ rfl rfl rfl rfl rfl (by as_aux_lemma=>kernel_rfl) Tryz.func3 adt
  (of_decide_eq_true (by as_aux_lemma=>kernel_rfl)) (by unfold Func.isWrapper;first|(rw [if_pos (by decide+kernel)];kernel_rfl)|(rw [if_neg (by decide+kernel)];exact ⟨rfl,rfl⟩))
  (fun os started H enc _ F=>by rw [OpenClaim.pre_eq_preRow];exact agw os started H enc F)
theorem plain (f:FuncId) (fn:Func) (hf:Tryz.pinned.checked.prog.funcNamed "hypercube/hypercubelaw24.ConvMore" =some f) (q:Tryz.pinned.checked.prog.funcs[f]? =some fn):
  true=Tryz.pinned.checked.prog.looks []/\ ∀ (j:Nat) t,fn.params[j]? =some t->Tryz.pinned.checked.prog.wantsStandIn t=false:=by
 obtain rfl:f=3:=Option.some.inj ((show Tryz.prog.funcNamed "hypercube/hypercubelaw24.ConvMore" =some 3 by kernel_rfl).symm.trans hf)|>.symm
 obtain rfl:fn=Tryz.f3:=(Option.some.inj (Tryz.func3.symm.trans q)).symm
 refine ⟨by kernel_rfl,fun j t z=> ?_⟩
 rw [Tryz.params3] at z
 have x:t=22\/t=27\/t=27\/t=3\/t=3:=by simpa using Array.mem_of_getElem? z
 rcases x with rfl|rfl|rfl|rfl|rfl
 ·exact (show Tryz.prog.wantsStandIn 22=false by kernel_rfl)
 ·exact (show Tryz.prog.wantsStandIn 27=false by kernel_rfl)
 ·exact (show Tryz.prog.wantsStandIn 27=false by kernel_rfl)
 ·exact (show Tryz.prog.wantsStandIn 3=false by kernel_rfl)
 ·exact (show Tryz.prog.wantsStandIn 3=false by kernel_rfl)
theorem convMore_holds:Rows.ConvMoreUptoCardSaid:=
 Claim7.holds_tied_plain_at .later [] _ _ _ _ aj3 (fun _ h=>by cases h) (by as_aux_lemma=>kernel_rfl) (fun _ h=>by cases h) convMoreUpto_row_tie rfl ⟨rfl,rfl⟩ (by as_aux_lemma=>kernel_rfl) rfl plain (by as_aux_lemma=>kernel_rfl)
#print axioms convMore_holds
end
end Go.Proofs.YtfffkmcpnggkdaaGreatDoor
