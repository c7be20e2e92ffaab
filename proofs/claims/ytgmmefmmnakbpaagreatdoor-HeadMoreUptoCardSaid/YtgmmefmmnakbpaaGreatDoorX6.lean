/- hypercubelaw22.HeadMore returns true for all definitions, every term and any fuel: with more fuel the same head is told, and as much more is left; the card with an upper bound of the input's bulk. -/
import Derived.Test.YtgmmefmmnakbpaaGreatDoorX5
import Derived.KernelRfl
open Bool renaming and_eq_true→anZ,not_false→aqD,not_true→aq6
open ByteArray renaming empty→alH
open Eq renaming trans→alQ
open Go.IntKind renaming wrap→su
open List renaming all_eq_true→ars,append_nil→arE,getElem?_eq_getElem→arN,getElem?_eq_some_iff→asn,length_cons→aq5,length_eq_zero_iff→atc,mem_append→arH,mem_cons→arR,mem_map→art,nil_append→arU
open Nat renaming le_refl→aru,le_trans→arA,mul_le_mul_right→asW
open Option renaming bind→sf,bind_some→an4
set_option linter.unusedVariables false
set_option linter.unusedSimpArgs false
namespace Go.Proofs.YtgmmefmmnakbpaaGreatDoor
open Go PI
set_option maxRecDepth 20000
section
variable {kd:Int}
theorem aoD (t:Tm): ∀ {V D:Int},aqp true V D t=true->aqp false V D t=true:=by
 induction t using gq with
 |h kd n nm r ks sys ih1 ih2=>
  intro V D h
  have hk: ∀ {l:LT} {i:Nat},(∀x∈l,∀ {V D:Int},aqp true V D x=true->aqp false V D x=true)->bO true V D kd i l=true->bO false V D kd i l=true:=by
   intro l
   induction l<;>grind [bO]
  rw [aqp,anZ,anZ,anZ] at h ⊢
  refine ⟨rfl,h.2.1,hk ih1 h.2.2.1, ?_⟩
  have:=h.2.2.2
  rw [wH,ars] at this ⊢
  intro b hb
  have:=this b hb
  rw [ars] at this ⊢
  exact fun x hx=>ih2 b hb x hx (this x hx)
end
abbrev Wk0 (V D:Int) (t:Tm):Prop:=aqp false V D t=true
theorem aJj {V D:Int} {r:LC} {t t':Tm} (hf:Fm t) (hD:0<=D) (hr:RF r) (hl:dg r D=true) (hs:Wk0 V (D+1) t) (h:ame 0 r t= .ok t'):Wk0 V D t':=by
 unfold ame at h
 obtain ⟨s,e1,h⟩:=i8 h
 obtain ⟨h0,rfl⟩:=rR e1
 refine aoV (c:=D) (kQ h0) ?_ t (Int.le_refl 0) hD (by omega) hf.ok hf.rows hs h
 exact aot (n:=0) hr h0 (anY ((an1 hr).1 hl) fun j hj=>by
  have:up1 0 1 j=j+1:=by unfold up1;rw [if_neg (by omega)]
  rw [this];omega)
section
variable {n V D kd:Int} {u:Tm}
end
variable {S:Type} {k:Nat}
theorem aIX {r:LC} {t y:Tm} (ht:Fm t) (hr:RF r) (hl:dg r 24=true) (h:ame 0 r t= .ok y):Fm y:=by
 obtain ⟨q1,q2,q3⟩:=akM ht h
 have ha:=(eU ht.2).2.2
 have hs:Wk0 (-1) (24+1) t:=by
  show aqp false (-1) (24+1) t=true
  rw [at8 t (d:=24+1) (d':=24) (by decide) (by decide)];exact ha
 have hw:=aJj ht (by decide) hr hl hs h
 refine ⟨q1, ?_⟩
 unfold bw
 rw [if_neg (by omega),if_neg (by omega),if_pos hw]
theorem aBA {D:Int} (hD:0<=D):dg [⟨0,0⟩] D=true:=aov (d:=0) Qz (by decide) hD
theorem aBC {D:Int} (hD:0<=D):dg [] D=true:=aov (d:=0) rA (by decide) hD
def aut (c:Cl):Bool:= !(bP (ep c.pos c.neg) 0)
def atH (f:LC):LC×Int:=bp (f.filter aut)
theorem aGS (hk:Fu k) (I:LC->OS S) {l:LC} (hl:aq l) (hlen:l.length<2147483648):
  ∀ (r p:LC) (m:Nat) (o:LC),l=p++r->r.length<m->o.length+r.length<4294967296->avN k I 0 l m (p.length:Int) o=I (o++r.filter aut):=by
 intro r
 induction r with
 |nil=>
  intro p m o h hm ho
  obtain ⟨m,rfl,hm'⟩:=amr hm
  simp only [avN,aw1,akb h,n3,List.filter_nil,arE]
 |cons x r ih=>
  intro p m o h hm ho
  obtain ⟨m,rfl,hm'⟩:=amr hm
  obtain ⟨e1,e2,e3,e4⟩:=apy h (by omega)
  have hx:aX x:=hl x (by rw [h];simp)
  simp only [aq5] at ho
  have hU:U32 (ep x.pos x.neg):=FX hx.1 hx.2
  simp only [avN,aw1,e1,ae,e2,an4,ag hk,ay3,awS hx.1 hx.2,rF hk hU,e3]
  show ab (aut x) _ _=_
  cases hf:aut x with
  |true=>
   rw [ae,J5 (by simp;omega),ih (p++[x]) m (o++[x]) e4 hm' (by rw [List.length_append,List.length_singleton];omega),List.filter_cons_of_pos hf,List.append_assoc];rfl
  |false=>
   rw [n3,ih (p++[x]) m o e4 hm' (by omega),List.filter_cons_of_neg (by rw [hf];decide)]
theorem aH7 (hk3:F3 k) {f:LC} (hf:aq f) (hr:cV f=true) (hlen:f.length<2147483648) (I:LC×Int->OS S):axu k f 0 I=I (atH f):=by
 have hfu:4294968296<=k:=hk3
 have hk:=hk3.fu
 have ho:aq (f.filter aut):=fun c hc=>hf c (List.mem_filter.1 hc).1
 have hl:=List.length_filter_le aut f
 simp only [axu,ag hk,Hb hk hf hlen,hr,aq6,n3,ai8 hk]
 rw [show (!(decide ((0:Int)<=0/\(0:Int)<24)))=false from by decide,n3]
 simp only [ay4,az7]
 rw [show ((0:Int))=((([]:LC).length:Nat):Int) from rfl]
 refine (aGS hk _ hf hlen f [] k [] rfl (by omega) (by simp;omega)).trans ?_
 rw [arU,kX hk ho (by omega)]
 rfl
theorem aAD {f:LC} (h:RX true f):(atH f).2=0/\RX true (atH f).1/\(∀Φ:Nat->Prop,b7 Φ f->b7 Φ (atH f).1):=by
 have hs: ∀c∈f.filter aut,c∈f:=fun c hc=>(List.mem_filter.1 hc).1
 have h0:(atH f).2=0:=LH (fun c hc=>h.1.rc (hs c hc)) (by have:=h.1.len;have:=List.length_filter_le aut f;omega)
 have ho:aq (f.filter aut):=fun c hc=>h.1.2 c (hs c hc)
 have:=LG ho (fun c hc=>h.2 rfl c (hs c hc)) h0
 exact ⟨h0,⟨this.1,fun _=>this.2⟩,fun Φ hl=>jy (azw hl hs)⟩
def atd (c:Int) (f:LC):LC×Int:=
 if c=0 then ((tE (an8 0 [] (aml (atH f).1 arD arD))).1.r,(tE (an8 0 [] (aml (atH f).1 arD arD))).2) else ([],c)
theorem uni_q:Q2 arD:=by
 refine ⟨⟨?_, ?_, ?_⟩, ?_⟩
 ·rw [OkT,aZ,ba];exact ⟨⟨by unfold aG;omega,by unfold aG;omega,by decide,(fun c hc=>by cases hc),by simp,by simp,by simp⟩,trivial,trivial⟩
 ·rw [au,ay,aI];omega
 ·rw [am,aH,aO];omega
 ·rw [am,aH,aO];omega
theorem aI_ {r:LC} (h:RX true r) (hk:F3 k):In k (aml r arD arD):=by
 have:=aol (G9 h) uni_q.1 uni_q.1 (by have:=uni_q.2;omega) (by have:=uni_q.2;omega)
 exact this.isIn hk (by omega)
theorem aIt (hk:F3 k) {f:LC} {c:Int} (h:RX true f) (I:LC×Int->OS S):axT k f c I=I (atd c f):=by
 simp only [axT,ag hk.fu,dG,ar,rJ]
 unfold atd
 by_cases hc:c=0
 case neg=>rw [dj hc,aqD,ae,if_neg hc]
 subst hc
 obtain ⟨a0,a1,_⟩:=aAD h
 have hlen:=(G9 h).2
 have hr:cV f=true:=RFa.right ⟨h.1,h.2 rfl⟩
 rw [show (!((0:Int)==0))=false from rfl,n3,aH7 hk h.1.2 hr (by omega)]
 rw [a0]
 simp only [if_pos]
 rw [show (!((0:Int)==0))=false from rfl,n3]
 simp only [zc,tK]
 have e:Tm.mk 14 0 alH (atH f).1 [Tm.mk 3 0 alH [] [] [],Tm.mk 3 0 alH [] [] []] []=aml (atH f).1 arD arD:=rfl
 rw [e,ap8 hk (aI_ a1 hk) (i:=0) (by decide) rA]
 cases an8 0 [] (aml (atH f).1 arD arD) with
 |error e=>
  show I (noT.r,_)=I (noT.r,e)
  by_cases he:e=0
  ·subst he;rfl
  ·rw [show (tE (.error e)).2=e from rfl,if_neg he]
 |ok y=>rfl
def ark {α β:Type} (F:Int->β->α×Int):Int->List β->List α×Int
 |c,[]=>([],c)
 |c,x::r=>((F c x).1::(ark F (F c x).2 r).1,(ark F (F c x).2 r).2)
theorem aur {α β:Type} {F:Int->β->α×Int}: ∀ {l:List β} {c:Int},(ark F c l).1.length=l.length:=by
 intro l
 induction l with
 |nil=>intro c;rfl
 |cons x l ih=>intro c;rw [ark,aq5,aq5,ih]
theorem au7 {α β:Type} {F:Int->β->α×Int} {Q:α->Prop}: ∀ {l:List β} {c:Int},(∀x∈l,∀c,Q (F c x).1)-> ∀y∈(ark F c l).1,Q y:=by
 intro l
 induction l with
 |nil=>intro c _ y hy;cases hy
 |cons x l ih=>
  intro c h y hy
  rw [ark] at hy
  rcases arR.1 hy with rfl|hy
  ·exact h x (by simp) c
  ·exact ih (fun x hx=>h x (by simp [hx])) y hy
theorem ax7 {α β:Type} {l:List β} {L:Nat->Int->Int->List α->OS S} {F:Int->β->α×Int} {I:List α×Int->OS S}
  (hend: ∀ (m:Nat) (c:Int) (acc:List α),acc.length=l.length->L (m+1) c (l.length:Int) acc=I (acc,c))
  (hstep: ∀ (m:Nat) (c:Int) (x:β) (p r:List β) (acc:List α),l=p++x::r->acc.length=p.length->L (m+1) c (p.length:Int) acc=L m (F c x).2 (((p++[x]).length:Nat):Int) (acc++[(F c x).1])):
  ∀ (r p:List β) (acc:List α) (m:Nat) (c:Int),l=p++r->r.length<m->acc.length=p.length->L m c (p.length:Int) acc=I (acc++(ark F c r).1,(ark F c r).2):=by
 intro r
 induction r with
 |nil=>
  intro p acc m c h hm ha
  obtain ⟨m,rfl,hm'⟩:=amr hm
  rw [arE] at h
  subst h
  rw [hend m c acc ha,ark,arE]
 |cons x r ih=>
  intro p acc m c h hm ha
  obtain ⟨m,rfl,hm'⟩:=amr hm
  rw [hstep m c x p r acc h ha,ih (p++[x]) _ m _ (by rw [h];simp) hm' (by simp [ha]),ark,List.append_assoc];rfl
def atD:Int->LB->LB×Int
 |c,[]=>([],c)
 |c,x::r=>if (atd c x.face).1.length=0 then atD (atd c x.face).2 r else (⟨(atd c x.face).1,x.kids⟩::(atD (atd c x.face).2 r).1,(atD (atd c x.face).2 r).2)
theorem aAE {c:Int} {f:LC} (h:RX true f):aq (atd c f).1/\(atd c f).1.length<1073741824:=by
 have hno:aq ([]:LC)/\([]:LC).length<1073741824:=⟨fun c hc=>(by cases hc),by simp⟩
 unfold atd
 split
 ·have hk:OkT (aml (atH f).1 arD arD):=(aol (G9 (aAD h).2.1) uni_q.1 uni_q.1 (by have:=uni_q.2;omega) (by have:=uni_q.2;omega)).ok
  cases hx:an8 0 [] (aml (atH f).1 arD arD) with
  |error e=>exact hno
  |ok y=>
   have:=(avn hk hx).1.ok.no
   exact ⟨this.2.2.2.1,this.2.2.2.2.1⟩
 ·exact hno
theorem aIT: ∀ {l:LB} {c:Int},(atD c l).1.length<=l.length:=by
 intro l
 induction l with
 |nil=>intro c;exact aru _
 |cons x l ih=>
  intro c
  rw [atD]
  split
  ·have:=ih (c:=(atd c x.face).2);simp;omega
  ·have:=ih (c:=(atd c x.face).2);simp;omega
def StB (b:Br Tm):Prop:=b.kids=[AK b,k1 b]/\Fm (AK b)/\Fm (k1 b)/\aq b.face/\b.face.length<1073741824
theorem aIU: ∀ {l:LB} {c:Int},(∀b∈l,b.kids=[AK b,k1 b]/\Fm (AK b)/\Fm (k1 b)/\RX true b.face)-> ∀b∈(atD c l).1,StB b:=by
 intro l
 induction l with
 |nil=>intro c _ b hb;cases hb
 |cons x l ih=>
  intro c h b hb
  rw [atD] at hb
  obtain ⟨q1,q2,q3,q4⟩:=h x (by simp)
  split at hb
  ·exact ih (fun b hb=>h b (by simp [hb])) b hb
  ·rcases arR.1 hb with rfl|hb
   ·have:=aAE (c:=c) q4
    exact ⟨q1,q2,q3,this.1,this.2⟩
   ·exact ih (fun b hb=>h b (by simp [hb])) b hb
def asb (phi:LC) (F:Int->Tm×Int) (c:Int):LB×Int:=
 if phi.length=0 then ([],c) else ([⟨phi,[(F c).1]⟩],(F c).2)
theorem aJa: ∀ {l:LB},(∀b∈l,b.kids=[AK b,k1 b])->2*l.length<=aI l:=by
 intro l
 induction l with
 |nil=>simp
 |cons x l ih=>
  intro h
  have h1:=ih fun b hb=>h b (by simp [hb])
  have h2:=h x (by simp)
  obtain ⟨f,ks⟩:=x
  grind [aI,fG,ay,mB]
theorem ayb {g:Tm} (fg:Fm g) (hg:g.kind=16):g.sys.length<=10000:=by
 have h:=aJa fun b hb=>((fg.gl hg).1 b hb).1
 have:=fg.siz
 cases g<;>grind [au,Tm.sys]
def GN (x:Tm):Prop:=Fm x/\x.kind=16\/x=noT
theorem GN.es (hk:F3 k) {x:Tm} (h:GN x) (I:LB->OS S):au4 k x I=I (esS x):=by
 have hfu:4294968296<=k:=hk
 simp only [au4,ag hk.fu,axE,ayK]
 rcases h with ⟨h1,h2⟩|rfl
 ·obtain ⟨hx,hl,_⟩:=h1.gl h2
  exact azu hk I (fun b hb=>(hx b hb).1) hl x.sys [] [] k rfl (by omega) (by grind)
 ·exact azu (l:=[]) hk I (fun b hb=>by cases hb) (by simp) [] [] [] k rfl (by grind) (by simp)
theorem GN.un {x a:Tm} (h:GN x) (ha:Fm a):Sm 40002 (arZ a (esS x))/\am (arZ a (esS x))<=201:=by
 have:=ha.dep;have:=ha.siz
 rcases h with ⟨h1,h2⟩|rfl
 ·obtain ⟨e1,e2,e3,e4,_,_⟩:=aze h1 h2
  have d:=h1.dep;have z:=h1.siz
  have e5:aO x.sys+1<=am x:=by cases x<;>grind [am,Tm.sys]
  have e6:aI x.sys+1<=au x:=by cases x<;>grind [au,Tm.sys]
  have e7:=ayb h1 h2
  have d1:am (arZ a (esS x))<=201:=by grind [am,aH]
  refine ⟨⟨?_, ?_,by omega⟩,d1⟩
  ·rw [OkT,aZ,aZ];exact ⟨⟨by unfold aG;omega,by unfold aG;omega,by decide,(fun c hc=>by cases hc),by simp,by simp,by omega⟩,⟨ha.ok,trivial⟩,e1⟩
  grind [au,ay]
 ·have d1:am (arZ a (esS noT))<=201:=by rw [am,aH,aH];show max _ (aO [])+1<=_;rw [aO];omega
  refine ⟨⟨?_, ?_,by omega⟩,d1⟩
  ·rw [OkT,aZ,aZ];refine ⟨⟨by unfold aG;omega,by unfold aG;omega,by decide,(fun c hc=>by cases hc),by simp,by simp,by simp [esS,noT,Tm.sys]⟩,⟨ha.ok,trivial⟩, ?_⟩
   show ba [];rw [ba];trivial
  ·rw [au,ay,ay];show _+aI []<=_;rw [aI];omega
theorem ayc {c:Int} {r:LC} {g:Tm} (fg:Fm g) (hg:g.kind=16) (hr:RF r) (hl:dg r 24=true):GN (mM c (an8 0 r g)).1:=by
 unfold mM
 split
 ·cases hx:an8 0 r g with
  |error e=>exact .inr rfl
  |ok y=>
   obtain ⟨h1,h2⟩:=aDo fg.ok hx
   exact .inl ⟨aIX fg hr hl h2,(TZ h2).trans hg⟩
 ·exact .inr rfl
def awb (phi:LC) (a:Tm) (c:Int) (b:Br Tm):Br Tm×Int:=
 (⟨b.face,[tmK 6 [tmK 9 [k1 b],(mM c (aso (AK b) phi a ⟨0,1⟩ [⟨3,0⟩])).1]]⟩,(mM c (aso (AK b) phi a ⟨0,1⟩ [⟨3,0⟩])).2)
def hdT (g:Tm):Tm:=g.kids.headD noT
structure BegR where
 st:LB
 a1:Tm
 c:Int
def auE (phi:LC) (a a0:Tm) (st:LB) (c:Int):LB×Int:=
 ((asb phi (fun c=>mM c (wA 0 1 a0)) c).1++(ark (awb phi a) (asb phi (fun c=>mM c (wA 0 1 a0)) c).2 st).1,(ark (awb phi a) (asb phi (fun c=>mM c (wA 0 1 a0)) c).2 st).2)
def atI (g:Tm) (phi:LC) (a a0:Tm) (st:LB) (c:Int):Tm×Int:=
 mM (auE phi a a0 st c).2 (soE [hdT g,a0,J4 (auE phi a a0 st c).1] (dF (hdT g) a0 (auE phi a a0 st c).1))
def auY (g:Tm) (phi:LC) (a:Tm):BegR:=
 let T:=mM 0 (an8 0 [] g)
 let st:=atD T.2 g.sys
 let C:=atI g phi a (arZ a (esS T.1)) st.1 st.2
 ⟨st.1,C.1,C.2⟩
section
variable {phi:LC} {x1 x2:Int} {x3:BA} {x4:LC} {x5:LT} {x6 st0:LB} {y1 y2:Int} {y3:BA} {y4:LC} {y5:LT} {y6:LB} {z1 z2:Int} {z3:BA} {z4:LC} {z5:LT} {z6:LB}
theorem aIz (hk:F3 k) (fa:Fm (Tm.mk x1 x2 x3 x4 x5 x6)) (hp:RX true phi) {st:LB} (hs: ∀b∈st,StB b) (hl:st.length<=10000) (c:Int) (I:LB×Int->OS S):
  awq k st c phi x1 x2 x3 x4 x5 x6 st0 y1 y2 y3 y4 y5 y6 z1 z2 z3 z4 z5 z6 I=I (ark (awb phi (Tm.mk x1 x2 x3 x4 x5 x6)) c st):=by
 have hfu:4294968296<=k:=hk
 simp only [awq,aAa]
 have:=ax7 (S:=S) (l:=st) (L:=fun m c i acc=>avQ k I phi y2 y3 y4 y5 y6 z1 z2 z3 z4 z5 x1 z6 x2 x3 x4 x5 x6 st0 y1 st m c i acc) (F:=awb phi (Tm.mk x1 x2 x3 x4 x5 x6)) (I:=I)
  (fun m c acc ha=>by
   grind [avQ,aw5,n3])
  (fun m c x p r acc h ha=>by
   obtain ⟨e1,e2,e3,_⟩:=apy h (by omega)
   have hlen:p.length<st.length:=by grind
   obtain ⟨q1,q2,q3,q4⟩:=hs x (by grind)
   have g0:af x.kids 0=some (AK x):=ED (n:=0) rfl (by grind)
   have g1:af x.kids 1=some (k1 x):=ED (n:=1) rfl (by grind)
   simp only [avQ,aw5,e1,ae,e2,an4,ag hk.fu,ay7,g0,g1,ar,aum,zc,nf,e3]
   rw [aDh hk (q2.isIn hk) (fa.isIn hk) (G9 hp),J5 (by grind)]
   rfl)
  st [] [] k c rfl (by omega) rfl
 grind
theorem aIJ (hk:F3 k) {st:LB} {a0:Tm} (ha:In k a0) (c:Int) (I:LB×Int->OS S):
  awp k c phi x1 x2 x3 x4 x5 x6 st y1 y2 y3 y4 y5 y6 z1 z2 z3 z4 z5 z6 a0 I=I (asb phi (fun c=>mM c (wA 0 1 a0)) c):=by
 simp only [awp,ag hk.fu,ar,avw,nf]
 rw [ajn hk (fun _=>ha) (by omega) (by omega)]
 unfold asb
 by_cases h:phi.length=0<;>simp_all [ae,beq_false_of_ne,n3]
theorem awX {F:Int->Tm×Int} (hp:RX true phi) {n:Nat} (hF: ∀c,Sm n (F c).1/\am (F c).1<=290) (c:Int):BrP n (asb phi F c).1/\(asb phi F c).1.length<=1:=by
 grind [asb,atK,atT,G9]
theorem aHQ (hk:F3 k) {a:Tm} (fa:Fm a) (hp:RX true phi) {st:LB} (hs: ∀b∈st,StB b) (c:Int):BrP 400000 (ark (awb phi a) c st).1:=by
 intro y hy
 refine au7 (Q:=fun y=> ∃t,y.kids=[t]/\Sm 400000 t/\am t<=299/\aq y.face/\y.face.length<1073741824) (F:=awb phi a) (l:=st) (c:=c) (fun x hx c=> ?_) y hy
 obtain ⟨q1,q2,q3,q4,q5⟩:=hs x hx
 have a9:=awd (kd:=9) (by omega) (.inl q3)
 have qR:Q2 (mM c (aso (AK x) phi a ⟨0,1⟩ [⟨3,0⟩])).1:=atC fun t h=>ayY hk q2.ok fa.ok hp.1 aCx QD h
 have h6:=at6 (kd:=6) (by omega) (n:=80001) (ks:=[tmK 9 [k1 x],(mM c (aso (AK x) phi a ⟨0,1⟩ [⟨3,0⟩])).1]) (fun x hx=>by
  simp at hx
  rcases hx with rfl|rfl
  ·grind
  ·exact ⟨qR.1.mono (by omega),by have:=qR.2;omega⟩) (by simp)
 exact ⟨_,rfl,h6.1.mono (by omega),by omega,q4,q5⟩
theorem aAL (hk:F3 k) {a a0:Tm} (fa:Fm a) (o0:OkT a0) (hp:RX true phi) {st:LB} (hs: ∀b∈st,StB b) (hl:st.length<=10000) (c:Int):In k (J4 (auE phi a a0 st c).1):=by
 have fU: ∀c,FN (mM c (wA 0 1 a0)).1:=fun c=>arW fun t h=>mD (by omega) (auk o0 h).1 (auk o0 h).2
 obtain ⟨w1,w2⟩:=awX (F:=fun c=>mM c (wA 0 1 a0)) hp (n:=400000) (fun c=>⟨(fU c).sm.1.mono (by omega),by have:=(fU c).sm.2;omega⟩) c
 have hb:BrP 400000 (auE phi a a0 st c).1:=au0 w1 (aHQ hk fa hp hs _)
 obtain ⟨b1,b2⟩:=avs hb
 refine Jb hk (by omega) b1 ?_ b2
 grind [auE,aur]
theorem aH2 (hk:F3 k) {g a0:Tm} (fg:Fm g) (hg:g.kind=16) (fa:Fm (Tm.mk x1 x2 x3 x4 x5 x6)) (ia:In k a0) (hp:RX true phi) {st:LB} (hs: ∀b∈st,StB b) (hl:st.length<=10000) (c:Int) (I:Int×LB×Int×Int×BA×LC×LT×LB->OS S):
  (awp k c phi x1 x2 x3 x4 x5 x6 st y1 y2 y3 y4 y5 y6 z1 z2 z3 z4 z5 z6 a0 fun r8=>awq k st r8.2 phi x1 x2 x3 x4 x5 x6 st y1 y2 y3 y4 y5 y6 z1 z2 z3 z4 z5 z6 fun r9=>sf (aw 1099511627776 r8.1.length r9.1.length) fun x10=>sf (af g.kids 0) fun x11=>y9 k x11 a0 (r8.1++r9.1) r9.2 fun r12=>I (r12.2,st,r12.1.kind,r12.1.n,r12.1.name,r12.1.r,r12.1.kids,r12.1.sys))=
   I ((atI g phi (Tm.mk x1 x2 x3 x4 x5 x6) a0 st c).2,st,(atI g phi (Tm.mk x1 x2 x3 x4 x5 x6) a0 st c).1.kind,(atI g phi (Tm.mk x1 x2 x3 x4 x5 x6) a0 st c).1.n,(atI g phi (Tm.mk x1 x2 x3 x4 x5 x6) a0 st c).1.name,(atI g phi (Tm.mk x1 x2 x3 x4 x5 x6) a0 st c).1.r,(atI g phi (Tm.mk x1 x2 x3 x4 x5 x6) a0 st c).1.kids,(atI g phi (Tm.mk x1 x2 x3 x4 x5 x6) a0 st c).1.sys):=by
 obtain ⟨_,_,b,hb,fb⟩:=fg.gl hg
 have gb:af g.kids 0=some b:=ED (n:=0) rfl (by grind)
 have hd:hdT g=b:=by grind [hdT]
 have hw:=(awX (F:=fun c=>mM c (wA 0 1 a0)) hp (n:=20000) (fun c=>by
  have fU:FN (mM c (wA 0 1 a0)).1:=arW fun t h=>mD (by omega) (auk ia.1 h).1 (auk ia.1 h).2
  exact ⟨fU.sm.1,by have:=fU.sm.2;omega⟩) c).2
 rw [aIJ hk ia,aIz hk fa hp hs hl,J5 (by rw [aur];omega),gb,an4]
 have hin:=aAL hk fa ia.1 hp hs hl c
 unfold auE at hin
 rw [Rx hk (fun _=>⟨fb.isIn hk,ia,hin⟩) (fun e h=>BJ (fun e h=>o_ h) h)]
 grind [atI,auE]
theorem aGJ (hk:F3 k) {g a0:Tm} (fg:Fm g) (hg:g.kind=16) (fa:Fm (Tm.mk x1 x2 x3 x4 x5 x6)) {es:LB} (e0:Tm.mk 18 0 alH [] [Tm.mk x1 x2 x3 x4 x5 x6] es=a0) (ia:In k a0) (hp:RX true phi) (I:Int×LB×Int×Int×BA×LC×LT×LB->OS S):
  ∀ (r p st:LB) (m:Nat) (c:Int),g.sys=p++r->r.length<m->(∀b∈st,StB b)->st.length+r.length<=10000->
   avP k I phi y2 y3 y4 y5 y6 z1 z2 z3 z4 z5 x1 z6 x2 x3 x4 x5 x6 y1 g (18,0,alH,[Tm.mk x1 x2 x3 x4 x5 x6],es) m c st (p.length:Int)=
    (fun C:Tm×Int=>I (C.2,st++(atD c r).1,C.1.kind,C.1.n,C.1.name,C.1.r,C.1.kids,C.1.sys)) (atI g phi (Tm.mk x1 x2 x3 x4 x5 x6) a0 (st++(atD c r).1) (atD c r).2):=by
 obtain ⟨hx,hl,_⟩:=fg.gl hg
 intro r
 induction r with
 |nil=>
  intro p st m c h hm hs ha
  obtain ⟨m,rfl,hm'⟩:=amr hm
  simp only [avP,aw4,akb h,n3,ag hk.fu,ar,atD,arE,e0]
  simp_all [aH2]
 |cons x r ih=>
  intro p st m c h hm hs ha
  obtain ⟨m,rfl,hm'⟩:=amr hm
  obtain ⟨e1,e2,e3,e4⟩:=apy h (by omega)
  rw [aq5] at ha
  obtain ⟨q1,q2,q3,q4⟩:=hx x (by grind)
  simp only [avP,aw4,e1,ae,e2,an4,ag hk.fu,e3,nf]
  rw [aIt hk q4,atD]
  by_cases h0:(atd c x.face).1.length=0
  ·grind [decide_eq_false,n3]
  ·rw [if_neg h0,decide_eq_true (by omega),ae,J5 (by grind)]
   have:=aAE (c:=c) q4
   have hb:StB ⟨(atd c x.face).1,x.kids⟩:=⟨q1,q2,q3,this.1,this.2⟩
   grind
theorem aH1 (hk:F3 k) {g:Tm} (fg:Fm g) (hg:g.kind=16) (fa:Fm (Tm.mk x1 x2 x3 x4 x5 x6)) (hp:RX true phi) (I:Int×LB×Int×Int×BA×LC×LT×LB->OS S):
  axB k g 0 phi x1 x2 x3 x4 x5 x6 y1 y2 y3 y4 y5 y6 z1 z2 z3 z4 z5 z6 I=(fun B:BegR=>I (B.c,B.st,B.a1.kind,B.a1.n,B.a1.name,B.a1.r,B.a1.kids,B.a1.sys)) (auY g phi (Tm.mk x1 x2 x3 x4 x5 x6)):=by
 have hfu:4294968296<=k:=hk
 simp only [axB,az_,ag hk.fu,ar]
 rw [wa hk (fun _=>fg.isIn hk) ayD]
 have gT:GN (mM 0 (an8 0 [] g)).1:=ayc fg hg rA (aBC (by decide))
 rw [gT.es hk]
 simp only [aun,ag hk.fu,JM,ar]
 have hu:=gT.un fa
 have ia:=hu.1.isIn hk (by omega)
 have hlen:=ayb fg hg
 refine (aGJ hk fg hg fa rfl ia hp I g.sys [] [] k _ rfl (by omega) (fun b hb=>by cases hb) (by grind)).trans ?_
 rfl
end
def azJ (w z:Tm):Tm:=tmK 8 [w,tmK 12 [z]]
def ayl (u w z:Tm):Tm:=pap [⟨1,0⟩] (tmK 6 [tmK 10 [u],azJ w z]) (tmK 9 [u]) (azJ w z)
def atP (a1 cen x:Tm) (c:Int):Tm×Int:=
 let u:=mM c (wA 0 1 cen)
 let w:=mM u.2 (wA 0 1 x)
 let z:=mM w.2 (wA 0 2 a1)
 (ayl u.1 w.1 z.1,z.2)
def auF (e a1:Tm):Tm:=tmK 6 [tmK 10 [e],a1]
def awx (phi:LC) (a a1 cen:Tm) (c:Int) (b:Br Tm):Br Tm×Int:=
 (⟨b.face,[(atP a1 cen (aml phi (AK b) a) c).1]⟩,(atP a1 cen (aml phi (AK b) a) c).2)
def awy (phi:LC) (a a1 cen:Tm) (st:LB) (c:Int):LB×Int:=
 ((asb phi (atP a1 cen a) c).1++(ark (awx phi a a1 cen) (asb phi (atP a1 cen a) c).2 st).1,(ark (awx phi a a1 cen) (asb phi (atP a1 cen a) c).2 st).2)
def aya (phi:LC) (a a1 t1:Tm) (st:LB) (t e:Tm) (c:Int):Tm×Int:=
 let f:=mM c (soE [t,t1,tmK 9 [e],a1] (atO t t1 (tmK 9 [e]) a1))
 let s:=awy phi a a1 (auF e a1) st f.2
 (.mk 15 0 alH [] [f.1,tmK 9 [auF e a1]] s.1,s.2)
theorem atm {kd:Int} (hkd:0<=kd/\kd<=28) {n m d:Nat} {x y:Tm} (hx:Sm n x/\am x<=d) (hy:Sm m y/\am y<=d) (hd:d<=290):Sm (n+m+1) (tmK kd [x,y])/\am (tmK kd [x,y])<=d+1:=by
 unfold tmK
 refine ⟨(Hn (kd:=kd) hkd (r:=[]) ⟨(fun c hc=>by cases hc),by simp⟩ (ks:=[x,y]) (sys:=[]) (n:=n+m) (m:=0) (fun z hz=>by
  simp at hz
  rcases hz with rfl|rfl
  ·exact ⟨hx.1.ok,by omega⟩
  ·exact ⟨hy.1.ok,by omega⟩) (by simp) (by rw [ay,ay,ay];have:=hx.1.siz;have:=hy.1.siz;omega) (by rw [ba];trivial) (by simp) (by rw [aO];omega) (by rw [aI];omega)).mono (by omega), ?_⟩
 grind [am,aH,aO]
theorem at5 {kd:Int} (hkd:0<=kd/\kd<=28) {n d:Nat} {x:Tm} (hx:Sm n x/\am x<=d) (hd:d<=290):Sm (n+1) (tmK kd [x])/\am (tmK kd [x])<=d+1:=by
 unfold tmK
 refine ⟨(Hn (kd:=kd) hkd (r:=[]) ⟨(fun c hc=>by cases hc),by simp⟩ (ks:=[x]) (sys:=[]) (n:=n) (m:=0) (fun z hz=>by
  simp at hz;subst hz
  exact ⟨hx.1.ok,by omega⟩) (by simp) (by rw [ay,ay];have:=hx.1.siz;omega) (by rw [ba];trivial) (by simp) (by rw [aO];omega) (by rw [aI];omega)).mono (by omega), ?_⟩
 grind [am,aH,aO]
theorem azY {r:LC} (hr:aq r/\r.length<1073741824) {n m j d:Nat} {x y z:Tm} (hx:Sm n x/\am x<=d) (hy:Sm m y/\am y<=d) (hz:Sm j z/\am z<=d) (hd:d<=290):Sm (n+m+j+1) (pap r x y z)/\am (pap r x y z)<=d+1:=by
 refine ⟨(Hn (kd:=13) (by omega) hr (ks:=[x,y,z]) (sys:=[]) (n:=n+m+j) (m:=0) (fun w hw=>by
  simp at hw
  rcases hw with rfl|rfl|rfl
  ·exact ⟨hx.1.ok,by omega⟩
  ·exact ⟨hy.1.ok,by omega⟩
  ·exact ⟨hz.1.ok,by omega⟩) (by simp) (by rw [ay,ay,ay,ay];have:=hx.1.siz;have:=hy.1.siz;have:=hz.1.siz;omega) (by rw [ba];trivial) (by simp) (by rw [aO];omega) (by rw [aI];omega)).mono (by omega), ?_⟩
 grind [am,aH,aO]
theorem asl {c a b:Int} (ha:0<=a/\a<=1000) (hb:0<=b/\b<=1000) {t:Tm} (ot:OkT t):FN (mM c (wA a b t)).1:=arW fun t h=>mD (by omega) (auk ot h).1 (auk ot h).2
theorem aHd {u w z:Tm} (hu:FN u) (hw:FN w) (hz:FN z):Sm 200000 (ayl u w z)/\am (ayl u w z)<=210:=by
 have h12:=at5 (kd:=12) (by omega) hz.sm (by omega)
 have h8:=atm (kd:=8) (by omega) (d:=201) ⟨hw.sm.1,by have:=hw.sm.2;omega⟩ h12 (by omega)
 have h10:=at5 (kd:=10) (by omega) hu.sm (by omega)
 have h9:=at5 (kd:=9) (by omega) hu.sm (by omega)
 have h6:=atm (kd:=6) (by omega) (d:=202) ⟨h10.1,by omega⟩ ⟨h8.1,by omega⟩ (by omega)
 have:=azY (at3 (a:=1) (b:=0) (by omega) (by omega)) (d:=203) ⟨h6.1,by omega⟩ ⟨h9.1,by omega⟩ ⟨h8.1,by omega⟩ (by omega)
 exact ⟨this.1.mono (by omega),by grind [ayl,azJ]⟩
theorem aCB {a1 cen x:Tm} {c:Int} (h1:OkT a1) (h2:OkT cen) (h3:OkT x):Sm 200000 (atP a1 cen x c).1/\am (atP a1 cen x c).1<=210:=
 aHd (asl (by omega) (by omega) h2) (asl (by omega) (by omega) h3) (asl (by omega) (by omega) h1)
theorem ay1 {e a1:Tm} (he:FN e) (h1:FN a1):Sm 40002 (auF e a1)/\am (auF e a1)<=202:=by
 have h10:=at5 (kd:=10) (by omega) he.sm (by omega)
 have:=atm (kd:=6) (by omega) (d:=201) ⟨h10.1,by omega⟩ ⟨h1.sm.1,by have:=h1.sm.2;omega⟩ (by omega)
 grind [auF]
section
variable {phi:LC} {x1 x2:Int} {x3:BA} {x4:LC} {x5:LT} {x6 st0:LB} {y1 y2:Int} {y3:BA} {y4:LC} {y5:LT} {y6:LB} {z1 z2:Int} {z3:BA} {z4:LC} {z5:LT} {z6:LB}
theorem aDc (hk:F3 k) {x cen:Tm} (i1:In k (Tm.mk y1 y2 y3 y4 y5 y6)) (i2:In k cen) (i3:In k x) (c:Int) (I:Int×Int×BA×LC×LT×Int->OS S):
  ∃ks,awo k x cen c phi x1 x2 x3 x4 x5 x6 st0 y1 y2 y3 y4 y5 y6 z1 z2 z3 z4 z5 z6 I=I (13,0,alH,[⟨1,0⟩],ks,(atP (Tm.mk y1 y2 y3 y4 y5 y6) cen x c).2)/\Tm.mk 13 0 alH [⟨1,0⟩] ks []=(atP (Tm.mk y1 y2 y3 y4 y5 y6) cen x c).1:=by
 refine ⟨_, ?_,rfl⟩
 simp only [awo,ag hk.fu,ar,zc,tO]
 rw [ajn hk (fun _=>i2) (by omega) (by omega),ajn hk (fun _=>i3) (by omega) (by omega),ajn hk (fun _=>i1) (by omega) (by omega)]
 rfl
theorem aIK (hk:F3 k) {cen:Tm} (i1:In k (Tm.mk y1 y2 y3 y4 y5 y6)) (i2:In k cen) (i3:In k (Tm.mk x1 x2 x3 x4 x5 x6)) (c:Int) (I:LB×Int->OS S):
  axD k c phi x1 x2 x3 x4 x5 x6 st0 y1 y2 y3 y4 y5 y6 z1 z2 z3 z4 z5 z6 cen I=I (asb phi (atP (Tm.mk y1 y2 y3 y4 y5 y6) cen (Tm.mk x1 x2 x3 x4 x5 x6)) c):=by
 simp only [axD,ag hk.fu,ar,avx,nf]
 obtain ⟨ks,h1,h2⟩:=aDc (phi:=phi) (x1:=x1) (x2:=x2) (x3:=x3) (x4:=x4) (x5:=x5) (x6:=x6) (st0:=st0) (z1:=z1) (z2:=z2) (z3:=z3) (z4:=z4) (z5:=z5) (z6:=z6) hk i1 i2 i3 c (fun r1=>I ([⟨phi,[Tm.mk r1.1 r1.2.1 r1.2.2.1 r1.2.2.2.1 r1.2.2.2.2.1 []]⟩],r1.2.2.2.2.2))
 rw [h1]
 dsimp only
 rw [h2]
 unfold asb
 by_cases h:phi.length=0<;>simp_all [ae,beq_false_of_ne,n3]
theorem aIc (hk:F3 k) {cen:Tm} (i1:In k (Tm.mk y1 y2 y3 y4 y5 y6)) (i2:In k cen) (fa:Fm (Tm.mk x1 x2 x3 x4 x5 x6)) (hp:RX true phi) {st:LB} (hs: ∀b∈st,StB b) (hl:st.length<=10000) (c:Int) (I:LB×Int->OS S):
  axF k st cen c phi x1 x2 x3 x4 x5 x6 st0 y1 y2 y3 y4 y5 y6 z1 z2 z3 z4 z5 z6 I=I (ark (awx phi (Tm.mk x1 x2 x3 x4 x5 x6) (Tm.mk y1 y2 y3 y4 y5 y6) cen) c st):=by
 have hfu:4294968296<=k:=hk
 simp only [axF,aAd]
 have:=ax7 (S:=S) (l:=st) (L:=fun m c i acc=>avd k I cen phi y2 y3 y4 y5 y6 z1 z2 z3 z4 z5 x1 z6 x2 x3 x4 x5 x6 st0 y1 st m c i acc) (F:=awx phi (Tm.mk x1 x2 x3 x4 x5 x6) (Tm.mk y1 y2 y3 y4 y5 y6) cen) (I:=I)
  (fun m c acc ha=>by
   grind [avd,axa,n3])
  (fun m c x p r acc h ha=>by
   obtain ⟨e1,e2,e3,_⟩:=apy h (by omega)
   have hlen:p.length<st.length:=by grind
   obtain ⟨q1,q2,q3,q4⟩:=hs x (by grind)
   have g0:af x.kids 0=some (AK x):=ED (n:=0) rfl (by grind)
   have h14:=(aol (G9 hp) q2.sm fa.sm (by have:=q2.dep;omega) (by have:=fa.dep;omega)).isIn hk (by omega)
   simp only [avd,axa,e1,ae,e2,an4,ag hk.fu,ay8,g0,ar,tO,nf,e3]
   obtain ⟨ks,h1,h2⟩:=aDc (phi:=phi) (x1:=x1) (x2:=x2) (x3:=x3) (x4:=x4) (x5:=x5) (x6:=x6) (st0:=st0) (z1:=z1) (z2:=z2) (z3:=z3) (z4:=z4) (z5:=z5) (z6:=z6) hk i1 i2 h14 c (fun r3=>sf (aw 1099511627776 acc.length [(⟨x.face,[Tm.mk r3.1 r3.2.1 r3.2.2.1 r3.2.2.2.1 r3.2.2.2.2.1 []]⟩:Br Tm)].length) fun aJw=>avd k I cen phi y2 y3 y4 y5 y6 z1 z2 z3 z4 z5 x1 z6 x2 x3 x4 x5 x6 st0 y1 st m r3.2.2.2.2.2 (((p++[x]).length:Nat):Int) (acc++[⟨x.face,[Tm.mk r3.1 r3.2.1 r3.2.2.1 r3.2.2.2.1 r3.2.2.2.2.1 []]⟩]))
   refine alQ ?_ (h1.trans ?_)
   ·rfl
   dsimp only
   rw [J5 (by grind),h2]
   rfl)
  st [] [] k c rfl (by omega) rfl
 grind
end
theorem aA6 {a a1 cen:Tm} (fa:Fm a) (h1:OkT a1) (h2:OkT cen) {phi:LC} (hp:RX true phi) {st:LB} (hs: ∀b∈st,StB b) (c:Int):BrP 200000 (awy phi a a1 cen st c).1/\(awy phi a a1 cen st c).1.length<=st.length+1:=by
 obtain ⟨w1,w2⟩:=awX (F:=atP a1 cen a) hp (n:=200000) (fun c=>by
  have:=aCB (c:=c) h1 h2 fa.ok
  exact ⟨this.1,by have:=this.2;omega⟩) c
 refine ⟨au0 w1 ?_, ?_⟩
 ·intro y hy
  refine au7 (Q:=fun y=> ∃t,y.kids=[t]/\Sm 200000 t/\am t<=299/\aq y.face/\y.face.length<1073741824) (F:=awx phi a a1 cen) (l:=st) (c:=(asb phi (atP a1 cen a) c).2) (fun x hx c=> ?_) y hy
  obtain ⟨q1,q2,q3,q4,q5⟩:=hs x hx
  have h14:=(aol (G9 hp) q2.sm fa.sm (by have:=q2.dep;omega) (by have:=fa.dep;omega)).ok
  have:=aCB (c:=c) h1 h2 h14
  exact ⟨_,rfl,this.1,by have:=this.2;omega,q4,q5⟩
 ·unfold awy
  rw [List.length_append,aur];omega
theorem aF0 (hk:F3 k) {phi:LC} {a a1 t1 t e:Tm} {st:LB} {c:Int} (fa:Fm a) (f1:FN a1) (ft1:FN t1) (ft:Fm t) (fe:Fm e) (hp:RX true phi) (hs: ∀b∈st,StB b) (hl:st.length<=10000):
  FN (mM c (soE [t,t1,tmK 9 [e],a1] (atO t t1 (tmK 9 [e]) a1))).1->Sm 50000000000 (aya phi a a1 t1 st t e c).1/\am (aya phi a a1 t1 st t e c).1<=300:=by
 intro hf
 have hc:=ay1 (.inl fe) f1
 have h9:=at5 (kd:=9) (by omega) hc (by omega)
 obtain ⟨b1,b2⟩:=aA6 (st:=st) (cen:=auF e a1) fa f1.sm.1.ok hc.1.ok hp hs (mM c (soE [t,t1,tmK 9 [e],a1] (atO t t1 (tmK 9 [e]) a1))).2
 have:=ayH (n:=50000) (m:=200000) (hf.sm.1.mono (by omega)) (h9.1.mono (by omega)) (by have:=hf.sm.2;omega) (by have:=h9.2;omega) (by omega) b1 (by omega) (by omega)
 exact ⟨this,this.dep⟩
section
variable {phi:LC} {x1 x2:Int} {x3:BA} {x4:LC} {x5:LT} {x6 st0:LB} {y1 y2:Int} {y3:BA} {y4:LC} {y5:LT} {y6:LB} {z1 z2:Int} {z3:BA} {z4:LC} {z5:LT} {z6:LB}
theorem aIw (hk:F3 k) {t a f y:Tm} {c:Int} (ht:In k t) (ha:In k a) (hf:In k f) (hy:In k y) (I:Tm×Int->OS S):axW k t a f y c I=I (mM c (soE [t,a,f,y] (atO t a f y))):=by
 simp only [axW,ag hk.fu,dG,ar,rJ]
 exact Az c (fun h g=>aHT hk ht ha hf hy g) (fun e h=>BJ (fun e h=>aFT h) h) I
theorem aH_ (hk:F3 k) {t e:Tm} (ft:Fm t) (fe:Fm e) (fa:Fm (Tm.mk x1 x2 x3 x4 x5 x6)) (f1:FN (Tm.mk y1 y2 y3 y4 y5 y6)) (ft1:FN (Tm.mk z1 z2 z3 z4 z5 z6)) (hp:RX true phi) {st:LB} (hs: ∀b∈st,StB b) (hl:st.length<=10000) (c:Int) (I:Int×Int×BA×LT×LB×Int->OS S):
  axC k t e c phi x1 x2 x3 x4 x5 x6 st y1 y2 y3 y4 y5 y6 z1 z2 z3 z4 z5 z6 I=(fun F:Tm×Int=>I (15,0,alH,F.1.kids,F.1.sys,F.2)) (aya phi (Tm.mk x1 x2 x3 x4 x5 x6) (Tm.mk y1 y2 y3 y4 y5 y6) (Tm.mk z1 z2 z3 z4 z5 z6) st t e c):=by
 have i1:=f1.sm.1.isIn hk (by omega)
 have i2:=(ay1 (.inl fe) f1).1.isIn hk (by omega)
 have i9:=(at5 (kd:=9) (by omega) (FN.sm (.inl fe)) (by omega)).1.isIn hk (by omega)
 simp only [axC,ag hk.fu,ar,zc,aum,JM]
 have e9:Tm.mk 9 0 alH [] [e] []=tmK 9 [e]:=rfl
 have ec:Tm.mk 6 0 alH [] [Tm.mk 10 0 alH [] [e] [],Tm.mk y1 y2 y3 y4 y5 y6] []=auF e (Tm.mk y1 y2 y3 y4 y5 y6):=rfl
 rw [e9,ec,aIw hk (ft.isIn hk) (ft1.sm.1.isIn hk (by omega)) i9 i1,aIK hk i1 i2 (fa.isIn hk),aIc hk i1 i2 fa hp hs hl]
 have hb:=(aA6 (st:=st) (cen:=auF e (Tm.mk y1 y2 y3 y4 y5 y6)) (a1:=Tm.mk y1 y2 y3 y4 y5 y6) fa f1.sm.1.ok (ay1 (.inl fe) f1).1.ok hp hs (mM c (soE [t,Tm.mk z1 z2 z3 z4 z5 z6,tmK 9 [e],Tm.mk y1 y2 y3 y4 y5 y6] (atO t (Tm.mk z1 z2 z3 z4 z5 z6) (tmK 9 [e]) (Tm.mk y1 y2 y3 y4 y5 y6)))).2).2
 unfold awy at hb
 rw [List.length_append] at hb
 rw [J5 (by omega)]
 rfl
end
theorem azT (hk:F3 k) {t:Tm} {c:Int} (ot:OkT t) (hd:am t<=400) (I:Tm×Bool×Int×Int->OS S):ly k t c I=I ((dM c t).1,(dM c t).2==0,(dM c t).2,(dM c t).2):=by
 have h2:Fd k (am t):=hk.fd (by omega)
 simp only [ly,ag hk.fu,dG,ar,rJ,amv ot h2 (by omega)]
 have:OkT (dM c t).1/\Fd k (am (dM c t).1):=by
  unfold dM
  split
  ·split
   ·grind
   ·exact ⟨(gQ hk).1,(gQ hk).2.1⟩
  ·exact ⟨(gQ hk).1,(gQ hk).2.1⟩
 grind [vU,dM]
def wsF (phi:LC) (a a1 t1:Tm) (st:LB) (c:Int) (b:Br Tm):Tm×Int:=aya phi a a1 t1 st (AK b) (k1 b) c
def auc (a1:Tm) (c:Int) (q:Br Tm×Tm):Br Tm×Int:=
 let x:=mM c (wA 0 1 q.2)
 let lo:=mM x.2 (wA 0 1 a1)
 let e:=mM lo.2 (wA 0 1 (k1 q.1))
 (⟨q.1.face,[pap [⟨1,0⟩] (tmK 10 [x.1]) lo.1 (tmK 6 [tmK 9 [e.1],tmK 9 [x.1]])]⟩,e.2)
def awT (q:Br Tm×Tm):Br Tm:=⟨q.1.face,[tmK 9 [q.2]]⟩
def asR (l:LT):Tm:=match l with
 |[x]=>x
 |_=>noT
theorem aFU (hk:F3 k) {t a f y:Tm} (ht:In k t) (ha:In k a) (hf:In k f) (hy:In k y) (c:Int):FN (mM c (soE [t,a,f,y] (atO t a f y))).1:=arW fun z h=>by
 obtain ⟨so,ff,hx⟩:=BI h
 have:=avl (l:=[t,a,f,y]) (fun x hx=>by
  simp at hx
  rcases hx with rfl|rfl|rfl|rfl
  ·exact ht.1
  ·exact ha.1
  ·exact hf.1
  ·exact hy.1) so
 exact ⟨((aA5 (by omega) (by omega) (this t (by simp)).f2 (this a (by simp)).f2 (this f (by simp)).f2 (this y (by simp)).f2 hx).isIn hk (by omega) (by omega)).1,ff⟩
section
variable {phi:LC} {x1 x2:Int} {x3:BA} {x4:LC} {x5:LT} {x6 st:LB} {y1 y2:Int} {y3:BA} {y4:LC} {y5:LT} {y6:LB} {z1 z2:Int} {z3:BA} {z4:LC} {z5:LT} {z6:LB}
def GB (l:LB):Prop:= ∀b∈l,b.kids=[AK b,k1 b]/\Fm (AK b)/\Fm (k1 b)/\RX true b.face
theorem aDv (hk:F3 k) {a a1 t1:Tm} (fa:Fm a) (f1:FN a1) (ft1:FN t1) (hp:RX true phi) (hs: ∀b∈st,StB b) (hl:st.length<=10000) {l:LB} (hg:GB l) {c:Int}: ∀w∈(ark (wsF phi a a1 t1 st) c l).1,Sm 50000000000 w/\am w<=300:=
 au7 fun b hb c=>by
  obtain ⟨q1,q2,q3,q4⟩:=hg b hb
  exact aF0 hk fa f1 ft1 q2 q3 hp hs hl (aFU hk (q2.isIn hk) (ft1.sm.1.isIn hk (by omega)) ((at5 (kd:=9) (by omega) (FN.sm (.inl q3)) (by omega)).1.isIn hk (by omega)) (f1.sm.1.isIn hk (by omega)) _)
theorem aIO (hk:F3 k) (fa:Fm (Tm.mk x1 x2 x3 x4 x5 x6)) (f1:FN (Tm.mk y1 y2 y3 y4 y5 y6)) (ft1:FN (Tm.mk z1 z2 z3 z4 z5 z6)) (hp:RX true phi) (hs: ∀b∈st,StB b) (hl:st.length<=10000) {l:LB} (hg:GB l) (hgl:l.length<=10000) (c:Int) (I:LT×Int->OS S):
  avz k l c phi x1 x2 x3 x4 x5 x6 st y1 y2 y3 y4 y5 y6 z1 z2 z3 z4 z5 z6 I=I (ark (wsF phi (Tm.mk x1 x2 x3 x4 x5 x6) (Tm.mk y1 y2 y3 y4 y5 y6) (Tm.mk z1 z2 z3 z4 z5 z6) st) c l):=by
 have hfu:4294968296<=k:=hk
 simp only [avz,aAc]
 have:=ax7 (S:=S) (l:=l) (L:=fun m c i acc=>avU k I phi y2 y3 y4 y5 y6 z1 z2 z3 z4 z5 x1 z6 x2 x3 x4 x5 x6 st y1 l m c i acc) (F:=wsF phi (Tm.mk x1 x2 x3 x4 x5 x6) (Tm.mk y1 y2 y3 y4 y5 y6) (Tm.mk z1 z2 z3 z4 z5 z6) st) (I:=I)
  (fun m c acc ha=>by
   grind [avU,aw9,n3])
  (fun m c x p r acc h ha=>by
   obtain ⟨e1,e2,e3,_⟩:=apy h (by omega)
   have hlen:p.length<l.length:=by grind
   obtain ⟨q1,q2,q3,q4⟩:=hg x (by grind)
   have g0:af x.kids 0=some (AK x):=ED (n:=0) rfl (by grind)
   have g1:af x.kids 1=some (k1 x):=ED (n:=1) rfl (by grind)
   simp only [avU,aw9,e1,ae,e2,an4,ag hk.fu,ay5,g0,g1,ar,e3]
   rw [aH_ hk q2 q3 fa f1 ft1 hp hs hl]
   dsimp only
   rw [J5 (by grind)]
   rfl)
  l [] [] k c rfl (by omega) rfl
 grind
theorem aIL (hk:F3 k) (i1:In k (Tm.mk y1 y2 y3 y4 y5 y6)) (c:Int) (I:LB×Int->OS S):
  avy k c phi x1 x2 x3 x4 x5 x6 st y1 y2 y3 y4 y5 y6 z1 z2 z3 z4 z5 z6 I=I (asb phi (fun c=>mM c (wA 0 1 (Tm.mk y1 y2 y3 y4 y5 y6))) c):=by
 simp only [avy,ag hk.fu,ar,avv,nf]
 rw [ajn hk (fun _=>i1) (by omega) (by omega)]
 unfold asb
 by_cases h:phi.length=0<;>simp_all [ae,beq_false_of_ne,n3]
end
def awz (phi:LC) (g a:Tm):Tm×Int:=
 let B:=auY g phi a
 let G:=mM B.c (an8 0 [⟨0,0⟩] g)
 let t1:=asR G.1.kids
 let ws:=ark (wsF phi a B.a1 t1 B.st) G.2 G.1.sys
 let W:=asb phi (fun c=>mM c (wA 0 1 B.a1)) ws.2
 let Z:=ark (auc B.a1) W.2 (G.1.sys.zip ws.1)
 (.mk 17 0 alH [] [.mk 15 0 alH [] [t1,B.a1] (W.1++Z.1)] ((G.1.sys.zip ws.1).map awT),Z.2)
def awA (t:Tm):Tm×Bool×Int:=
 if bw t≠0 then (noT,false,bw t) else
 if t.kind=14/\(t.kids.getD 0 noT).kind=16 then
  (fun q:Tm×Int=>((dM q.2 q.1).1,(dM q.2 q.1).2==0,(dM q.2 q.1).2)) (awz t.r (t.kids.getD 0 noT) (t.kids.getD 1 noT))
 else (noT,false,0)
theorem aAK (hk:F3 k) {g a:Tm} {phi:LC} (fg:Fm g) (hg:g.kind=16) (fa:Fm a) (hp:RX true phi):FN (auY g phi a).a1/\(∀b∈(auY g phi a).st,StB b)/\(auY g phi a).st.length<=10000:=by
 obtain ⟨hx,_,b,hb,fb⟩:=fg.gl hg
 have hlen:=ayb fg hg
 have gT:GN (mM 0 (an8 0 [] g)).1:=ayc fg hg rA (aBC (by decide))
 have hs:=aIU (l:=g.sys) (c:=(mM 0 (an8 0 [] g)).2) hx
 have hl:=aIT (l:=g.sys) (c:=(mM 0 (an8 0 [] g)).2)
 have hd:hdT g=b:=by grind [hdT]
 have ia:=(gT.un fa).1.isIn hk (by omega)
 refine ⟨?_,hs,arA hl hlen⟩
 show FN (atI g phi a _ _ _).1
 unfold atI
 rw [hd]
 exact azg hk (fb.isIn hk) ia (aAL hk fa ia.1 hp hs (arA hl hlen) _) _
theorem aBc {x:Tm} (h:GN x):FN (asR x.kids)/\GB x.sys/\x.sys.length<=10000/\(x.kids.length=1/\x.kids=[asR x.kids]\/x.kids.length=0/\asR x.kids=noT):=by
 rcases h with ⟨h1,h2⟩|rfl
 ·obtain ⟨hx,_,b,hb,fb⟩:=h1.gl h2
  rw [hb]
  exact ⟨.inl fb,hx,ayb h1 h2,.inl ⟨rfl,rfl⟩⟩
 ·exact ⟨.inr rfl,(fun b hb=>by cases hb),by simp [noT,Tm.sys],.inr ⟨rfl,rfl⟩⟩
section
variable {z1 z2:Int} {z3:BA} {z4:LC} {z5:LT} {z6:LB}
theorem aGR (hk:F3 k) (I:Tm×Bool×Int->OS S) {r3 x4:Tm} {r6:Int×LB×Int×Int×BA×LC×LT×LB} {r8:Tm×Int} {a1:Tm} (e1:Tm.mk r6.2.2.1 r6.2.2.2.1 r6.2.2.2.2.1 r6.2.2.2.2.2.1 r6.2.2.2.2.2.2.1 r6.2.2.2.2.2.2.2=a1) (o1:OkT a1) (i1:In k a1) (hg:GB r8.1.sys) (hgl:r8.1.sys.length<=10000) {ws:LT} (hw: ∀w∈ws,In k w) (hwl:ws.length=r8.1.sys.length) {END:LB->LB->Int->OS S}
  (hend: ∀ (m:Nat) (c:Int) (pa sy:LB),auQ k I r3 r6 x4 r8 (m+1) c z1 z2 z3 z4 z5 z6 pa (r8.1.sys.length:Int) ws sy=END pa sy c):
  ∀ (r p:LB) (rw pw:LT) (pa sy:LB) (m:Nat) (c:Int),r8.1.sys=p++r->ws=pw++rw->pw.length=p.length->r.length<m->pa.length=p.length->sy.length<=p.length+1->
   auQ k I r3 r6 x4 r8 m c z1 z2 z3 z4 z5 z6 pa (p.length:Int) ws sy=END (pa++(r.zip rw).map awT) (sy++(ark (auc a1) c (r.zip rw)).1) (ark (auc a1) c (r.zip rw)).2:=by
 intro r
 induction r with
 |nil=>
  grind [amr,List.zip_nil_left,ark]
 |cons x r ih=>
  intro p rw' pw pa sy m c h h' hpw hm hpa hsy
  obtain ⟨m,rfl,hm'⟩:=amr hm
  obtain ⟨e1',e2,e3,e4⟩:=apy h (by omega)
  have hlen:p.length<r8.1.sys.length:=by grind
  cases rw' with
  |nil=>grind
  |cons w rw'=>
  have gw:af ws (p.length:Int)=some w:=by
   rw [h',<-hpw]
   exact ED (n:=pw.length) rfl (by simp)
  obtain ⟨q1,q2,q3,q4⟩:=hg x (by grind)
  have g1:af x.kids 1=some (k1 x):=ED (n:=1) rfl (by grind)
  have iw:=hw w (by grind)
  simp only [auQ,aw3,e1',ae,e2,an4,gw,ag hk.fu,ar,e1,g1,aum,zc,tO,nf,e3]
  rw [ajn hk (fun _=>iw) (by omega) (by omega),ajn hk (fun _=>i1) (by omega) (by omega),ajn hk (fun _=>q3.isIn hk) (by omega) (by omega),J5 (by grind),J5 (by grind)]
  refine alQ (ih (p++[x]) rw' (pw++[w]) _ _ m _ e4 (by grind) (by simp_all) hm' (by simp_all) (by grind)) ?_
  rw [List.zip_cons_cons,List.map_cons,ark,List.append_assoc,List.append_assoc]
  rfl
end
theorem ayJ {n:Nat}: ∀ {l:LB},(∀x∈l,∃t,x.kids=[t]/\OkT t/\am t<=n/\aq x.face/\x.face.length<1073741824)->ba l/\aO l<=n+2:=by
 intro l
 induction l with
 |nil=>grind [ba,aO]
 |cons x l ih=>
  intro h
  obtain ⟨h1,h2⟩:=ih fun y hy=>h y (by simp [hy])
  obtain ⟨t,q1,q2,q3,q4,q5⟩:=h x (by simp)
  obtain ⟨f,ks⟩:=x
  grind [ba,fc,aZ,aO,eB,aH]
theorem aA7 {a1:Tm} (o1:OkT a1) {q:Br Tm×Tm} (ow:OkT q.2) (oe:OkT (k1 q.1)) (hf:aq q.1.face/\q.1.face.length<1073741824) (c:Int):
  ∃t,(auc a1 c q).1.kids=[t]/\OkT t/\am t<=299/\aq (auc a1 c q).1.face/\(auc a1 c q).1.face.length<1073741824:=by
 have fx:=asl (c:=c) (a:=0) (b:=1) (by omega) (by omega) ow
 have fl:=asl (c:=(mM c (wA 0 1 q.2)).2) (a:=0) (b:=1) (by omega) (by omega) o1
 have fe:=asl (c:=(mM (mM c (wA 0 1 q.2)).2 (wA 0 1 a1)).2) (a:=0) (b:=1) (by omega) (by omega) oe
 have h10:=at5 (kd:=10) (by omega) fx.sm (by omega)
 have h9:=at5 (kd:=9) (by omega) fx.sm (by omega)
 have h9':=at5 (kd:=9) (by omega) fe.sm (by omega)
 have h6:=atm (kd:=6) (by omega) (d:=201) h9' h9 (by omega)
 have:=azY (at3 (a:=1) (b:=0) (by omega) (by omega)) (d:=202) ⟨h10.1,by omega⟩ ⟨fl.sm.1,by have:=fl.sm.2;omega⟩ ⟨h6.1,by omega⟩ (by omega)
 exact ⟨_,rfl,this.1.ok,by omega,hf.1,hf.2⟩
theorem pj (a b:Int) (c:BA) (d:LC) (e:LT) (f:LB):(Tm.mk a b c d e f).kind=a/\(Tm.mk a b c d e f).n=b/\(Tm.mk a b c d e f).name=c/\(Tm.mk a b c d e f).r=d/\(Tm.mk a b c d e f).kids=e/\(Tm.mk a b c d e f).sys=f:=⟨rfl,rfl,rfl,rfl,rfl,rfl⟩
theorem aIe (hk:F3 k) {t:Tm} (ht:In k t) (I:Tm×Bool×Int->OS S):axx k t I=I (awA t):=by
 have hfu:4294968296<=k:=hk
 simp only [axx,az9,ag hk.fu,ar,amv ht.1 ht.2.1 ht.dep]
 unfold awA
 by_cases h0:bw t=0
 case neg=>rw [dj h0,aqD,ae,if_pos h0];rfl
 rw [h0,show (!((0:Int)==0))=false from rfl,n3,if_neg (by simp)]
 have ft:Fm t:=⟨ht.1,h0⟩
 by_cases h14:t.kind=14
 case neg=>rw [beq_false_of_ne h14,aqD,ae,if_neg (fun h=>h14 h.1)];rfl
 rw [h14,show (!((14:Int)==14))=false from rfl,n3]
 obtain ⟨g,a,hkd⟩:=I8 (E5 ft h14 (n:=2) rfl)
 obtain ⟨g0,g1⟩:=KQ hkd
 obtain ⟨d0,d1⟩:=EC hkd
 have fg:Fm g:=ft.kid (by grind)
 have fa:Fm a:=ft.kid (by grind)
 have hp:=ft.r14 h14
 rw [g0,an4,d0,d1]
 by_cases h16:g.kind=16
 case neg=>rw [beq_false_of_ne h16,aqD,ae,if_neg (fun h=>h16 h.2)];rfl
 rw [h16,show (!((16:Int)==16))=false from rfl,n3,vU t ht.1 _ ht.2.1,if_pos ⟨rfl,rfl⟩]
 simp only [g0,g1,an4]
 generalize hphi:t.r=phi at hp
 obtain ⟨x1,x2,x3,x4,x5,x6⟩:=a
 simp only [pj x1 x2 x3 x4 x5 x6]
 rw [aH1 hk fg h16 fa hp]
 unfold awz
 dsimp only
 obtain ⟨fB,sB,lB⟩:=aAK hk fg h16 fa hp
 generalize auY g phi (Tm.mk x1 x2 x3 x4 x5 x6)=B at fB sB lB ⊢
 obtain ⟨st,⟨y1,y2,y3,y4,y5,y6⟩,c0⟩:=B
 dsimp only at fB sB lB ⊢
 simp only [pj y1 y2 y3 y4 y5 y6]
 rw [vZ hk (fun _=>fg.isIn hk)]
 have gG:GN (mM c0 (an8 0 [⟨0,0⟩] g)).1:=ayc fg h16 Qz (aBA (by decide))
 generalize mM c0 (an8 0 [⟨0,0⟩] g)=G at gG ⊢
 obtain ⟨f1,hG,lG,hone⟩:=aBc gG
 have i1:=fB.sm.1.isIn hk (by omega)
 have main: ∀ {z1 z2:Int} {z3:BA} {z4:LC} {z5:LT} {z6:LB},Tm.mk z1 z2 z3 z4 z5 z6=asR G.1.kids->
   (avz k G.1.sys G.2 phi x1 x2 x3 x4 x5 x6 st y1 y2 y3 y4 y5 y6 z1 z2 z3 z4 z5 z6 fun r10=>avy k r10.2 phi x1 x2 x3 x4 x5 x6 st y1 y2 y3 y4 y5 y6 z1 z2 z3 z4 z5 z6 fun r11=>auQ k I t (c0,st,y1,y2,y3,y4,y5,y6) (Tm.mk x1 x2 x3 x4 x5 x6) G k r11.2 z1 z2 z3 z4 z5 z6 [] 0 r10.1 r11.1)=
    (fun q:Tm×Int=>I ((dM q.2 q.1).1,(dM q.2 q.1).2==0,(dM q.2 q.1).2)) (.mk 17 0 alH [] [.mk 15 0 alH [] [asR G.1.kids,Tm.mk y1 y2 y3 y4 y5 y6] ((asb phi (fun c=>mM c (wA 0 1 (Tm.mk y1 y2 y3 y4 y5 y6))) (ark (wsF phi (Tm.mk x1 x2 x3 x4 x5 x6) (Tm.mk y1 y2 y3 y4 y5 y6) (asR G.1.kids) st) G.2 G.1.sys).2).1++(ark (auc (Tm.mk y1 y2 y3 y4 y5 y6)) (asb phi (fun c=>mM c (wA 0 1 (Tm.mk y1 y2 y3 y4 y5 y6))) (ark (wsF phi (Tm.mk x1 x2 x3 x4 x5 x6) (Tm.mk y1 y2 y3 y4 y5 y6) (asR G.1.kids) st) G.2 G.1.sys).2).2 (G.1.sys.zip (ark (wsF phi (Tm.mk x1 x2 x3 x4 x5 x6) (Tm.mk y1 y2 y3 y4 y5 y6) (asR G.1.kids) st) G.2 G.1.sys).1)).1)] ((G.1.sys.zip (ark (wsF phi (Tm.mk x1 x2 x3 x4 x5 x6) (Tm.mk y1 y2 y3 y4 y5 y6) (asR G.1.kids) st) G.2 G.1.sys).1).map awT),(ark (auc (Tm.mk y1 y2 y3 y4 y5 y6)) (asb phi (fun c=>mM c (wA 0 1 (Tm.mk y1 y2 y3 y4 y5 y6))) (ark (wsF phi (Tm.mk x1 x2 x3 x4 x5 x6) (Tm.mk y1 y2 y3 y4 y5 y6) (asR G.1.kids) st) G.2 G.1.sys).2).2 (G.1.sys.zip (ark (wsF phi (Tm.mk x1 x2 x3 x4 x5 x6) (Tm.mk y1 y2 y3 y4 y5 y6) (asR G.1.kids) st) G.2 G.1.sys).1)).2):=by
  intro z1 z2 z3 z4 z5 z6 hz
  rw [<-hz] at f1
  rw [aIO hk fa fB f1 hp sB lB hG lG,<-hz]
  have hws:=aDv (phi:=phi) (st:=st) (c:=G.2) hk fa fB f1 hp sB lB hG
  have hwl:(ark (wsF phi (Tm.mk x1 x2 x3 x4 x5 x6) (Tm.mk y1 y2 y3 y4 y5 y6) (Tm.mk z1 z2 z3 z4 z5 z6) st) G.2 G.1.sys).1.length=G.1.sys.length:=aur
  generalize ark (wsF phi (Tm.mk x1 x2 x3 x4 x5 x6) (Tm.mk y1 y2 y3 y4 y5 y6) (Tm.mk z1 z2 z3 z4 z5 z6) st) G.2 G.1.sys=ws at hws hwl ⊢
  rw [aIL hk i1]
  have fU: ∀c,FN (mM c (wA 0 1 (Tm.mk y1 y2 y3 y4 y5 y6))).1:=fun c=>asl (by omega) (by omega) fB.sm.1.ok
  obtain ⟨w1,w2⟩:=awX (F:=fun c=>mM c (wA 0 1 (Tm.mk y1 y2 y3 y4 y5 y6))) hp (n:=20000) (fun c=>⟨(fU c).sm.1,by have:=(fU c).sm.2;omega⟩) ws.2
  generalize asb phi (fun c=>mM c (wA 0 1 (Tm.mk y1 y2 y3 y4 y5 y6))) ws.2=W at w1 w2 ⊢
  have hzip: ∀q∈G.1.sys.zip ws.1,q.1∈G.1.sys/\q.2∈ws.1:=fun q hq=>⟨(List.of_mem_zip hq).1,(List.of_mem_zip hq).2⟩
  have key:=aGR (z1:=z1) (z2:=z2) (z3:=z3) (z4:=z4) (z5:=z5) (z6:=z6) hk I (r3:=t) (x4:=Tm.mk x1 x2 x3 x4 x5 x6) (r6:=(c0,st,y1,y2,y3,y4,y5,y6)) (r8:=G) (a1:=Tm.mk y1 y2 y3 y4 y5 y6) rfl fB.sm.1.ok i1 hG lG (ws:=ws.1) (fun w hw=>(hws w hw).1.isIn hk (by omega)) hwl
   (END:=fun pa sy c=>ly k (.mk 17 0 alH [] [.mk 15 0 alH [] [Tm.mk z1 z2 z3 z4 z5 z6,Tm.mk y1 y2 y3 y4 y5 y6] sy] pa) c fun r33=>I (r33.1,r33.2.1,r33.2.2.1)) (fun m c pa sy=>by
    have:=akb (l:=G.1.sys) (p:=G.1.sys) (by simp)
    simp only [auQ,aw3,this,n3,ag hk.fu,ar,JM])
   G.1.sys [] ws.1 [] [] W.1 k W.2 rfl rfl rfl (by omega) rfl (by omega)
  refine alQ ?_ (key.trans ?_)
  ·rfl
  rw [arU]
  dsimp only
  generalize hZ:ark (auc (Tm.mk y1 y2 y3 y4 y5 y6)) W.2 (G.1.sys.zip ws.1)=Z
  have zq: ∀y∈Z.1,∃t,y.kids=[t]/\OkT t/\am t<=299/\aq y.face/\y.face.length<1073741824:=by
   rw [<-hZ]
   exact au7 fun q hq c=>aA7 fB.sm.1.ok (hws q.2 (hzip q hq).2).1.ok (hG q.1 (hzip q hq).1).2.2.1.ok (G9 (hG q.1 (hzip q hq).1).2.2.2) c
  have zl:Z.1.length=(G.1.sys.zip ws.1).length:=by grind [aur]
  have pq: ∀y∈(G.1.sys.zip ws.1).map awT,∃t,y.kids=[t]/\OkT t/\am t<=301/\aq y.face/\y.face.length<1073741824:=fun y hy=>by
   obtain ⟨q,hq,rfl⟩:=art.1 hy
   obtain ⟨h1,h2⟩:=hws q.2 (hzip q hq).2
   have r:=G9 (hG q.1 (hzip q hq).1).2.2.2
   refine ⟨_,rfl, ?_, ?_,r.1,r.2⟩
   ·unfold tmK;rw [OkT,aZ,aZ,ba];exact ⟨⟨by unfold aG;omega,by unfold aG;omega,by decide,(fun c hc=>by cases hc),by simp,by simp,by simp⟩,⟨h1.ok,trivial⟩,trivial⟩
   grind [tmK,am,aH,aO]
  obtain ⟨o1,o2⟩:=ayJ (l:=W.1++Z.1) (n:=299) fun y hy=>by
   rcases arH.1 hy with hy|hy
   ·obtain ⟨t,q1,q2,q3,q4,q5⟩:=w1 y hy;exact ⟨t,q1,q2.ok,q3,q4,q5⟩
   grind
  obtain ⟨o3,o4⟩:=ayJ pq
  have hzl:(G.1.sys.zip ws.1).length<=10000:=by grind
  have b1:=f1.sm;have b2:=fB.sm
  refine azT hk ?_ ?_ _
  ·rw [OkT,aZ,aZ,OkT,aZ,aZ,aZ]
   exact ⟨⟨by unfold aG;omega,by unfold aG;omega,by decide,(fun c hc=>by cases hc),by simp,by simp,by grind⟩,⟨⟨⟨by unfold aG;omega,by unfold aG;omega,by decide,(fun c hc=>by cases hc),by simp,by simp,by grind⟩,⟨b1.1.ok,b2.1.ok,trivial⟩,o1⟩,trivial⟩,o3⟩
  grind [am,aH]
 rcases hone with ⟨e1,e2⟩|⟨e1,e2⟩
 ·have gk:af G.1.kids 0=some (asR G.1.kids):=by rw [e2];rfl
  rw [e1,show ((((1:Nat):Int))==1)=true from rfl,ae,gk,an4]
  generalize hz:asR G.1.kids=z at main ⊢
  obtain ⟨z1,z2,z3,z4,z5,z6⟩:=z
  grind [pj]
 ·rw [e1,show ((((0:Nat):Int))==1)=false from rfl,n3]
  exact main e2.symm
theorem azt {t:Tm} (h:t.kids.length=3): ∃a b c,t.kids=[a,b,c]:=by
 match hk:t.kids,h with
 |[a,b,c],_=>simp
def atL (q:Tm×Int):Tm×Bool×Int:=((dM q.2 q.1).1,(dM q.2 q.1).2==0,(dM q.2 q.1).2)
def trO (t:Tm):Tm×Bool×Int:=
 if bw t≠0 then (noT,false,bw t) else
 if t.kind≠14 then (noT,false,0) else
 let l:=t.kids.getD 0 noT
 let a:=t.kids.getD 1 noT
 let k0:=l.kids.getD 0 noT
 let k1:=l.kids.getD 1 noT
 if l.kind=3\/l.kind=19 then atL (a,0) else
 if l.kind=4 then atL (tPi t.r k0 k1 a) else
 if l.kind=7 then atL (az6 t.r k0 k1 a) else
 if l.kind=11 then atL (az4 t.r k0 k1 (l.kids.getD 2 noT) a) else
 if l.kind=23 then h_ t else
 if l.kind=16 then awA t else (noT,false,0)
theorem aIE (hk4:F4 k) {t:Tm} (ht:In k t) (I:Tm×Bool×Int->OS S):axZ k t I=I (trO t):=by
 have hk:=hk4.f3
 have hfu:4294968296<=k:=hk
 simp only [axZ,ag hk.fu,ar,amv ht.1 ht.2.1 ht.dep]
 unfold trO
 by_cases h0:bw t=0
 case neg=>rw [dj h0,aqD,ae,if_pos h0];rfl
 rw [h0,show (!((0:Int)==0))=false from rfl,n3,if_neg (by simp)]
 have ft:Fm t:=⟨ht.1,h0⟩
 by_cases h14:t.kind=14
 case neg=>rw [beq_false_of_ne h14,aqD,ae,if_pos h14];rfl
 rw [h14,show (!((14:Int)==14))=false from rfl,n3,if_neg (by simp)]
 obtain ⟨l,a,hkd⟩:=I8 (E5 ft h14 (n:=2) rfl)
 obtain ⟨g0,g1⟩:=KQ hkd
 obtain ⟨d0,d1⟩:=EC hkd
 have fl:Fm l:=ft.kid (by grind)
 have fa:Fm a:=ft.kid (by grind)
 have hp:=ft.r14 h14
 rw [vU t ht.1 _ ht.2.1]
 simp only [g0,g1,an4,d0,d1]
 have dn:=fun {x:Tm} {c:Int} (hx:In k x) (g:Tm×Bool×Int->OS S)=>Ry hk (c:=c) hx (fun r=>g (r.1,r.2.1,r.2.2.1))
 generalize hphi:t.r=phi at hp
 obtain ⟨x1,x2,x3,x4,x5,x6⟩:=a
 simp only [pj x1 x2 x3 x4 x5 x6]
 by_cases h3:l.kind=3
 ·rw [h3,show ((3:Int)==3)=true from rfl,ae,if_pos (.inl rfl),dn (fa.isIn hk)];rfl
 rw [beq_false_of_ne h3,n3]
 by_cases h19:l.kind=19
 ·rw [h19,show ((19:Int)==19)=true from rfl,ae,if_pos (.inr rfl),dn (fa.isIn hk)];rfl
 rw [beq_false_of_ne h19,n3,if_neg (fun h=>h.elim h3 h19)]
 by_cases h4:l.kind=4
 ·obtain ⟨k0,k1',hb⟩:=I8 (E5 fl h4 (n:=2) rfl)
  obtain ⟨e0,e1⟩:=EC hb
  rw [h4,show ((4:Int)==4)=true from rfl,ae,if_pos rfl,e0,e1]
  obtain ⟨ks,c,q1,q2,q3⟩:=aDg (phi:=phi) hk4 hb (fl.kid (by grind)) (fl.kid (by grind)) fa hp (fun r7=>ly k (Tm.mk r7.1 r7.2.1 r7.2.2.1 [] r7.2.2.2.1 []) r7.2.2.2.2 fun r8=>I (r8.1,r8.2.1,r8.2.2.1))
  rw [q1,<-q2]
  exact dn q3 I
 rw [beq_false_of_ne h4,n3,if_neg h4]
 by_cases h7:l.kind=7
 ·obtain ⟨k0,k1',hb⟩:=I8 (E5 fl h7 (n:=2) rfl)
  obtain ⟨e0,e1⟩:=EC hb
  rw [h7,show ((7:Int)==7)=true from rfl,ae,if_pos rfl,e0,e1]
  obtain ⟨ks,c,q1,q2,q3⟩:=aDi (phi:=phi) hk4 hb (fl.kid (by grind)) (fl.kid (by grind)) fa hp (fun r7=>ly k (Tm.mk r7.1 r7.2.1 r7.2.2.1 [] r7.2.2.2.1 []) r7.2.2.2.2 fun r8=>I (r8.1,r8.2.1,r8.2.2.1))
  rw [q1,<-q2]
  exact dn q3 I
 rw [beq_false_of_ne h7,n3,if_neg h7]
 by_cases h11:l.kind=11
 ·obtain ⟨k0,kl,kr,hb⟩:=azt (E5 fl h11 (n:=3) rfl)
  have e0:l.kids.getD 0 noT=k0:=by grind
  have e1:l.kids.getD 1 noT=kl:=by grind
  have e2:l.kids.getD 2 noT=kr:=by simp_all
  rw [h11,show ((11:Int)==11)=true from rfl,ae,if_pos rfl,e0,e1,e2]
  obtain ⟨ks,c,q1,q2,q3⟩:=aDf (phi:=phi) hk hb (fl.kid (by grind)) (fl.kid (by grind)) (fl.kid (by grind)) fa hp (fun r7=>ly k (Tm.mk r7.1 r7.2.1 r7.2.2.1 [] r7.2.2.2.1 []) r7.2.2.2.2 fun r8=>I (r8.1,r8.2.1,r8.2.2.1))
  rw [q1,<-q2]
  exact dn q3 I
 rw [beq_false_of_ne h11,n3,if_neg h11]
 by_cases h23:l.kind=23
 ·grind [ae,ap_]
 rw [beq_false_of_ne h23,n3,if_neg h23]
 by_cases h16:l.kind=16
 ·grind [ae,aIe]
 rw [beq_false_of_ne h16,n3,if_neg h16]
 rfl
def auu (f:LC):Bool:=decide (f=[⟨0,0⟩])
def auj (l:LB):Option (Br Tm):=l.find? fun b=>auu b.face
def atU (r:LC):Int:=if r.length=0 then 0 else if auu r then 1 else-1
theorem aCz {f:LC} (h:f.length≠1):auu f=false:=by
 unfold auu
 exact decide_eq_false fun e=>h (by rw [e];rfl)
theorem aCA (c:Cl):auu [c]=((c.pos==0)&&((c.neg==0)&&true)):=by
 unfold auu
 obtain ⟨p,n⟩:=c
 by_cases h1:p=0
 ·by_cases h2:n=0
  ·subst h1;subst h2;rfl
  ·rw [decide_eq_false (fun h=>by injection h with h;injection h with _ h;exact h2 h),beq_false_of_ne h2,Bool.false_and,Bool.and_false]
 ·rw [decide_eq_false (fun h=>by injection h with h;injection h with h _;exact h1 h),beq_false_of_ne h1,Bool.false_and]
theorem azS (r:LC) (I:Int->OS S):aW k r I=I (atU r):=by
 simp only [aW]
 unfold atU
 match r with
 |[]=>rfl
 |[c]=>
  rw [show ((([c]:LC).length:Int)==0)=false from rfl,n3,show ((([c]:LC).length:Int)==1)=true from rfl,ae,show af [c] 0=some c from rfl,an4,<-aCA,if_neg (by simp)]
  cases auu [c]<;>rfl
 |c::d::r=>
  rw [beq_false_of_ne (by simp;omega),n3,beq_false_of_ne (by simp;omega),n3,if_neg (by simp),aCz (by simp)]
  rfl
theorem aIG (b:Br Tm) (I:Bool->OS S):cW k b I=I (auu b.face):=by
 simp only [cW]
 match h:b.face with
 |[]=>rfl
 |[c]=>rw [show ((([c]:LC).length:Int)==1)=true from rfl,ae,show af [c] 0=some c from rfl,an4,<-aCA]
 |c::d::r=>rw [beq_false_of_ne (by simp;omega),n3,aCz (by simp)]
theorem aGY (hk:Fu k) (I:Int->OS S) {l:LB} (hl:l.length<4611686018427387904):
  ∀ (r p:LB) (m:Nat),l=p++r->r.length<m-> ∃i,av4 k I l m (p.length:Int)=I i/\(i<0/\auj r=none\/0<=i/\ ∃b,af l i=some b/\auj r=some b):=by
 intro r
 induction r with
 |nil=>
  intro p m h hm
  obtain ⟨m,rfl,hm'⟩:=amr hm
  refine ⟨-1, ?_,.inl ⟨by omega,rfl⟩⟩
  simp only [av4,cm,akb h,n3]
 |cons x r ih=>
  intro p m h hm
  obtain ⟨m,rfl,hm'⟩:=amr hm
  obtain ⟨e1,e2,e3,e4⟩:=apy h (by omega)
  simp only [av4,cm,e1,ae,e2,an4,ag hk,aIG,e3]
  cases hx:auu x.face with
  |true=>
   refine ⟨p.length,by rw [ae],.inr ⟨by omega,x,e2, ?_⟩⟩
   unfold auj;rw [List.find?_cons_of_pos (by exact hx)]
  |false=>
   obtain ⟨i,i1,i2⟩:=ih (p++[x]) m e4 hm'
   refine ⟨i,by rw [n3];exact i1, ?_⟩
   have:auj (x::r)=auj r:=by unfold auj;rw [List.find?_cons_of_neg (by rw [hx];decide)]
   rw [this];exact i2
theorem aIH (hk:F3 k) {l:LB} (hl:l.length<=20000) (I:Int->OS S): ∃i,cS k l I=I i/\(i<0/\auj l=none\/0<=i/\ ∃b,af l i=some b/\auj l=some b):=by
 have hfu:4294968296<=k:=hk
 obtain ⟨i,h1,h2⟩:=aGY hk.fu (fun r1=>I r1) (l:=l) (by omega) l [] k rfl (by omega)
 refine ⟨i, ?_,h2⟩
 simp only [cS,ag hk.fu,cP,aAn]
 exact h1
theorem Fm.parts {t:Tm} (h:Fm t): ∀b∈t.sys,(b.kids.length:Int)=cz t.kind:=fun b hb=>by
 have ho:=h.own
 obtain ⟨kd,n,nm,r,ks,sys⟩:=t
 have hb:b∈sys:=hb
 by_cases hp:cz kd=0
 ·have:sys.length=0:=by
   have ho:((_&&(_&&(_&&decide (cz kd=0->sys.length=0))))&&_)=true:=ho
   simp only [anZ,decide_eq_true_eq] at ho
   exact ho.1.2.2.2 hp
  rw [atc.1 this] at hb;cases hb
 ·have hk:kd=16\/kd=15\/kd=17\/kd=18:=by
   unfold cz at hp
   split at hp
   ·rename_i h;exact .inl h
   split at hp
   ·rename_i h;exact .inr h
   ·exact absurd rfl hp
  have key:sys.all (bX kd 24)=true:=by
   rcases hk with rfl|rfl|rfl|rfl
   ·have ho:(_&&(sys.all (bX 16 24)&&_))=true:=ho
    simp only [anZ] at ho;exact ho.2.1
   ·have ho:(_&&(sys.all (bX 15 24)&&_))=true:=ho
    simp only [anZ] at ho;exact ho.2.1
   ·have ho:(_&&(sys.all (bX 17 24)&&_))=true:=ho
    simp only [anZ] at ho;exact ho.2.1
   ·have ho:(_&&(sys.all (bX 18 24)&&_))=true:=ho
    simp only [anZ] at ho;exact ho.2.1
  have:=ars.1 key b hb
  unfold bX at this
  simp only [anZ,decide_eq_true_eq] at this
  exact this.1
theorem aDq {l:LB} {b:Br Tm} (h:auj l=some b):b∈l:=List.mem_of_find?_eq_some h
def asN (t:Tm):Tm×Bool×Int:=match auj t.sys with
 |none=>(noT,false,0)
 |some b=>if t.kind=15 then ((tE (an8 0 [⟨0,0⟩] (AK b))).1,true,(tE (an8 0 [⟨0,0⟩] (AK b))).2)
  else if t.kind=18 then (tmK 6 [tmK 9 [AK b],t.kids.getD 0 noT],true,0)
  else if t.kind=16\/t.kind=17 then (AK b,true,0) else (noT,false,0)
theorem aH0 (hk:F3 k) {t:Tm} (ft:Fm t) (I:Tm×Bool×Int->OS S):aJ k t 0 I=I (asN t):=by
 have hz:=ft.siz
 have hl:t.sys.length<=20000:=by
  have: ∀ {l:LB},(∀b∈l,(b.kids.length:Int)=cz t.kind)->l≠[]->cz t.kind≠0->l.length<=aI l:=by
   intro l
   induction l with
   |nil=>intro _ h;exact absurd rfl h
   |cons b l ih=>
    intro hb _ hp
    have h1:=hb b (by simp)
    have h2:1<=ay b.kids:=by
     cases hk:b.kids with
     |nil=>rw [hk] at h1;exact absurd h1.symm hp
     |cons x r=>rw [ay];have:=mB x;omega
    obtain ⟨f,ks⟩:=b
    have h2:1<=ay ks:=h2
    rw [aI,fG,aq5]
    by_cases hn:l=[]
    ·subst hn;simp;omega
    ·have:=ih (fun b hb'=>hb b (by simp [hb'])) hn hp;omega
  by_cases hn:t.sys=[]
  ·rw [hn];simp
  ·have hp:cz t.kind≠0:=by
    intro h0
    cases hs:t.sys with
    |nil=>exact hn hs
    |cons b l=>
     have ho:=ft.own
     obtain ⟨kd,n,nm,r,ks,sys⟩:=t
     have ho:((_&&(_&&(_&&decide (cz kd=0->sys.length=0))))&&_)=true:=ho
     simp only [anZ,decide_eq_true_eq] at ho
     have:=ho.1.2.2.2 h0
     have hs:sys=b::l:=hs
     rw [hs] at this;cases this
   have h1:=this ft.parts hn hp
   have h2:aI t.sys+1<=au t:=by cases t;rw [au];simp only [Tm.sys];omega
   omega
 obtain ⟨i,h1,h2⟩:=aIH hk hl (fun r1=>ab (decide ((r1:Int)<0)) (I (noT,false,0)) (sf (af t.sys r1) fun x2=>ab (t.kind==15) (sf (af x2.kids 0) fun x3=>JI k x3 0 fun r4=>I (r4.1,true,r4.2)) (ab (t.kind==18) (sf (af x2.kids 0) fun x5=>sf (af t.kids 0) fun x7=>I (tmK 6 [tmK 9 [x5],x7],true,0)) (ab (t.kind==16) (sf (af x2.kids 0) fun x9=>I (x9,true,0)) (ab (t.kind==17) (sf (af x2.kids 0) fun x10=>I (x10,true,0)) (I (noT,false,0)))))))
 simp only [aJ,ag hk.fu,ar,zc]
 refine alQ ?_ (h1.trans ?_)
 ·rfl
 unfold asN
 rcases h2 with ⟨h2,h3⟩|⟨h2,b,h3,h4⟩
 ·rw [h3,decide_eq_true h2,ae]
 ·rw [h4,decide_eq_false (by omega),n3,h3,an4]
  have hb:=aDq h4
  have hp:=ft.parts b hb
  have fb:t.kind=15\/t.kind=16\/t.kind=17\/t.kind=18->af b.kids 0=some (AK b)/\Fm (AK b):=fun hkd=>by
   have hp':cz t.kind≠0:=by rcases hkd with h|h|h|h<;>rw [h]<;>decide
   cases hk:b.kids with
   |nil=>rw [hk] at hp;exact absurd hp.symm hp'
   |cons x r=>
    have e:AK b=x:=by unfold AK;rw [hk];rfl
    rw [e]
    exact ⟨rfl,ft.brk hb (by rw [hk];simp)⟩
  dsimp only
  by_cases k15:t.kind=15
  ·obtain ⟨e0,f0⟩:=fb (.inl k15)
   rw [k15,show ((15:Int)==15)=true from rfl,ae,if_pos rfl,e0,an4,vZ hk (fun _=>f0.isIn hk)]
   rfl
  rw [beq_false_of_ne k15,n3,if_neg k15]
  by_cases k18:t.kind=18
  ·obtain ⟨e0,f0⟩:=fb (.inr (.inr (.inr k18)))
   obtain ⟨a,ha⟩: ∃a,t.kids=[a]:=by
    have:=E5 ft k18 (n:=1) rfl
    match h:t.kids,this with
    |[a],_=>exact ⟨a,rfl⟩
   rw [k18,show ((18:Int)==18)=true from rfl,ae,if_pos rfl,e0,an4,ha]
   rfl
  rw [beq_false_of_ne k18,n3,if_neg k18]
  by_cases k16:t.kind=16
  ·obtain ⟨e0,f0⟩:=fb (.inr (.inl k16))
   rw [k16,show ((16:Int)==16)=true from rfl,ae,if_pos (.inl rfl),e0,an4]
  rw [beq_false_of_ne k16,n3]
  by_cases k17:t.kind=17
  ·obtain ⟨e0,f0⟩:=fb (.inr (.inr (.inl k17)))
   rw [k17,show ((17:Int)==17)=true from rfl,ae,if_pos (.inr rfl),e0,an4]
  rw [beq_false_of_ne k17,n3,if_neg (fun h=>h.elim k16 k17)]
abbrev kd0 (t:Tm):Tm:=t.kids.getD 0 noT
abbrev kd1 (t:Tm):Tm:=t.kids.getD 1 noT
abbrev kd2 (t:Tm):Tm:=t.kids.getD 2 noT
abbrev kd3 (t:Tm):Tm:=t.kids.getD 3 noT
abbrev kd4 (t:Tm):Tm:=t.kids.getD 4 noT
theorem arL {t:Tm} {n i:Nat} (h:t.kids.length=n) (hi:i<n):af t.kids (i:Int)=some (t.kids.getD i noT)/\t.kids.getD i noT∈t.kids:=by
 have hl:i<t.kids.length:=by omega
 have e:t.kids.getD i noT=t.kids[i]:=by rw [List.getD_eq_getElem?_getD,arN hl];rfl
 rw [e]
 exact ⟨by rw [pU];exact arN hl,List.getElem_mem hl⟩
theorem aAY (r:LC):atU r= -1\/atU r=0\/atU r=1:=by
 unfold atU
 split
 ·exact .inr (.inl rfl)
 split
 ·exact .inr (.inr rfl)
 ·exact .inl rfl
def aw0 (t:Tm):Tm×Bool×Int:=
 if atU t.r=0 then (kd1 t,true,0) else if atU t.r=1 then (kd2 t,true,0) else
 if (kd0 t).kind=12 then ((tE (an8 0 t.r (kd0 (kd0 t)))).1,true,(tE (an8 0 t.r (kd0 (kd0 t)))).2) else (noT,false,0)
theorem Fm.r13 {t:Tm} (h:Fm t) (hk:t.kind=13):RF t.r:=by
 have ho:=h.own
 obtain ⟨kd,n,nm,r,ks,sys⟩:=t
 have hk:kd=13:=hk
 subst hk
 have ho:(_&&(ary r&&_))=true:=ho
 simp only [anZ] at ho
 exact (atQ (h.ok.no.2.2.2.1)).1 ho.2.1
theorem aHX (hk:F3 k) {t:Tm} (ft:Fm t) (hkd:t.kind=13) (I:Tm×Bool×Int->OS S):cA k t 0 I=I (aw0 t):=by
 have hl:=E5 ft hkd (n:=3) rfl
 obtain ⟨g0,m0⟩:=arL hl (i:=0) (by omega)
 obtain ⟨g1,_⟩:=arL hl (i:=1) (by omega)
 obtain ⟨g2,_⟩:=arL hl (i:=2) (by omega)
 simp only [cA,ag hk.fu,ar,azS]
 unfold aw0
 rcases aAY t.r with h|h|h
 ·rw [h,show decide ((-1:Int)>=0)=false from rfl,n3,if_neg (by decide),if_neg (by decide)]
  simp only [Int.natCast_zero] at g0
  rw [g0,an4]
  by_cases h12:(kd0 t).kind=12
  ·rw [h12,show ((12:Int)==12)=true from rfl,ae,if_pos rfl,an4]
   have f0:=ft.kid m0
   have hl':=E5 f0 h12 (n:=1) rfl
   obtain ⟨g,m⟩:=arL hl' (i:=0) (by omega)
   simp only [Int.natCast_zero] at g
   rw [g,an4,wa hk (fun _=>(f0.kid m).isIn hk) (ft.r13 hkd)]
   rfl
  ·rw [beq_false_of_ne h12,n3,if_neg h12];rfl
 ·rw [h,show decide ((0:Int)>=0)=true from rfl,ae,if_pos rfl]
  have:su .i64 (1+0)=((1:Nat):Int):=rfl
  rw [this,g1,an4]
 ·rw [h,show decide ((1:Int)>=0)=true from rfl,ae,if_neg (by decide),if_pos rfl]
  have:su .i64 (1+1)=((2:Nat):Int):=rfl
  rw [this,g2,an4]
def auX (t:Tm):Tm×Bool:=
 if atU t.r= -1 then (noT,false) else if t.kind=21 then (tmK 20 [],true) else if atU t.r=0 then (tmK 24 [],true) else (tmK 25 [],true)
theorem aC7 (hk:F3 k) (t:Tm) (I:Tm×Bool->OS S):bA k t I=I (auX t):=by
 simp only [bA,ag hk.fu,azS,zc]
 unfold auX
 rcases aAY t.r with h|h|h
 ·rw [h,show decide ((-1:Int)<0)=true from rfl,ae,if_pos rfl];rfl
 ·rw [h,show decide ((0:Int)<0)=false from rfl,n3,if_neg (by decide)]
  by_cases h21:t.kind=21
  ·rw [h21,show ((21:Int)==21)=true from rfl,ae,if_pos rfl];rfl
  ·rw [beq_false_of_ne h21,n3,if_neg h21,show ((0:Int)==0)=true from rfl,ae,if_pos rfl];rfl
 ·rw [h,show decide ((1:Int)<0)=false from rfl,n3,if_neg (by decide)]
  by_cases h21:t.kind=21
  ·rw [h21,show ((21:Int)==21)=true from rfl,ae,if_pos rfl];rfl
  ·rw [beq_false_of_ne h21,n3,if_neg h21,show ((1:Int)==0)=false from rfl,n3,if_neg (by decide)];rfl
def awi (t:Tm):Tm×Bool:=
 if (kd3 t).kind=20 then (kd1 t,true) else if (kd3 t).kind=21 then (pap (kd3 t).r (kd2 t) (kd1 t) (kd1 t),true) else (noT,false)
theorem aHW (hk:F3 k) {t:Tm} (ft:Fm t) (hkd:t.kind=22) (I:Tm×Bool->OS S):axm k t I=I (awi t):=by
 have hl:=E5 ft hkd (n:=4) rfl
 obtain ⟨g1,_⟩:=arL hl (i:=1) (by omega)
 obtain ⟨g2,_⟩:=arL hl (i:=2) (by omega)
 obtain ⟨g3,_⟩:=arL hl (i:=3) (by omega)
 have g1:af t.kids 1=some (kd1 t):=g1
 have g2:af t.kids 2=some (kd2 t):=g2
 have g3:af t.kids 3=some (kd3 t):=g3
 simp only [axm,ag hk.fu,ar,g1,g2,g3,an4,tO]
 unfold awi
 by_cases h:(kd3 t).kind=20
 ·rw [h,show ((20:Int)==20)=true from rfl,ae,if_pos rfl]
 rw [beq_false_of_ne h,n3,if_neg h]
 by_cases h:(kd3 t).kind=21
 ·rw [h,show ((21:Int)==21)=true from rfl,ae,if_pos rfl]
 rw [beq_false_of_ne h,n3,if_neg h];rfl
def awj (t:Tm):Tm×Bool:=
 if (kd4 t).kind=24 then (kd1 t,true) else if (kd4 t).kind=25 then (kd2 t,true) else
 if (kd4 t).kind=26 then (pap (kd4 t).r (tmK 6 [kd3 t,kd0 (kd4 t)]) (kd1 t) (kd2 t),true) else (noT,false)
theorem aHZ (hk:F3 k) {t:Tm} (ft:Fm t) (hkd:t.kind=27) (I:Tm×Bool->OS S):axn k t I=I (awj t):=by
 have hl:=E5 ft hkd (n:=5) rfl
 obtain ⟨g1,_⟩:=arL hl (i:=1) (by omega)
 obtain ⟨g2,_⟩:=arL hl (i:=2) (by omega)
 obtain ⟨g3,_⟩:=arL hl (i:=3) (by omega)
 obtain ⟨g4,m4⟩:=arL hl (i:=4) (by omega)
 have g1:af t.kids 1=some (kd1 t):=g1
 have g2:af t.kids 2=some (kd2 t):=g2
 have g3:af t.kids 3=some (kd3 t):=g3
 have g4:af t.kids 4=some (kd4 t):=g4
 simp only [axn,ag hk.fu,ar,g1,g2,g3,g4,an4,tO,zc]
 unfold awj
 by_cases h:(kd4 t).kind=24
 ·rw [h,show ((24:Int)==24)=true from rfl,ae,if_pos rfl]
 rw [beq_false_of_ne h,n3,if_neg h]
 by_cases h:(kd4 t).kind=25
 ·rw [h,show ((25:Int)==25)=true from rfl,ae,if_pos rfl]
 rw [beq_false_of_ne h,n3,if_neg h]
 by_cases h:(kd4 t).kind=26
 ·have hl':=E5 (ft.kid m4) h (n:=1) rfl
  obtain ⟨g,_⟩:=arL hl' (i:=0) (by omega)
  have g:af (kd4 t).kids 0=some (kd0 (kd4 t)):=g
  rw [h,show ((26:Int)==26)=true from rfl,ae,if_pos rfl,g,an4];rfl
 rw [beq_false_of_ne h,n3,if_neg h];rfl
def aul (t:Tm):Tm×Bool×Int:=
 if t.kind=6 then (if (kd0 t).kind=5 then ((tE (ri 0 (kd0 (kd0 t)) (kd1 t))).1,true,(tE (ri 0 (kd0 (kd0 t)) (kd1 t))).2) else asN t) else
 if t.kind=9 then (if (kd0 t).kind=8 then (kd0 (kd0 t),true,0) else asN t) else
 if t.kind=10 then (if (kd0 t).kind=8 then (kd1 (kd0 t),true,0) else asN t) else
 if t.kind=13 then aw0 t else
 if t.kind=21 then ((auX t).1,(auX t).2,0) else
 if t.kind=26 then ((auX t).1,(auX t).2,0) else
 if t.kind=22 then ((awi t).1,(awi t).2,0) else
 if t.kind=27 then ((awj t).1,(awj t).2,0) else
 if t.kind=28 then (kd0 t,true,0) else
 if t.kind=14 then (kd1 t,atU t.r==1,0) else
 if t.kind=18 then (if (asN t).2.1=true then ((asN t).1,true,(asN t).2.2) else if (kd0 t).kind=17 then (kd0 (kd0 t),true,(asN t).2.2) else asN t) else asN t
theorem aEW {t:Tm} (h:t.kind=18):(asN t).2.2=0:=by
 unfold asN
 split
 ·rfl
 ·rw [if_neg (by omega),if_pos h]
theorem aHY (hk4:F4 k) {t:Tm} (ft:Fm t) (I:Tm×Bool×Int->OS S):cD k t 0 I=I (aul t):=by
 have hk:=hk4.f3
 have tot: ∀g:Tm×Bool×Int->OS S,aJ k t 0 g=g (asN t):=fun g=>aH0 hk ft g
 simp only [cD,ag hk.fu,ar,tot]
 unfold aul
 by_cases h6:t.kind=6
 ·have hl:=E5 ft h6 (n:=2) rfl
  obtain ⟨g0,m0⟩:=arL hl (i:=0) (by omega)
  obtain ⟨g1,m1⟩:=arL hl (i:=1) (by omega)
  have g0:af t.kids 0=some (kd0 t):=g0
  have g1:af t.kids 1=some (kd1 t):=g1
  rw [if_pos h6,h6,show ((6:Int)==6)=true from rfl,ae,g0,an4]
  by_cases h5:(kd0 t).kind=5
  ·have hl':=E5 (ft.kid m0) h5 (n:=1) rfl
   obtain ⟨g,m⟩:=arL hl' (i:=0) (by omega)
   have g:af (kd0 t).kids 0=some (kd0 (kd0 t)):=g
   rw [if_pos h5,h5,show ((5:Int)==5)=true from rfl,ae,an4,g,an4,g1,an4,Hf hk4 (fun _=>⟨((ft.kid m0).kid m).isIn hk,(ft.kid m1).isIn hk⟩)]
   rfl
  ·rw [if_neg h5,beq_false_of_ne h5,n3]
 rw [if_neg h6,beq_false_of_ne h6,n3]
 by_cases h9:t.kind=9
 ·have hl:=E5 ft h9 (n:=1) rfl
  obtain ⟨g0,m0⟩:=arL hl (i:=0) (by omega)
  have g0:af t.kids 0=some (kd0 t):=g0
  rw [if_pos h9,h9,show ((9:Int)==9)=true from rfl,ae,g0,an4]
  by_cases h8:(kd0 t).kind=8
  ·have hl':=E5 (ft.kid m0) h8 (n:=2) rfl
   obtain ⟨g,_⟩:=arL hl' (i:=0) (by omega)
   have g:af (kd0 t).kids 0=some (kd0 (kd0 t)):=g
   rw [if_pos h8,h8,show ((8:Int)==8)=true from rfl,ae,an4,show su .i64 ((9:Int)-9)=0 from rfl,g,an4]
  ·rw [if_neg h8,beq_false_of_ne h8,n3]
 rw [if_neg h9,beq_false_of_ne h9,n3]
 by_cases h10:t.kind=10
 ·have hl:=E5 ft h10 (n:=1) rfl
  obtain ⟨g0,m0⟩:=arL hl (i:=0) (by omega)
  have g0:af t.kids 0=some (kd0 t):=g0
  rw [if_pos h10,h10,show ((10:Int)==10)=true from rfl,ae,g0,an4]
  by_cases h8:(kd0 t).kind=8
  ·have hl':=E5 (ft.kid m0) h8 (n:=2) rfl
   obtain ⟨g,_⟩:=arL hl' (i:=1) (by omega)
   have g:af (kd0 t).kids 1=some (kd1 (kd0 t)):=g
   rw [if_pos h8,h8,show ((8:Int)==8)=true from rfl,ae,an4,show su .i64 ((10:Int)-9)=1 from rfl,g,an4]
  ·rw [if_neg h8,beq_false_of_ne h8,n3]
 rw [if_neg h10,beq_false_of_ne h10,n3]
 by_cases h13:t.kind=13
 ·rw [if_pos h13,h13,show ((13:Int)==13)=true from rfl,ae,aHX hk ft h13]
 rw [if_neg h13,beq_false_of_ne h13,n3]
 by_cases h21:t.kind=21
 ·rw [if_pos h21,h21,show ((21:Int)==21)=true from rfl,ae,aC7 hk]
 rw [if_neg h21,beq_false_of_ne h21,n3]
 by_cases h26:t.kind=26
 ·rw [if_pos h26,h26,show ((26:Int)==26)=true from rfl,ae,aC7 hk]
 rw [if_neg h26,beq_false_of_ne h26,n3]
 by_cases h22:t.kind=22
 ·rw [if_pos h22,h22,show ((22:Int)==22)=true from rfl,ae,aHW hk ft h22]
 rw [if_neg h22,beq_false_of_ne h22,n3]
 by_cases h27:t.kind=27
 ·rw [if_pos h27,h27,show ((27:Int)==27)=true from rfl,ae,aHZ hk ft h27]
 rw [if_neg h27,beq_false_of_ne h27,n3]
 by_cases h28:t.kind=28
 ·have hl:=E5 ft h28 (n:=2) rfl
  obtain ⟨g0,_⟩:=arL hl (i:=0) (by omega)
  have g0:af t.kids 0=some (kd0 t):=g0
  rw [if_pos h28,h28,show ((28:Int)==28)=true from rfl,ae,g0,an4]
 rw [if_neg h28,beq_false_of_ne h28,n3]
 by_cases h14:t.kind=14
 ·have hl:=E5 ft h14 (n:=2) rfl
  obtain ⟨g1,_⟩:=arL hl (i:=1) (by omega)
  have g1:af t.kids 1=some (kd1 t):=g1
  rw [if_pos h14,h14,show ((14:Int)==14)=true from rfl,ae,g1,an4,azS]
 rw [if_neg h14,beq_false_of_ne h14,n3]
 by_cases h18:t.kind=18
 ·have hl:=E5 ft h18 (n:=1) rfl
  obtain ⟨g0,m0⟩:=arL hl (i:=0) (by omega)
  have g0:af t.kids 0=some (kd0 t):=g0
  rw [if_pos h18,h18,show ((18:Int)==18)=true from rfl,ae,aEW h18]
  by_cases hb:(asN t).2.1=true
  ·rw [if_pos hb,hb,ae]
  ·have hb':(asN t).2.1=false:=by simpa using hb
   rw [if_neg hb,hb',n3,g0,an4]
   by_cases h17:(kd0 t).kind=17
   ·have hl':=E5 (ft.kid m0) h17 (n:=1) rfl
    obtain ⟨g,_⟩:=arL hl' (i:=0) (by omega)
    have g:af (kd0 t).kids 0=some (kd0 (kd0 t)):=g
    rw [if_pos h17,h17,show ((17:Int)==17)=true from rfl,ae,an4,g,an4]
   ·rw [if_neg h17,beq_false_of_ne h17,n3,tot]
 rw [if_neg h18,beq_false_of_ne h18,n3]
def Ob (x:Tm):Prop:=OkT x/\am x<=300
theorem Fm.ob {x:Tm} (h:Fm x):Ob x:=⟨h.ok,by have:=h.dep;omega⟩
theorem Q2.ob {x:Tm} (h:Q2 x):Ob x:=⟨h.1.ok,by have:=h.2;omega⟩
theorem auR:Ob noT:=q2_no.ob
theorem azs {t:Tm} (ft:Fm t) (i:Nat):FN (t.kids.getD i noT):=by
 by_cases h:i<t.kids.length
 ·exact .inl (ft.kid (arL (t:=t) rfl h).2)
 ·rw [List.getD_eq_getElem?_getD,List.getElem?_eq_none (by omega)];exact .inr rfl
theorem FN.ob {x:Tm} (h:FN x):Ob x:=h.elim Fm.ob fun e=>by rw [e];exact auR
theorem aGG {t:Tm} (ft:FN t) (i:Nat):FN (t.kids.getD i noT):=by
 rcases ft with h|h
 ·exact azs h i
 ·rw [h];exact .inr (by cases i<;>rfl)
theorem az3 {x:Except Int Tm} (h: ∀t,x= .ok t->Q2 t):Ob (tE x).1:=by
 cases x with
 |error e=>exact auR
 |ok t=>exact (h t rfl).ob
theorem azo (n:Int) (h:0<=n/\n<=28):Ob (tmK n []):=by
 unfold tmK
 refine ⟨?_, ?_⟩
 ·rw [OkT,aZ,ba];exact ⟨⟨by unfold aG;omega,by unfold aG;omega,by decide,(fun c hc=>by cases hc),by simp,by simp,by simp⟩,trivial,trivial⟩
 ·rw [am,aH,aO];omega
theorem aEX {t:Tm} (ft:Fm t):Ob (asN t).1:=by
 unfold asN
 split
 ·exact auR
 rename_i b hb
 have hm:=aDq hb
 have fb:FN (AK b):=by
  unfold AK
  cases hk:b.kids with
  |nil=>exact .inr rfl
  |cons x r=>exact .inl (ft.brk hm (by rw [hk];simp))
 split
 ·exact az3 fun t h=>avn fb.sm.1.ok h
 split
 ·have h9:=at5 (kd:=9) (by omega) fb.sm (by omega)
  have h0:=(azs ft 0).sm
  have:=atm (kd:=6) (by omega) (d:=201) h9 ⟨h0.1,by have:=h0.2;omega⟩ (by omega)
  exact ⟨this.1.ok,arA this.2 (by omega)⟩
 split
 ·exact fb.ob
 ·exact auR
theorem aCC {r:LC} (hr:aq r/\r.length<1073741824) {x y z:Tm} {n:Nat} (hx:Sm n x/\am x<=201) (hy:FN y) (hz:FN z):Ob (pap r x y z):=by
 have:=azY hr (d:=201) hx ⟨hy.sm.1,by have:=hy.sm.2;omega⟩ ⟨hz.sm.1,by have:=hz.sm.2;omega⟩ (by omega)
 exact ⟨this.1.ok,by have:=this.2;omega⟩
theorem aA9 {x:Tm} (h:FN x):aq x.r/\x.r.length<1073741824:=⟨h.sm.1.ok.no.2.2.2.1,h.sm.1.ok.no.2.2.2.2.1⟩
theorem asJ {c:Prop} [Decidable c] {a b:Tm×Bool×Int} (ha:Ob a.1) (hb:Ob b.1):Ob (if c then a else b).1:=by
 by_cases h:c
 ·rw [if_pos h];exact ha
 ·rw [if_neg h];exact hb
theorem auO {c:Prop} [Decidable c] {a b:Tm×Bool} (ha:Ob a.1) (hb:Ob b.1):Ob (if c then a else b).1:=by
 by_cases h:c
 ·rw [if_pos h];exact ha
 ·rw [if_neg h];exact hb
theorem aAJ {t:Tm} (ft:Fm t):Ob (aul t).1:=by
 have bt:=aEX ft
 have c:=azs ft
 have cc:=fun i j=>aGG (c i) j
 have hpa:Ob (aw0 t).1:=asJ (c 1).ob (asJ (c 2).ob (asJ (az3 fun y h=>avn (cc 0 0).sm.1.ok h) auR))
 have hpt:Ob (auX t).1:=auO auR (auO (azo 20 (by omega)) (auO (azo 24 (by omega)) (azo 25 (by omega))))
 have hci:Ob (awi t).1:=auO (c 1).ob (auO (aCC (aA9 (c 3)) ⟨(c 2).sm.1,arA (c 2).sm.2 (by omega)⟩ (c 1) (c 1)) auR)
 have hsu:Ob (awj t).1:=auO (c 1).ob (auO (c 2).ob (auO (aCC (aA9 (c 4)) (atm (kd:=6) (by omega) (c 3).sm (cc 4 0).sm (by omega)) (c 1) (c 2)) auR))
 unfold aul
 exact asJ (asJ (az3 fun y h=>azK (cc 0 0).sm.1.ok (c 1).sm.1.ok h) bt) (asJ (asJ (cc 0 0).ob bt) (asJ (asJ (cc 0 1).ob bt) (asJ hpa (asJ hpt (asJ hpt (asJ hci (asJ hsu (asJ (c 0).ob (asJ (c 1).ob (asJ (asJ bt (asJ (cc 0 0).ob bt)) bt))))))))))
def avr (t:Tm):Tm×Bool×Int:=
 if bw t≠0 then (noT,false,bw t) else
 if (aul t).2.1=true then atL ((aul t).1,(aul t).2.2) else (noT,false,0)
theorem aH3 (hk4:F4 k) {t:Tm} (ht:In k t) (I:Tm×Bool×Int->OS S):axl k t I=I (avr t):=by
 have hk:=hk4.f3
 simp only [axl,ag hk.fu,ar,amv ht.1 ht.2.1 ht.dep]
 unfold avr
 by_cases h0:bw t=0
 case neg=>rw [dj h0,aqD,ae,if_pos h0];rfl
 rw [h0,show (!((0:Int)==0))=false from rfl,n3,if_neg (by simp),vU t ht.1 _ ht.2.1]
 have ft:Fm t:=⟨ht.1,h0⟩
 rw [aHY hk4 ft]
 have ob:=aAJ ft
 by_cases hb:(aul t).2.1=true
 ·rw [if_pos hb,hb,aq6,n3]
  exact azT hk ob.1 (by have:=ob.2;omega) _
 ·have hb':(aul t).2.1=false:=by simpa using hb
  rw [if_neg hb,hb',aqD,ae];rfl
theorem auB (hk:F3 k) {c a b:Int} {t:Tm} (ha:0<=a/\a<1000) (hb:0<=b/\b<1000) (h:In k t) (I:Tm×Int->OS S):arP k t a b c I=I (mM c (wA a b t)):=by
 by_cases hc:c=0
 ·subst hc
  simp only [arP,ag hk.fu,de,ar,rI,if_true]
  rw [show ((0:Int)==0)=true from rfl,aq6,n3,aiH hk h (vb:=a) (db:=b) (by omega) (by omega)]
  rfl
 grind [Hh,n9]
def auK (c:Int) (t a f y:Tm):Tm×Int:=
 (tmK 7 [t,tmK 11 [(mM c (wA 1 1 a)).1,(mM (mM c (wA 1 1 a)).2 (wA 1 0 y)).1,tmK 6 [(mM (mM (mM c (wA 1 1 a)).2 (wA 1 0 y)).2 (wA 1 0 f)).1,vN 0]]],(mM (mM (mM c (wA 1 1 a)).2 (wA 1 0 y)).2 (wA 1 0 f)).2)
theorem aIb (hk:F3 k) {c:Int} {t a f y:Tm} (ha:In k a) (hf:In k f) (hy:In k y) (I:Int×Int×BA×LT×Int->OS S):
  au2 k t a f y c I=I (7,0,alH,(auK c t a f y).1.kids,(auK c t a f y).2):=by
 simp only [au2,ag hk.fu,ar,asX,arj]
 rw [auB hk (by omega) (by omega) ha,auB hk (by omega) (by omega) hy,auB hk (by omega) (by omega) hf]
 rfl
def auG (c:Int) (t:Tm):Tm×Int:=(tmK 7 [t,tmK 4 [(mM c (wA 1 0 t)).1,tmK 11 [(mM (mM c (wA 1 0 t)).2 (wA 2 1 t)).1,vN 1,vN 0]]],(mM (mM c (wA 1 0 t)).2 (wA 2 1 t)).2)
theorem aH5 (hk:F3 k) {c:Int} {t:Tm} (h:In k t) (I:Int×Int×BA×LT×Int->OS S):
  axt k t c I=I (7,0,alH,(auG c t).1.kids,(auG c t).2):=by
 simp only [axt,ag hk.fu,ar,asX,arj]
 rw [auB hk (by omega) (by omega) h,auB hk (by omega) (by omega) h]
 rfl
def au8 (c:Int) (t a:Tm):Tm×Int:=
 let p1:=mM c (wA 1 0 a)
 let p2:=mM p1.2 (wA 1 0 a)
 let p3:=mM p2.2 (wA 2 0 t)
 let p4:=mM p3.2 (wA 2 0 a)
 let p5:=auK p4.2 p3.1 p4.1 (vN 1) (vN 0)
 let p6:=auG p5.2 p5.1
 (tmK 7 [tmK 4 [t,p1.1],tmK 4 [p2.1,p6.1]],p6.2)
def aus (t a:Tm):Except Int Tm:=al_ (tmE (au8 (alE [t,a]) t a))
theorem aDl {kd:Int} (hkd:0<=kd/\kd<=28) {n m j d:Nat} {x y z:Tm} (hx:Sm n x/\am x<=d) (hy:Sm m y/\am y<=d) (hz:Sm j z/\am z<=d) (hd:d<=290):Sm (n+m+j+1) (tmK kd [x,y,z])/\am (tmK kd [x,y,z])<=d+1:=by
 unfold tmK
 refine ⟨(Hn (kd:=kd) hkd (r:=[]) ⟨(fun c hc=>by cases hc),by simp⟩ (ks:=[x,y,z]) (sys:=[]) (n:=n+m+j) (m:=0) (fun w hw=>by
  simp at hw
  rcases hw with rfl|rfl|rfl
  ·exact ⟨hx.1.ok,by omega⟩
  ·exact ⟨hy.1.ok,by omega⟩
  ·exact ⟨hz.1.ok,by omega⟩) (by simp) (by rw [ay,ay,ay,ay];have:=hx.1.siz;have:=hy.1.siz;have:=hz.1.siz;omega) (by rw [ba];trivial) (by simp) (by rw [aO];omega) (by rw [aI];omega)).mono (by omega), ?_⟩
 grind [am,aH,aO]
theorem aA2 {c:Int} {t a f y:Tm} (ht:Sm 20000 t/\am t<=200) (ha:OkT a) (hf:OkT f) (hy:OkT y):Sm 150000 (auK c t a f y).1/\am (auK c t a f y).1<=204:=by
 have fa:=asl (c:=c) (a:=1) (b:=1) (by omega) (by omega) ha
 have fy:=asl (c:=(mM c (wA 1 1 a)).2) (a:=1) (b:=0) (by omega) (by omega) hy
 have ff:=asl (c:=(mM (mM c (wA 1 1 a)).2 (wA 1 0 y)).2) (a:=1) (b:=0) (by omega) (by omega) hf
 have v0:=at7 (n:=0) (by omega)
 have h6:=atm (kd:=6) (by omega) (d:=200) ff.sm v0 (by omega)
 have h11:=aDl (kd:=11) (by omega) (d:=201) ⟨fa.sm.1,by have:=fa.sm.2;omega⟩ ⟨fy.sm.1,by have:=fy.sm.2;omega⟩ h6 (by omega)
 have h7:=atm (kd:=7) (by omega) (d:=202) ⟨ht.1,by omega⟩ h11 (by omega)
 exact ⟨h7.1.mono (by omega),arA h7.2 (by omega)⟩
theorem aE9 {c:Int} {t:Tm} {n d:Nat} (ht:Sm n t/\am t<=d) (hd:200<=d/\d<=280):Sm (n+100000) (auG c t).1/\am (auG c t).1<=d+3:=by
 have f1:=asl (c:=c) (a:=1) (b:=0) (by omega) (by omega) ht.1.ok
 have f2:=asl (c:=(mM c (wA 1 0 t)).2) (a:=2) (b:=1) (by omega) (by omega) ht.1.ok
 have v0:=at7 (n:=0) (by omega)
 have v1:=at7 (n:=1) (by omega)
 have h11:=aDl (kd:=11) (by omega) (d:=200) f2.sm v1 v0 (by omega)
 have h4:=atm (kd:=4) (by omega) (d:=201) ⟨f1.sm.1,by have:=f1.sm.2;omega⟩ h11 (by omega)
 have h7:=atm (kd:=7) (by omega) (d:=d+2) ⟨ht.1,by omega⟩ ⟨h4.1,by omega⟩ (by omega)
 exact ⟨h7.1.mono (by omega),arA h7.2 (by omega)⟩
theorem aA0 {c:Int} {t a:Tm} {n d:Nat} (ht:Sm n t/\am t<=d) (hd:200<=d/\d<=270) (ha:OkT a):Sm (n+400000) (au8 c t a).1/\am (au8 c t a).1<=d+10:=by
 have f1:=asl (c:=c) (a:=1) (b:=0) (by omega) (by omega) ha
 have f2:=asl (c:=(mM c (wA 1 0 a)).2) (a:=1) (b:=0) (by omega) (by omega) ha
 have f3:=asl (c:=(mM (mM c (wA 1 0 a)).2 (wA 1 0 a)).2) (a:=2) (b:=0) (by omega) (by omega) ht.1.ok
 have f4:=asl (c:=(mM (mM (mM c (wA 1 0 a)).2 (wA 1 0 a)).2 (wA 2 0 t)).2) (a:=2) (b:=0) (by omega) (by omega) ha
 unfold au8
 dsimp only
 generalize mM (mM (mM (mM c (wA 1 0 a)).2 (wA 1 0 a)).2 (wA 2 0 t)).2 (wA 2 0 a)=p4 at f4 ⊢
 generalize mM (mM (mM c (wA 1 0 a)).2 (wA 1 0 a)).2 (wA 2 0 t)=p3 at f3 ⊢
 have h5:=aA2 (c:=p4.2) (t:=p3.1) (a:=p4.1) (f:=vN 1) (y:=vN 0) f3.sm f4.sm.1.ok (at7 (by omega)).1.ok (at7 (by omega)).1.ok
 generalize auK p4.2 p3.1 p4.1 (vN 1) (vN 0)=p5 at h5 ⊢
 have h6:=aE9 (c:=p5.2) h5 (by omega)
 generalize auG p5.2 p5.1=p6 at h6 ⊢
 have a1:=atm (kd:=4) (by omega) (d:=d+7) ⟨ht.1,by omega⟩ ⟨f1.sm.1,by have:=f1.sm.2;omega⟩ (by omega)
 have a2:=atm (kd:=4) (by omega) (d:=d+7) ⟨f2.sm.1,by have:=f2.sm.2;omega⟩ ⟨h6.1,by omega⟩ (by omega)
 have a7:=atm (kd:=7) (by omega) (d:=d+8) a1 a2 (by omega)
 exact ⟨a7.1.mono (by omega),by omega⟩
theorem aHS (hk:F3 k) {t a:Tm} (ht:Q2 t) (ha:Q2 a) (I:Tm×Int->OS S):axp k t a I=I (tE (aus t a)):=by
 have it:=ht.isIn hk
 have ia:=ha.isIn hk
 have hin: ∀x∈[t,a],In k x:=fun x hx=>by
  grind
 have e0:Tm.mk 1 0 alH [] [] []=vN 0:=rfl
 have e1:Tm.mk 1 1 alH [] [] []=vN 1:=rfl
 have i0:=(at7 (n:=0) (by omega)).isIn hk
 have i1:=(at7 (n:=1) (by omega)).isIn hk
 simp only [axp,ag hk.fu,ar,Re hk hin (by simp),vU t it.1 _ it.2.1,arj,asX]
 unfold aus
 have hsm:=aA0 (c:=alE [t,a]) (t:=t) (a:=a) (n:=20000) (d:=200) ht (by omega) ha.1.ok
 generalize alE [t,a]=c at hsm ⊢
 have f3:=asl (c:=(mM (mM c (wA 1 0 a)).2 (wA 1 0 a)).2) (a:=2) (b:=0) (by omega) (by omega) ht.1.ok
 have f4:=asl (c:=(mM (mM (mM c (wA 1 0 a)).2 (wA 1 0 a)).2 (wA 2 0 t)).2) (a:=2) (b:=0) (by omega) (by omega) ha.1.ok
 have h5:=aA2 (c:=(mM (mM (mM (mM c (wA 1 0 a)).2 (wA 1 0 a)).2 (wA 2 0 t)).2 (wA 2 0 a)).2) (t:=(mM (mM (mM c (wA 1 0 a)).2 (wA 1 0 a)).2 (wA 2 0 t)).1) (a:=(mM (mM (mM (mM c (wA 1 0 a)).2 (wA 1 0 a)).2 (wA 2 0 t)).2 (wA 2 0 a)).1) (f:=vN 1) (y:=vN 0) f3.sm f4.sm.1.ok (at7 (by omega)).1.ok (at7 (by omega)).1.ok
 rw [auB hk (by omega) (by omega) ia,auB hk (by omega) (by omega) ia,auB hk (by omega) (by omega) it,auB hk (by omega) (by omega) ia,e0,e1,aIb hk (f4.sm.1.isIn hk (by omega)) i1 i0]
 have k5: ∀c t a f y,Tm.mk 7 0 alH [] (auK c t a f y).1.kids []=(auK c t a f y).1:=fun _ _ _ _ _=>rfl
 have k6: ∀c t,Tm.mk 7 0 alH [] (auG c t).1.kids []=(auG c t).1:=fun _ _=>rfl
 dsimp only
 rw [k5,aH5 hk (h5.1.isIn hk (by omega))]
 dsimp only
 rw [k6]
 exact Rk (t:=(au8 c t a).1) (c:=(au8 c t a).2) hk (fun _=>hsm.1.isIn hk (by omega)) I
theorem aFN {t a:Tm} {e:Int} (h:aus t a= .error e):e≠0:=by
 grind [aus,al_,tmE,aD,lk]
theorem aIv (hk:F3 k) {t a:Tm} {c:Int} (ht:Q2 t) (ha:Q2 a) (I:Tm×Int->OS S):axV k t a c I=I (mM c (aus t a)):=by
 simp only [axV,ag hk.fu,dG,ar,rJ]
 exact Az c (fun h g=>aHS hk ht ha g) (fun e h=>aFN h) I
theorem aFM {t a y:Tm} (ht:Q2 t) (ha:OkT a) (h:aus t a= .ok y):Fm y:=by
 have hsm:=aA0 (c:=alE [t,a]) (t:=t) (a:=a) (n:=20000) (d:=200) ht (by omega) ha
 unfold aus al_ tmE at h
 by_cases hz:(au8 (alE [t,a]) t a).2=0
 ·rw [if_pos hz,aD] at h
  split at h
  ·rename_i hf
   injection h with h;subst h
   exact ⟨hsm.1.ok,hf⟩
  ·cases h
 ·rw [if_neg hz,lk] at h;cases h
def atS (a:Tm) (c:Int) (x:Br Tm):Br Tm×Int:=
 let E:=mM c (an8 0 [⟨0,0⟩] (AK x))
 let A:=mM E.2 (wA 0 1 a)
 let Q:=mM A.2 (aus (AK x) A.1)
 (⟨x.face,[E.1,tmK 14 [Q.1,idT]]⟩,Q.2)
section
variable {x1 x2:Int} {x3:BA} {x4:LC} {x5:LT} {x6 sys:LB}
theorem aIo (hk:F3 k) (fa:Fm (Tm.mk x1 x2 x3 x4 x5 x6)) (sy: ∀b∈sys,b.kids=[AK b]/\Fm (AK b)/\RX true b.face) (syl:sys.length<=20000) (I:Int×Int×BA×LT×LB×Int->OS S):
  axK k 0 x1 x2 x3 x4 x5 x6 sys I=(fun l:LB×Int=>I (16,0,alH,[Tm.mk x1 x2 x3 x4 x5 x6],l.1,l.2)) (ark (atS (Tm.mk x1 x2 x3 x4 x5 x6)) 0 sys):=by
 have hfu:4294968296<=k:=hk
 obtain ⟨q,hq⟩: ∃q,k=q+100:=⟨k-100,by omega⟩
 have hid: ∀g:Int×Int×BA×LT->OS S,axr k g=g (8,0,alH,idL):=fun g=>by rw [hq];exact aF9 q g
 generalize ha:Tm.mk x1 x2 x3 x4 x5 x6=a at fa
 simp only [axK,ag hk.fu,avB,aAg,ha,JM]
 have:=fun RET=>ax7 (S:=S) (l:=sys) (L:=fun m c i acc=>avY k RET x1 x2 x3 x4 x5 x6 sys m c i acc) (F:=atS a) (I:=RET)
  (fun m c acc _=>by
   have:=akb (l:=sys) (p:=sys) (by simp)
   simp only [avY,axd,this,n3])
  (fun m c x p r acc h hacc=>by
   obtain ⟨e1,e2,e3,_⟩:=apy h (by omega)
   have hlen:p.length<sys.length:=by rw [h];simp
   obtain ⟨q1,q2,_⟩:=sy x (by rw [h];simp)
   have hg:af x.kids 0=some (AK x):=ED (n:=0) rfl (by rw [q1];rfl)
   have fA:=asl (c:=(mM c (an8 0 [⟨0,0⟩] (AK x))).2) (a:=0) (b:=1) (by omega) (by omega) fa.ok
   simp only [avY,axd,e1,ae,e2,an4,hg,ag hk.fu,ar,azb,ha,nf,zc,e3,hid]
   rw [vZ hk (fun _=>q2.isIn hk),ajn hk (fun _=>fa.isIn hk) (by omega) (by omega),aIv hk q2.q2 fA.sm,J5 (by simp;omega)]
   rfl)
  sys [] [] k 0 rfl (by omega) rfl
 refine (this _).trans ?_
 rw [arU]
end
theorem aDr {a:Tm} (fa:Fm a) {x:Br Tm} (h:Fm (AK x)/\RX true x.face) (c:Int):awZ (atS a c x).1:=by
 have qE:Q2 (mM c (an8 0 [⟨0,0⟩] (AK x))).1:=atC fun t ht=>avn h.1.ok ht
 have fA:=asl (c:=(mM c (an8 0 [⟨0,0⟩] (AK x))).2) (a:=0) (b:=1) (by omega) (by omega) fa.ok
 have fQ:FN (mM (mM (mM c (an8 0 [⟨0,0⟩] (AK x))).2 (wA 0 1 a)).2 (aus (AK x) (mM (mM c (an8 0 [⟨0,0⟩] (AK x))).2 (wA 0 1 a)).1)).1:=arW fun t ht=>aFM h.1.q2 fA.sm.1.ok ht
 have h14:=atm (kd:=14) (by omega) (d:=200) fQ.sm ⟨id_fm.sm,id_fm.dep⟩ (by omega)
 have r:=G9 h.2
 exact ⟨_,_,rfl,qE.1,h14.1.mono (by omega),qE.2,h14.2,r.1,r.2⟩
def hcG (t:Tm):Tm×Bool×Int:=
 if bw t≠0 then (noT,false,bw t) else
 if t.kind=15/\(t.kids.getD 0 noT).kind=3 then atL (.mk 16 0 alH [] [t.kids.getD 1 noT] (ark (atS (t.kids.getD 1 noT)) 0 t.sys).1,(ark (atS (t.kids.getD 1 noT)) 0 t.sys).2)
 else ava t
theorem aIn (hk4:F4 k) {t:Tm} (ht:In k t) (h3':(t.kids.getD 0 noT).kind≠3) (I:Tm×Bool×Int->OS S):cG k t I=I (ava t):=by
 have hk:=hk4.f3
 simp only [cG,ag hk.fu,ar,amv ht.1 ht.2.1 ht.dep]
 unfold ava
 by_cases h0:bw t=0
 case neg=>rw [dj h0,aqD,ae,if_pos h0];rfl
 rw [h0,show (!((0:Int)==0))=false from rfl,n3,if_neg (by simp)]
 have ft:Fm t:=⟨ht.1,h0⟩
 by_cases h15:t.kind=15
 case neg=>rw [beq_false_of_ne h15,aqD,ae,if_neg (fun h=>h15 h.1)];rfl
 rw [h15,show (!((15:Int)==15))=false from rfl,n3,vU t ht.1 _ ht.2.1]
 obtain ⟨k0,a,hkd⟩:=I8 (E5 ft h15 (n:=2) rfl)
 obtain ⟨g0,g1⟩:=KQ hkd
 obtain ⟨d0,d1⟩:=EC hkd
 have fk:Fm k0:=ft.kid (by grind)
 have fa:Fm a:=ft.kid (by grind)
 obtain ⟨sy,syl⟩:=ft.sy h15
 have ea:Tm.mk a.kind a.n a.name a.r a.kids a.sys=a:=by cases a;rfl
 have fa':Fm (Tm.mk a.kind a.n a.name a.r a.kids a.sys):=by grind
 simp only [g0,g1,an4]
 unfold azm
 rw [d0,d1]
 dsimp only
 by_cases h4:k0.kind=4
 ·obtain ⟨p,b,hb⟩:=I8 (E5 fk h4 (n:=2) rfl)
  obtain ⟨w1,i1,i2,i3,i4,i5⟩:=aC_ hk hb (fk.kid (by grind)) fa' sy syl (fun r5=>ly k (Tm.mk r5.1 r5.2.1 r5.2.2.1 [] r5.2.2.2.1 []) r5.2.2.2.2 fun r6=>I (r6.1,r6.2.1,r6.2.2.1))
  rw [if_pos ⟨trivial,.inl h4⟩,if_pos h4,h4,show ((4:Int)==4)=true from rfl,ae]
  refine i2.trans ?_
  refine (Ry hk i3 _).trans ?_
  rw [(EC hb).2]
  rw [ea] at i4 i5
  exact aAu i4 i5 I
 rw [if_neg h4,beq_false_of_ne h4,n3]
 by_cases h7:k0.kind=7
 ·obtain ⟨p,b,hb⟩:=I8 (E5 fk h7 (n:=2) rfl)
  obtain ⟨w1,i1,i2,i3,i4,i5⟩:=aDa hk4 hb (fk.kid (by grind)) (fk.kid (by grind)) fa' sy syl (fun r5=>ly k (Tm.mk r5.1 r5.2.1 r5.2.2.1 [] r5.2.2.2.1 []) r5.2.2.2.2 fun r6=>I (r6.1,r6.2.1,r6.2.2.1))
  rw [if_pos ⟨trivial,.inr (.inl h7)⟩,if_pos h7,h7,show ((7:Int)==7)=true from rfl,ae]
  refine i2.trans ?_
  refine (Ry hk i3 _).trans ?_
  rw [(EC hb).1,(EC hb).2]
  rw [ea] at i4 i5
  exact aAu i4 i5 I
 rw [if_neg h7,beq_false_of_ne h7,n3]
 by_cases h11:k0.kind=11
 ·obtain ⟨p,l,r,hb⟩: ∃p l r,k0.kids=[p,l,r]:=by
   have:=E5 fk h11 (n:=3) rfl
   match h:k0.kids,this with
   |[p,l,r],_=>simp
  obtain ⟨w1,i1,i2,i3,i4,i5⟩:=aC9 hk hb (fk.kid (by grind)) (fk.kid (by grind)) (fk.kid (by grind)) fa' sy syl (fun r5=>ly k (Tm.mk r5.1 r5.2.1 r5.2.2.1 [] r5.2.2.2.1 []) r5.2.2.2.2 fun r6=>I (r6.1,r6.2.1,r6.2.2.1))
  rw [if_pos ⟨trivial,.inr (.inr (.inl h11))⟩,if_pos h11,h11,show ((11:Int)==11)=true from rfl,ae]
  refine i2.trans ?_
  refine (Ry hk i3 _).trans ?_
  rw [hb]
  rw [ea] at i4 i5
  exact aAu i4 i5 I
 rw [if_neg h11,beq_false_of_ne h11,n3]
 by_cases h3:k0.kind=3
 ·grind
 rw [if_neg h3,beq_false_of_ne h3,n3]
 by_cases h16:k0.kind=16
 ·grind [ae,aIf,azI]
 ·rw [beq_false_of_ne h16,n3,if_neg (fun h=>by omega)];rfl
theorem aIm (hk4:F4 k) {t:Tm} (ht:In k t) (I:Tm×Bool×Int->OS S):cG k t I=I (hcG t):=by
 have hk:=hk4.f3
 by_cases hc:bw t=0/\t.kind=15/\(t.kids.getD 0 noT).kind=3
 case neg=>
  have e:hcG t=ava t:=by
   grind [hcG,ava]
  rw [e]
  by_cases h3:(t.kids.getD 0 noT).kind=3
  case neg=>grind [aIn]
  simp only [cG,ag hk.fu,ar,amv ht.1 ht.2.1 ht.dep]
  unfold ava
  by_cases h0:bw t=0
  case neg=>rw [dj h0,aqD,ae,if_pos h0];rfl
  rw [h0,show (!((0:Int)==0))=false from rfl,n3,if_neg (by simp)]
  have h15:t.kind≠15:=fun h=>hc ⟨h0,h,h3⟩
  rw [beq_false_of_ne h15,aqD,ae,if_neg (fun h=>h15 h.1)];rfl
 obtain ⟨h0,h15,h3⟩:=hc
 have ft:Fm t:=⟨ht.1,h0⟩
 have e:hcG t=atL (.mk 16 0 alH [] [t.kids.getD 1 noT] (ark (atS (t.kids.getD 1 noT)) 0 t.sys).1,(ark (atS (t.kids.getD 1 noT)) 0 t.sys).2):=by
  grind [hcG]
 rw [e]
 obtain ⟨k0,a,hkd⟩:=I8 (E5 ft h15 (n:=2) rfl)
 obtain ⟨g0,g1⟩:=KQ hkd
 obtain ⟨d0,d1⟩:=EC hkd
 rw [d0] at h3
 rw [d1]
 have fa:Fm a:=ft.kid (by grind)
 obtain ⟨sy,syl⟩:=ft.sy h15
 simp only [cG,ag hk.fu,ar,amv ht.1 ht.2.1 ht.dep,h0,h15,vU t ht.1 _ ht.2.1,g0,g1,an4,h3]
 rw [show (!((0:Int)==0))=false from rfl,n3,show (!((15:Int)==15))=false from rfl,n3,show ((3:Int)==4)=false from rfl,n3,show ((3:Int)==7)=false from rfl,n3,show ((3:Int)==11)=false from rfl,n3,show ((3:Int)==3)=true from rfl,ae]
 obtain ⟨x1,x2,x3,x4,x5,x6⟩:=a
 simp only [pj x1 x2 x3 x4 x5 x6]
 rw [aIo hk fa sy syl]
 dsimp only
 have hq:=au7 (F:=atS (Tm.mk x1 x2 x3 x4 x5 x6)) (Q:=awZ) (l:=t.sys) (c:=0) fun x hx c=>aDr fa ⟨(sy x hx).2.1,(sy x hx).2.2⟩ c
 have hl:(ark (atS (Tm.mk x1 x2 x3 x4 x5 x6)) 0 t.sys).1.length=t.sys.length:=aur
 obtain ⟨b1,b2,b3⟩:=aAN hq
 refine azT hk ?_ ?_ _
 ·rw [OkT,aZ,aZ]
  exact ⟨⟨by unfold aG;omega,by unfold aG;omega,by decide,(fun c hc=>by cases hc),by simp,by simp,by omega⟩,⟨fa.ok,trivial⟩,b1⟩
 ·rw [am,aH,aH];have:=fa.dep;omega
def atn (defs:List Df) (t:Tm):Tm×Bool:=
 if t.kind=2 then (match defs.find? fun d=>decide (d.name=t.name) with
  |none=>(noT,false)
  |some d=>(d.body,anW d.body 0 0==0)) else (noT,false)
def asU (k:Nat) (defs:List Df):Prop:=defs.length<1073741824/\ ∀d∈defs,In k d.body
theorem aGZ (hk:F3 k) (I:Tm×Bool->OS S) {t:Tm} {defs:List Df} (hd:asU k defs):
  ∀ (r p:List Df) (m:Nat),defs=p++r->r.length<m->bM k I t defs m (p.length:Int)=I (match r.find? fun d=>decide (d.name=t.name) with
   |none=>(noT,false)
   |some d=>(d.body,anW d.body 0 0==0)):=by
 intro r
 induction r with
 |nil=>
  intro p m h hm
  obtain ⟨m,rfl,hm'⟩:=amr hm
  simp only [bM,cr,akb h,n3,List.find?_nil]
  rfl
 |cons x r ih=>
  intro p m h hm
  obtain ⟨m,rfl,hm'⟩:=amr hm
  have hl:=hd.1
  obtain ⟨e1,e2,e3,e4⟩:=apy h (by omega)
  have hi:=hd.2 x (by rw [h];simp)
  simp only [bM,cr,e1,ae,e2,an4,ag hk.fu,ar,Jq,e3]
  by_cases hx:x.name=t.name
  ·rw [decide_eq_true hx,ae,vU x.body hi.1 _ hi.2.1,nK hi hk (by omega) (by omega),List.find?_cons_of_pos (by exact decide_eq_true hx)]
  ·rw [decide_eq_false hx,n3,ih (p++[x]) m e4 hm',List.find?_cons_of_neg (by rw [decide_eq_false hx];decide)]
theorem aII (hk:F3 k) {t:Tm} {defs:List Df} (hd:asU k defs) (I:Tm×Bool->OS S):cR k defs t I=I (atn defs t):=by
 have hfu:4294968296<=k:=hk
 simp only [cR,aAq]
 unfold atn
 by_cases h:t.kind=2
 ·rw [h,show (!((2:Int)==2))=false from rfl,n3,if_pos rfl]
  exact aGZ hk I hd defs [] k rfl (by have:=hd.1;omega)
 ·rw [beq_false_of_ne h,aqD,ae,if_neg h];rfl
def aux (r:Tm×Bool×Int) (s:Tm×Bool×Int):Tm×Bool×Int:=if r.2.1=true\/r.2.2≠0 then r else s
def stG (defs:List Df) (t:Tm):Tm×Bool×Int:=
 if bw t≠0 then (noT,false,bw t) else
 aux (avr t) (aux (pP t) (aux (trO t) (aux (hcG t) (if (atn defs t).2=true then ((atn defs t).1,true,0) else (noT,false,0)))))
theorem pick (I:Tm×Bool×Int->OS S) (r s:Tm×Bool×Int) {J N:OS S} (h:r.2.1=false->r.2.2=0->N=I s):
  ab r.2.1 (ab r.2.1 (I (r.1,r.2.1,r.2.2)) (ab (!(r.2.2==0)) (I (r.1,r.2.1,r.2.2)) J)) (ab (!(r.2.2==0)) (ab r.2.1 (I (r.1,r.2.1,r.2.2)) (ab (!(r.2.2==0)) (I (r.1,r.2.1,r.2.2)) J)) N)=I (aux r s):=by
 obtain ⟨x,b,e⟩:=r
 unfold aux
 dsimp only
 cases b with
 |true=>rw [ae,ae,if_pos (.inl rfl)]
 |false=>
  rw [n3]
  by_cases he:e=0
  ·rw [he,show (!((0:Int)==0))=false from rfl,n3,if_neg (by simp),h rfl he]
  ·rw [beq_false_of_ne he,aqD,ae,n3,ae,if_pos (.inr he)]
theorem aIA (hk4:F4 k) {t:Tm} {defs:List Df} (hd:asU k defs) (ht:In k t) (I:Tm×Bool×Int->OS S):a_ k defs t I=I (stG defs t):=by
 have hk:=hk4.f3
 have hfu:4294968296<=k:=hk
 simp only [a_,aAp,ag hk.fu,ar,amv ht.1 ht.2.1 ht.dep]
 unfold stG
 by_cases h0:bw t=0
 case neg=>rw [dj h0,aqD,ae,if_pos h0];rfl
 rw [h0,show (!((0:Int)==0))=false from rfl,n3,if_neg (by simp)]
 obtain ⟨m,hm⟩: ∃m,k=m+5:=⟨k-5,by omega⟩
 have last: ∀b0 b1 b2 b3 b4 b5,bH k I t defs (m+1) b0 b1 b2 b3 b4 b5 0 4 false=I (if (atn defs t).2=true then ((atn defs t).1,true,0) else (noT,false,0)):=fun b0 b1 b2 b3 b4 b5=>by
  simp only [bH,bu]
  rw [show decide ((4:Int)<4)=false from rfl,n3,n3,show (!((0:Int)==0))=false from rfl,n3]
  obtain ⟨j,hj⟩: ∃j,k=j+1:=⟨k-1,by omega⟩
  have:bK k I t defs k=co k I t defs:=by
   conv=>lhs;rw [hj]
   rw [hj];rfl
  rw [this]
  simp only [co,ag hk.fu,ar,aII hk hd]
  cases (atn defs t).2 with
  |true=>rw [ae,if_pos rfl]
  |false=>rw [n3,if_neg (by decide)];rfl
 have rd: ∀ {n:Nat} {v:Int} (o s:Tm×Bool×Int),(∀b0 b1 b2 b3 b4 b5,bH k I t defs n b0 b1 b2 b3 b4 b5 0 (v+1) false=I s)->su .i64 (v+1)=v+1-> ∀J,ab o.2.1 (ab o.2.1 (I (o.1,o.2.1,o.2.2)) (ab (!(o.2.2==0)) (I (o.1,o.2.1,o.2.2)) J)) (ab (!(o.2.2==0)) (ab o.2.1 (I (o.1,o.2.1,o.2.2)) (ab (!(o.2.2==0)) (I (o.1,o.2.1,o.2.2)) J)) (bH k I t defs n o.1.kind o.1.n o.1.name o.1.r o.1.kids o.1.sys o.2.2 (su .i64 (v+1)) o.2.1))=I (aux o s):=fun {n v} o s h hw J=>
  pick I o s fun h1 h2=>by rw [h1,h2,hw];exact h _ _ _ _ _ _
 have r3: ∀b0 b1 b2 b3 b4 b5,bH k I t defs (m+2) b0 b1 b2 b3 b4 b5 0 3 false=I _:=fun b0 b1 b2 b3 b4 b5=>by
  rw [bH]
  simp only [bu,ag hk.fu,ar,aIm hk4 ht]
  rw [show decide ((3:Int)<4)=true from rfl,ae,show ((3:Int)==0)=false from rfl,n3,show ((3:Int)==1)=false from rfl,n3,show ((3:Int)==2)=false from rfl,n3,show ((3:Int)==3)=true from rfl,ae]
  exact rd (v:=3) (hcG t) _ last rfl _
 have r2: ∀b0 b1 b2 b3 b4 b5,bH k I t defs (m+3) b0 b1 b2 b3 b4 b5 0 2 false=I _:=fun b0 b1 b2 b3 b4 b5=>by
  rw [bH]
  simp only [bu,ag hk.fu,ar,aIE hk4 ht]
  rw [show decide ((2:Int)<4)=true from rfl,ae,show ((2:Int)==0)=false from rfl,n3,show ((2:Int)==1)=false from rfl,n3,show ((2:Int)==2)=true from rfl,ae]
  exact rd (v:=2) (trO t) _ r3 rfl _
 have r1: ∀b0 b1 b2 b3 b4 b5,bH k I t defs (m+4) b0 b1 b2 b3 b4 b5 0 1 false=I _:=fun b0 b1 b2 b3 b4 b5=>by
  rw [bH]
  simp only [bu,ag hk.fu,ar,ajh hk4 ht]
  rw [show decide ((1:Int)<4)=true from rfl,ae,show ((1:Int)==0)=false from rfl,n3,show ((1:Int)==1)=true from rfl,ae]
  exact rd (v:=1) (pP t) _ r2 rfl _
 have e: ∀b0 b1 b2 b3 b4 b5,bH k I t defs k b0 b1 b2 b3 b4 b5 0 0 false=bH k I t defs (m+5) b0 b1 b2 b3 b4 b5 0 0 false:=fun b0 b1 b2 b3 b4 b5=>congrArg (fun n=>bH k I t defs n b0 b1 b2 b3 b4 b5 0 0 false) hm
 rw [e,bH]
 simp only [bu,ag hk.fu,ar,aH3 hk4 ht]
 rw [show decide ((0:Int)<4)=true from rfl,ae,show ((0:Int)==0)=true from rfl,ae]
 exact rd (v:=0) (avr t) _ r1 rfl _
end Go.Proofs.YtgmmefmmnakbpaaGreatDoor
namespace Go.Proofs.YtgmmefmmnakbpaaGreatDoor
open Go PI
def atR (t:Tm) (i:Nat) (u:Tm):Tm:= .mk t.kind t.n t.name t.r (t.kids.set i u) t.sys
def arp (t:Tm) (i:Nat):Tm:=t.kids.getD i noT
section
variable (st:Tm->Tm×Bool×Int) (pl:Tm->List Nat) (eF:Int)
mutual
noncomputable def hdA:Nat->Nat->Tm->Except Int (Tm×Nat)
 |0,_,_=> .error 0
 |n+1,f,t=>
  if (st t).2.2≠0/\f≠0 then .error (st t).2.2
  else if (st t).2.1=false/\(st t).2.2=0 then hdP n f t (pl t)
  else if f=0 then .error eF else hdA n (f-1) (st t).1
termination_by n=>(n,0)
noncomputable def hdP:Nat->Nat->Tm->List Nat->Except Int (Tm×Nat)
 |_,f,t,[]=> .ok (t,f)
 |n,f,t,i::l=>match hdA n f (arp t i) with
  | .error e=> .error e
  | .ok (k,f')=>if @decide (k=arp t i) (Classical.propDecidable _) then hdP n f' t l else hdA n f' (atR t i k)
termination_by n _ _ l=>(n,l.length+1)
end
end
variable {st:Tm->Tm×Bool×Int} {pl:Tm->List Nat} {eF:Int}
theorem aF6 (h0:eF≠0) (j:Nat): ∀ (n:Nat),(∀f t,(∀a l,hdA st pl eF n f t= .ok (a,l)->hdA st pl eF n (f+j) t= .ok (a,l+j))/\ ∀e,hdA st pl eF n f t= .error e->e≠0->e≠eF->hdA st pl eF n (f+j) t= .error e)/\
  ∀ (l:List Nat) f t,(∀a r,hdP st pl eF n f t l= .ok (a,r)->hdP st pl eF n (f+j) t l= .ok (a,r+j))/\ ∀e,hdP st pl eF n f t l= .error e->e≠0->e≠eF->hdP st pl eF n (f+j) t l= .error e:=by
 intro n
 induction n with
 |zero=>
  have hA: ∀f t,hdA st pl eF 0 f t= .error 0:=fun f t=>by rw [hdA]
  refine ⟨fun f t=>⟨fun a l h=>(by rw [hA] at h;cases h),fun e h h1 _=>by rw [hA] at h;injection h with h;exact absurd h.symm h1⟩, ?_⟩
  intro l
  cases l with
  |nil=>intro f t;exact ⟨fun a r h=>by rw [hdP] at h ⊢;injection h with h;injection h with h1 h2;subst h1;subst h2;rfl,fun e h=>by rw [hdP] at h;cases h⟩
  |cons i l=>
   intro f t
   have hP: ∀f,hdP st pl eF 0 f t (i::l)= .error 0:=fun f=>by rw [hdP,hA]
   exact ⟨fun a r h=>(by rw [hP] at h;cases h),fun e h h1 _=>by rw [hP] at h;injection h with h;exact absurd h.symm h1⟩
 |succ n ih=>
  obtain ⟨iA,iP⟩:=ih
  have hA: ∀f t,(∀a l,hdA st pl eF (n+1) f t= .ok (a,l)->hdA st pl eF (n+1) (f+j) t= .ok (a,l+j))/\ ∀e,hdA st pl eF (n+1) f t= .error e->e≠0->e≠eF->hdA st pl eF (n+1) (f+j) t= .error e:=by
   intro f t
   by_cases h1:(st t).2.2≠0/\f≠0
   ·have e1:hdA st pl eF (n+1) f t= .error (st t).2.2:=by rw [hdA,if_pos h1]
    have e2:hdA st pl eF (n+1) (f+j) t= .error (st t).2.2:=by rw [hdA,if_pos ⟨h1.1,by omega⟩]
    exact ⟨fun a l h=>(by rw [e1] at h;cases h),fun e h _ _=>by rw [e1] at h;rw [e2];exact h⟩
   by_cases h2:(st t).2.1=false/\(st t).2.2=0
   ·have e1: ∀f,hdA st pl eF (n+1) f t=hdP st pl eF n f t (pl t):=fun f=>by rw [hdA,if_neg (fun h=>h.1 h2.2),if_pos h2]
    rw [e1,e1]
    exact iP (pl t) f t
   by_cases h3:f=0
   ·have e1:hdA st pl eF (n+1) f t= .error eF:=by rw [hdA,if_neg h1,if_neg h2,if_pos h3]
    exact ⟨fun a l h=>(by rw [e1] at h;cases h),fun e h _ he=>by rw [e1] at h;injection h with h;exact absurd h.symm he⟩
   ·have e1:hdA st pl eF (n+1) f t=hdA st pl eF n (f-1) (st t).1:=by rw [hdA,if_neg h1,if_neg h2,if_neg h3]
    have e2:hdA st pl eF (n+1) (f+j) t=hdA st pl eF n (f-1+j) (st t).1:=by
     rw [hdA,if_neg (fun h=>h1 ⟨h.1,h3⟩),if_neg h2,if_neg (by omega),show f+j-1=f-1+j by omega]
    rw [e1,e2]
    exact iA (f-1) (st t).1
  refine ⟨hA, ?_⟩
  intro l
  induction l with
  |nil=>intro f t;exact ⟨fun a r h=>by rw [hdP] at h ⊢;injection h with h;injection h with h1 h2;subst h1;subst h2;rfl,fun e h=>by rw [hdP] at h;cases h⟩
  |cons i l ihl=>
   intro f t
   obtain ⟨k1,k2⟩:=hA f (arp t i)
   rw [hdP,hdP]
   cases hx:hdA st pl eF (n+1) f (arp t i) with
   |error e=>
    refine ⟨fun a r h=>(by cases h),fun e' h q1 q2=> ?_⟩
    injection h with h;subst h
    rw [k2 e hx q1 q2]
   |ok p=>
    obtain ⟨k,f'⟩:=p
    rw [k1 k f' hx]
    dsimp only
    split
    ·exact ihl f' t
    ·exact hA f' (atR t i k)
def Stable (st:Tm->Tm×Bool×Int) (pl:Tm->List Nat):Nat->Tm->Prop
 |0,_=>False
 |n+1,t=>(st t).2.1=false/\(st t).2.2=0/\ ∀i∈pl t,Stable st pl n (arp t i)
theorem Stable.mono {n m:Nat} (h:n<=m): ∀ {t:Tm},Stable st pl n t->Stable st pl m t:=by
 induction n generalizing m with
 |zero=>intro t h;exact h.elim
 |succ n ih=>
  intro t ht
  obtain ⟨m,rfl⟩: ∃j,m=j+1:=⟨m-1,by omega⟩
  exact ⟨ht.1,ht.2.1,fun i hi=>ih (by omega) (ht.2.2 i hi)⟩
set_option maxRecDepth 20000
variable {S:Type} {k:Nat}
def aui (defs:List Df) (t:Tm) (f:Int):Pan (Int×Int) (Tm×Bool×Int):=
 if (stG defs t).2.2≠0/\0<f then .pan ((stG defs t).2.2,f)
 else if (stG defs t).2.1=false/\(stG defs t).2.2=0 then .ok (t,false,f)
 else if f=0 then .pan (220,f) else .ok ((stG defs t).1,true,f-1)
theorem aIB (hk4:F4 k) {t:Tm} {defs:List Df} (hd:asU k defs) (ht:In k t) {f:Int} (hf:0<=f/\f<=100000) (I:Pan (Int×Int) (Tm×Bool×Int)->OS S):
  axL k t defs f I=I (aui defs t f):=by
 have hk:=hk4.f3
 have hfu:4294968296<=k:=hk
 obtain ⟨j,hj⟩: ∃j,k=j+1:=⟨k-1,by omega⟩
 have h1: ∀r1,ayf k I defs f r1 k=awm k I defs f r1:=fun r1=>by
  conv=>lhs;rw [hj]
  rw [hj];rfl
 have h0: ∀r1,azv k I defs f t r1 k=awl k I defs f t r1 (awm k I defs f r1):=fun r1=>by
  rw [<-h1]
  conv=>lhs;rw [hj]
  rw [hj];rfl
 have hw:su .i64 (f-1)=f-1:=aaf (by omega) (by omega)
 simp only [axL,aAi,ag hk.fu,ar,aIA hk4 hd ht,h0,awl,awm,hw]
 unfold aui
 generalize stG defs t=r
 obtain ⟨x,b,e⟩:=r
 dsimp only
 by_cases he:e=0
 ·subst he
  rw [show (!((0:Int)==0))=false from rfl,n3,if_neg (fun h=>h.1 rfl)]
  cases b with
  |false=>rw [aqD,ae,show ((0:Int)==0)=true from rfl,ae,if_pos ⟨rfl,rfl⟩]
  |true=>
   rw [aq6,n3,if_neg (fun h=>by cases h.1)]
   by_cases hz:f=0
   ·rw [hz,show ((0:Int)==0)=true from rfl,ae,if_pos rfl]
   ·rw [beq_false_of_ne hz,n3,if_neg hz]
 ·rw [beq_false_of_ne he,aqD,ae]
  by_cases hz:f=0
  ·subst hz
   rw [show decide ((0:Int)>0)=false from rfl,n3,if_neg (fun h=>by have:=h.2;omega),if_neg (fun h=>he h.2),if_pos rfl]
   cases b with
   |false=>rw [aqD,ae,n3,show ((0:Int)==0)=true from rfl,ae]
   |true=>rw [aq6,n3,show ((0:Int)==0)=true from rfl,ae]
  ·rw [decide_eq_true (by omega),ae,if_pos ⟨he,by omega⟩]
def ayg (kd:Int):Int:=if kd=6\/kd=9\/kd=10\/kd=13\/kd=18\/kd=15\/kd=14 then 0 else if kd=22 then 3 else if kd=27 then 4 else-1
def as7 (t:Tm):Int:=if (t.kids.length:Int)<ct t.kind then-1 else ayg t.kind
theorem aIs (hk:F3 k) (t:Tm) (I:Int->OS S):aU k t I=I (as7 t):=by
 have hfu:4294968296<=k:=hk
 obtain ⟨j,hj⟩: ∃j,k=j+1:=⟨k-1,by omega⟩
 have h0: ∀v,aV k I t k v=I (if (t.kids.length:Int)<ct t.kind then-1 else v):=fun v=>by
  have:aV k I t k v=bo k I t v:=by
   conv=>lhs;rw [hj]
   rw [hj];rfl
  rw [this]
  simp only [bo,ag hk.fu,aiR]
  by_cases h:(t.kids.length:Int)<ct t.kind
  ·rw [decide_eq_true h,ae,if_pos h]
  ·rw [decide_eq_false h,n3,if_neg h]
 simp only [aU,aAo,h0]
 unfold as7 ayg
 by_cases h6:t.kind=6
 ·rw [h6];rfl
 by_cases h9:t.kind=9
 ·rw [h9];rfl
 by_cases h10:t.kind=10
 ·rw [h10];rfl
 by_cases h13:t.kind=13
 ·rw [h13];rfl
 by_cases h18:t.kind=18
 ·rw [h18];rfl
 by_cases h15:t.kind=15
 ·rw [h15];rfl
 by_cases h14:t.kind=14
 ·rw [h14];rfl
 by_cases h22:t.kind=22
 ·rw [h22];rfl
 by_cases h27:t.kind=27
 ·rw [h27];rfl
 rw [beq_false_of_ne h6,n3,beq_false_of_ne h9,n3,beq_false_of_ne h10,n3,beq_false_of_ne h13,n3,beq_false_of_ne h18,n3,beq_false_of_ne h15,n3,beq_false_of_ne h14,n3,beq_false_of_ne h22,n3,beq_false_of_ne h27,n3]
 rw [if_neg (show ¬(t.kind=6\/t.kind=9\/t.kind=10\/t.kind=13\/t.kind=18\/t.kind=15\/t.kind=14) by omega),if_neg h22,if_neg h27]

theorem ZT {n:Nat} {l:LB} (h:Bs' n l) {f:LC} (hf:aq f/\f.length<1073741824) {t:Tm} (ht:Sm n t):Bs' n (⟨f,[t]⟩::l):=by
 refine ⟨?_, ?_, ?_⟩
 ·rw [ba,fc,aZ,aZ];exact ⟨⟨⟨hf.1,hf.2,by simp⟩,ht.ok,trivial⟩,h.ok⟩
 ·rw [aI,fG,ay,ay,aq5,Nat.succ_mul]
  have:=h.siz;have:=ht.siz;omega
 ·rw [aO,eB,aH,aH]
  have:=h.dep;have:=ht.dep;omega
theorem acF {kd:Int} (hkd:kd=22\/kd=27) {b:Tm} {mid:LT} (fb:Fm b) (fm: ∀y∈mid,Fm y) (hm:mid.length<=3): ∀ {r l:LB},(∀b∈r,b.kids=[AK b]/\Fm (AK b)/\RX true b.face)->ama kd b mid r= .ok l->Bs' 110000 l/\aO l<=299/\l.length=r.length/\l.map (·.face)=r.map (·.face):=by
 intro r
 induction r with
 |nil=>intro l _ h;rw [ama] at h;injection h with h;subst h;exact ⟨Dp _,by rw [aO];omega,rfl,rfl⟩
 |cons y r ih=>
  intro l hx h
  rw [ama] at h
  obtain ⟨ms,h1,h⟩:=i8 h
  obtain ⟨l',h2,h⟩:=i8 h
  injection h with h;subst h
  obtain ⟨i1,i2,i3,i4⟩:=ih (fun b hb=>hx b (by simp [hb])) h2
  obtain ⟨_,hbf,hbx⟩:=hx y (by simp)
  obtain ⟨f1,f2⟩:=I_ fm h1
  obtain ⟨q1,q2⟩:=pO hkd fb hbf f1 (by omega)
  refine ⟨ZT i1 (G9 hbx) (q1.mono (by omega)), ?_,by simp [i3],by simp [i4]⟩
  rw [aO,eB,aH,aH];omega
structure ElimP (k:Nat) (t:Tm) (f b line:Tm) (l:LB) (y:Tm):Prop where
 so:alE [(adR t).kids.getD 0 noT,(adR t).kids.getD 1 noT,J4 (adR t).sys]=0
 fill:amg ((adR t).kids.getD 0 noT) ((adR t).kids.getD 1 noT) (adR t).sys= .ok f
 up:J6 0 1 (t.kids.getD 0 noT)= .ok b
 plug:ams 0 b f= .ok line
 brs:ama t.kind b (ac3 t) (adR t).sys= .ok l
 so2:alE [line,ig t.kind (t.kids.getD 0 noT) (ac3 t) ((adR t).kids.getD 1 noT),J4 l]=0
 comp:dF line (ig t.kind (t.kids.getD 0 noT) (ac3 t) ((adR t).kids.getD 1 noT)) l= .ok y
 fy:bw y=0
 ff:Fm f
 fb:Fm b
 fl:Fm line
 fa:Fm (ig t.kind (t.kids.getD 0 noT) (ac3 t) ((adR t).kids.getD 1 noT))
 fw:Fm (J4 l)
 bs:l.map (·.face)=(adR t).sys.map (·.face)
 yin:In k y
theorem KC (hk:F3 k) {t y:Tm} (ft:Fm t) (hkd:t.kind=22\/t.kind=27) (h15:(adR t).kind=15) (h:amf t.kind (t.kids.getD 0 noT) (ac3 t) (adR t)= .ok y): ∃f b line l,ElimP k t f b line l y:=by
 unfold amf at h
 obtain ⟨f,h1,h⟩:=i8 h
 obtain ⟨b,h2,h⟩:=i8 h
 obtain ⟨line,h3,h⟩:=i8 h
 obtain ⟨l,h4,h⟩:=i8 h
 obtain ⟨so2,fy,hc⟩:=BI h
 obtain ⟨so,ff,hfe⟩:=BI h1
 have hlen:2<=t.kids.length/\t.kids.length<=5:=by
  have:=ft.nk
  rcases hkd with h|h<;>rw [h] at this
  ·have e:ct 22=4:=rfl
   omega
  ·have e:ct 27=5:=rfl
   omega
 obtain ⟨gl,ml⟩:=nw hlen.1
 have fx:=ft.kid ml
 obtain ⟨u,a,hxk⟩:=I8 (E5 fx h15 (n:=2) rfl)
 obtain ⟨dx0,dx1⟩:=EC hxk
 have fu:Fm u:=fx.kid (by rw [hxk];simp)
 have fa:Fm a:=fx.kid (by rw [hxk];simp)
 obtain ⟨sy,syl⟩:=fx.sy h15
 have fp:Fm (t.kids.getD 0 noT):=ft.kid (by
  match h:t.kids,hlen.1 with
  |a::l,_=>simp)
 have hwx:=Jc hk fx
 have fm: ∀y∈ac3 t,Fm y:=fun y hy=>ft.kid (ayh hy)
 have hml:(ac3 t).length<=3:=by unfold ac3;rw [List.length_drop,List.length_take];omega
 have hF:Fm f:=⟨(ux hk (dx0▸fu) (dx1▸fa) (iQ (wg (dx0▸fu).ok (dx1▸fa).ok hwx.1 so).2.2) hfe).1.1,ff⟩
 have fb:=mD (by omega) fp h2
 have fl:=ayn (by omega) fb hF h3
 obtain ⟨b1,b2,b3,b4⟩:=acF hkd fb fm hml sy h4
 have hsys:=Jb hk (by omega) b1 (by omega) b2
 obtain ⟨q1,q2⟩:=pO hkd fp (a:=(adR t).kids.getD 1 noT) (dx1▸fa) fm hml
 obtain ⟨f1,f2,f3⟩:=wg fl.ok q1.ok hsys.1 so2
 exact ⟨f,b,line,l,so,hfe,h2,h3,h4,so2,hc,fy,hF,fb,fl,f2,f3,b4,(yu hk f1 f2 (iQ f3) hc).1⟩
theorem acE (hk:F3 k) {t:Tm} (ht:In k t):In k (pP t).1:=by
 unfold pP
 by_cases h0:bw t=0
 case neg=>rw [if_pos h0];exact gQ hk
 rw [if_neg (by simp [h0])]
 have ft:Fm t:=⟨ht.1,h0⟩
 split
 case isTrue hc=>
  cases hh:amf t.kind (t.kids.getD 0 noT) (ac3 t) (adR t) with
  |error e=>exact gQ hk
  |ok y=>
   obtain ⟨f,b,line,l,hp⟩:=KC hk ft hc.1 hc.2 hh
   show In k (if bw y=0 then (y,true,(0:Int)) else (noT,false,bw y)).1
   split
   ·exact hp.yin
   ·exact gQ hk
 case isFalse hc=>exact gQ hk
end Go.Proofs.YtgmmefmmnakbpaaGreatDoor
namespace Go.Proofs.YtgmmefmmnakbpaaGreatDoor
open Go PI
set_option maxRecDepth 20000
section
variable {n kd:Int} {u:Tm}
end
section
variable {f g:Int->LC->Except Int (LC)} {kd:Int}
end

variable {S:Type} {k:Nat}


section
variable {hd:Tm->(Int->OS S)->OS S} {t:Tm}
end
theorem ao6 {kd D E:Int} (h:D<=E): ∀ {l:LB},ba l->l.all (bX kd D)=true->l.all (bX kd E)=true:=by
 intro l
 induction l with
 |nil=>intro _ _;rfl
 |cons b l ih=>
  intro ho hb
  obtain ⟨f,ks⟩:=b
  rw [ba,fc] at ho
  rw [List.all_cons,anZ] at hb ⊢
  refine ⟨?_,ih ho.2 hb.2⟩
  have h1:=hb.1
  unfold bX at h1 ⊢
  simp only [anZ,decide_eq_true_eq] at h1 ⊢
  exact ⟨h1.1,h1.2.1,aov ((oB ho.1.1.1).1 h1.2.1).1 h1.2.2 h⟩
theorem aqc (t:Tm):OkT t-> ∀ {V D E:Int},aqp false V D t=true->D<=E->aqp false (-1) E t=true:=by
 induction t using gq with
 |h kd n nm r ks sys ih1 ih2=>
  intro ht V D E h hDE
  rw [OkT] at ht
  obtain ⟨o1,o2,o3,o4,o5,o6,o7⟩:=ht.1
  have hk: ∀ {l:LT} {i:Nat},(∀x∈l,OkT x-> ∀ {V D E:Int},aqp false V D x=true->D<=E->aqp false (-1) E x=true)->aZ l->bO false V D kd i l=true->bO false (-1) E kd i l=true:=by
   intro l
   induction l with
   |nil=>intro i _ _ _;rw [bO]
   |cons t l ih=>
    intro i h hl ha
    rw [aZ] at hl
    rw [bO,anZ] at ha ⊢
    rw [B2]
    exact ⟨h t (by simp) hl.1 ha.1 (by omega),ih (fun x hx=>h x (by simp [hx])) hl.2 ha.2⟩
  have hm: ∀ {l:LT},(∀x∈l,OkT x-> ∀ {V D E:Int},aqp false V D x=true->D<=E->aqp false (-1) E x=true)->aZ l->ca false V D kd l=true->ca false (-1) E kd l=true:=by
   intro l
   induction l with
   |nil=>intro _ _ _;rw [ca]
   |cons t l ih=>
    intro h hl ha
    rw [aZ] at hl
    rw [ca,anZ] at ha ⊢
    exact ⟨h t (by simp) hl.1 ha.1 (by omega),ih (fun x hx=>h x (by simp [hx])) hl.2 ha.2⟩
  have hs: ∀ {l:LB},(∀b∈l,∀x∈b.kids,OkT x-> ∀ {V D E:Int},aqp false V D x=true->D<=E->aqp false (-1) E x=true)->ba l->ck false V D kd l=true->ck false (-1) E kd l=true:=by
   intro l
   induction l with
   |nil=>intro _ _ _;rw [ck]
   |cons b l ih=>
    intro h hl ha
    obtain ⟨f,ks'⟩:=b
    rw [ba,fc] at hl
    rw [ck,jT,anZ] at ha ⊢
    exact ⟨hm (l:=ks') (h ⟨f,ks'⟩ (by simp)) hl.1.2 ha.1,ih (fun b hb=>h b (by simp [hb])) hl.2 ha.2⟩
  rw [aqp,anZ,anZ,anZ] at h ⊢
  refine ⟨rfl, ?_,hk ih1 ht.2.1 h.2.2.1,hs ih2 ht.2.2 h.2.2.2⟩
  have h2:=h.2.1
  unfold cL at h2 ⊢
  simp only [anZ] at h2 ⊢
  refine ⟨h2.1, ?_⟩
  have h3:=h2.2
  split
  ·rename_i c
   rw [if_pos c] at h3
   simp only [anZ,decide_eq_true_eq] at h3 ⊢
   exact ⟨h3.1,h3.2.1,.inl (by omega)⟩
  ·rename_i c
   rw [if_neg c] at h3
   split
   ·rename_i c
    rw [if_pos c] at h3;exact h3
   ·rename_i c
    rw [if_neg c] at h3
    split
    ·rename_i c
     rw [if_pos c,anZ] at h3
     rw [anZ]
     exact ⟨h3.1,aov ((atQ o4).1 h3.1) h3.2 hDE⟩
    ·rename_i c
     rw [if_neg c] at h3
     split
     ·rename_i c
      rw [if_pos c,anZ] at h3
      rw [anZ]
      exact ⟨h3.1,aov ((oB o4).1 h3.1).1 h3.2 hDE⟩
     ·rename_i c
      rw [if_neg c,anZ] at h3
      rw [anZ]
      exact ⟨ao6 hDE ht.2.2 h3.1,h3.2⟩
theorem apu {t:Tm} (h:In k t) {V D:Int} (hr:anW t V D=0):Fm t:=by
 have hr':=hr
 unfold anW at hr
 split at hr
 ·cases hr
 split at hr
 ·cases hr
 split at hr
 ·cases hr
 obtain ⟨_,_,hs⟩:=aoN hr'
 exact ⟨h.1,pS (by omega) (by omega) (aqc t h.1 (aoD t hs) (aoS hs))⟩
structure MayR (k:Nat) (x t:Tm) (V D:Int) (r:Tm×Bool×Int):Prop where
 ins:In k r.1
 no:r.2.1=false->r.1=noT
 ok:r.2.1=true->r.2.2=0/\anW r.1 V D=0/\r.1.kind=x.kind/\(x.kind=15->r.1.sys.map (·.face)=x.sys.map (·.face))
def asO (r:Tm×Bool×Int):Prop:=r.2.1=true->bw r.1=0/\r.2.2=0
theorem asL (e:Int):asO (noT,false,e):=fun h=>by cases h
theorem aAR (q:Tm×Int):(∃e,atL q=(noT,false,e))\/q.2=0/\bw q.1=0/\atL q=(q.1,true,0):=by
 unfold atL dM
 by_cases h:q.2=0
 ·rw [if_pos h]
  by_cases h':bw q.1=0
  ·rw [if_pos h'];exact .inr ⟨h,h',rfl⟩
  ·rw [if_neg h']
   refine .inl ⟨bw q.1, ?_⟩
   dsimp only
   rw [show (bw q.1==0)=false from by simpa using h']
 ·rw [if_neg h]
  refine .inl ⟨q.2, ?_⟩
  dsimp only
  rw [show (q.2==0)=false from by simpa using h]
theorem avo (q:Tm×Int):asO (atL q):=by
 rcases aAR q with ⟨e,he⟩|⟨_,h,he⟩
 ·rw [he];exact asL e
 ·rw [he];exact fun _=>⟨h,rfl⟩
theorem aAt (x:Except Int Tm):asO (ar_ x):=by
 cases x with
 |error e=>exact asL e
 |ok t=>
  by_cases h:bw t=0
  ·rw [show ar_ (.ok t)=(t,true,0) from if_pos h];exact fun _=>⟨h,rfl⟩
  ·rw [show ar_ (.ok t)=(noT,false,bw t) from if_neg h];exact asL _
theorem asa {c:Prop} [Decidable c] {a b:Tm×Bool×Int} (ha:asO a) (hb:asO b):asO (if c then a else b):=by
 by_cases h:c
 ·rw [if_pos h];exact ha
 ·rw [if_neg h];exact hb
theorem ayN {r s:Tm×Bool×Int} (hr:asO r) (hs:asO s):asO (aux r s):=asa hr hs
theorem aI5 (t:Tm):asO (awA t):=asa (asL _) (asa (avo _) (asL _))
theorem aI3 (t:Tm):asO (h_ t):=asa (asL _) (asa (aAt _) (asL _))
theorem aI4 (t:Tm):asO (pP t):=asa (asL _) (asa (aAt _) (asL _))
theorem aI7 (t:Tm):asO (trO t):=asa (asL _) (asa (asL _) (asa (avo _) (asa (avo _) (asa (avo _) (asa (avo _) (asa (aI3 t) (asa (aI5 t) (asL _))))))))
theorem aI2 (t:Tm):asO (avr t):=asa (asL _) (asa (avo _) (asL _))
theorem aI6 (t:Tm):asO (hcG t):=asa (asL _) (asa (avo _) (asa (asL _) (asa (aAt _) (asL _))))
theorem aI8 {defs:List Df} (hd:asU k defs) (t:Tm):asO (if (atn defs t).2=true then ((atn defs t).1,true,0) else (noT,false,0)):=by
 by_cases h:(atn defs t).2=true
 ·rw [if_pos h]
  refine fun _=>⟨?_,rfl⟩
  unfold atn at h ⊢
  by_cases h2:t.kind=2
  ·rw [if_pos h2] at h ⊢
   cases hf:defs.find? fun d=>decide (d.name=t.name) with
   |none=>rw [hf] at h;cases h
   |some d=>
    rw [hf] at h
    have h:(anW d.body 0 0==0)=true:=h
    exact (apu (hd.2 d (List.mem_of_find?_eq_some hf)) (by simpa using h)).2
  ·rw [if_neg h2] at h;cases h
 ·rw [if_neg h];exact asL _
theorem aDp {defs:List Df} (hd:asU k defs) (t:Tm):asO (stG defs t):=asa (asL _) (ayN (aI2 t) (ayN (aI4 t) (ayN (aI7 t) (ayN (aI6 t) (aI8 hd t)))))
theorem aE5 {kd D:Int} {f:LC} {ks:LT} (h:(ks.length:Int)=cz kd) (h1:cV f=true) (h2:dg f D=true):bX kd D ⟨f,ks⟩=true:=by
 show (decide ((ks.length:Int)=cz kd)&&(cV f&&dg f D))=true
 grind
section
variable {V D:Int} {a y k0:Tm} {sys:LB}
end
section
variable {V D:Int} {a y:Tm} {sys:LB}
end
theorem aDu {V D kd:Int}: ∀ {l:LB},(∀y∈l,bX kd D y=true/\ca false V D kd y.kids=true)->l.all (bX kd D)=true/\ck false V D kd l=true:=by
 intro l
 induction l with
 |nil=>grind [ck]
 |cons x l ih=>
  intro h
  obtain ⟨q1,q2⟩:=h x (by simp)
  obtain ⟨i1,i2⟩:=ih fun y hy=>h y (by simp [hy])
  obtain ⟨f,ks⟩:=x
  grind [ck,jT]
theorem wM1 {V D kd:Int} {t:Tm}:ca false V D kd [t]=true↔Wk0 V (D+av kd) t:=by grind [ca]
theorem aJi {V D kd:Int} {a b:LB} (ha:a.all (bX kd D)=true/\ck false V D kd a=true) (hb:b.all (bX kd D)=true/\ck false V D kd b=true):(a++b).all (bX kd D)=true/\ck false V D kd (a++b)=true:=by
 grind [wH]
def Wb (n V D:Int) (t:Tm):Prop:=Wk0 V D t/\bdT t<=n
theorem Wb.mono {n m V D:Int} {t:Tm} (h:Wb n V D t) (hn:n<=m):Wb m V D t:=⟨h.1,by have:=h.2;omega⟩
def WB (n kd V D:Int) (l:LB):Prop:=(l.all (bX kd D)=true/\ck false V D kd l=true)/\ ∀b∈l,∀x∈b.kids,bdT x<=n
theorem WB.app {n kd V D:Int} {a b:LB} (ha:WB n kd V D a) (hb:WB n kd V D b):WB n kd V D (a++b):=
 ⟨aJi ha.1 hb.1,fun y hy=>(arH.1 hy).elim (ha.2 y) (hb.2 y)⟩
theorem WB.nil {n kd V D:Int}:WB n kd V D []:=⟨aDu (fun y hy=>by cases hy),fun y hy=>by cases hy⟩
theorem WB.of {n kd V D:Int} (hp:cz kd=1) {l:LB} (h: ∀b∈l,∃z,b.kids=[z]/\cV b.face=true/\dg b.face D=true/\Wb n V (D+av kd) z):WB n kd V D l:=by
 refine ⟨aDu fun b hb=> ?_,fun b hb x hx=> ?_⟩
 ·obtain ⟨z,q1,q2,q3,q4⟩:=h b hb
  obtain ⟨f,ks⟩:=b
  have q1:ks=[z]:=q1
  subst q1
  exact ⟨aE5 (by grind) q2 q3,wM1.2 q4.1⟩
 ·obtain ⟨z,q1,q2,q3,q4⟩:=h b hb
  rw [q1,List.mem_singleton] at hx
  subst hx;exact q4.2
section
variable {phi:LC} {V D n:Int}
end
section
variable {phi:LC} {V D n:Int}
end


section
variable {t g b a:Tm}
theorem aF_ (fg:Fm g) (hg:g.kind=16): ∀ {l l':LB},(∀b∈l,b.kids=[AK b]/\Fm (AK b)/\RX true b.face)->in1 (esS g) l= .ok l'->BrP 50000 l'/\l'.length=l.length:=by
 intro l
 induction l with
 |nil=>grind [in1,atK]
 |cons x l ih=>
  intro l' hx h
  rw [in1] at h
  obtain ⟨u,g1,h⟩:=i8 h
  obtain ⟨m,g2,h⟩:=i8 h
  injection h with h;subst h
  obtain ⟨i1,i2⟩:=ih (fun b hb=>hx b (by simp [hb])) g2
  obtain ⟨q1,q2,q3⟩:=hx x (by simp)
  have:=azZ (u:=u) (.inl (mD (by omega) (azf fg hg) g1)) q2
  grind [atT,G9]
theorem aGb (hk:F3 k) (ft:Fm t) (fb:Fm b): ∀ {l l':LB},(∀b∈l,b.kids=[AK b,k1 b]/\Fm (AK b)/\Fm (k1 b)/\RX true b.face)->in2 b t.sys l= .ok l'->BrP 500000 l'/\l'.length=l.length:=by
 intro l
 induction l with
 |nil=>grind [in2,atK]
 |cons x l ih=>
  intro l' hx h
  rw [in2] at h
  obtain ⟨f,g1,h⟩:=i8 h
  obtain ⟨w,g2,h⟩:=i8 h
  obtain ⟨m,g3,h⟩:=i8 h
  injection h with h;subst h
  obtain ⟨i1,i2⟩:=ih (fun b hb=>hx b (by simp [hb])) g3
  obtain ⟨q1,q2,q3,q4⟩:=hx x (by simp)
  have ff:=mD (by omega) q3 g1
  obtain ⟨so,fw',hfe⟩:=BI g2
  have hwx:=Jc hk ft
  have fw:Fm w:=⟨(ux hk q2 fb (iQ (wg q2.ok fb.ok hwx.1 so).2.2) hfe).1.1,fw'⟩
  have q9:=at6 (kd:=9) (by omega) (n:=20000) (ks:=[f]) (fun x hx=>by simp at hx;subst hx;exact ⟨ff.sm,by have:=ff.dep;omega⟩) (by simp)
  have q6:=at6 (kd:=6) (by omega) (n:=80001) (ks:=[tmK 9 [f],w]) (fun x hx=>by
   simp at hx
   rcases hx with rfl|rfl
   ·refine ⟨q9.1, ?_⟩
    unfold tmK;rw [am,aH,aH,aO];have:=ff.dep;omega
   ·exact ⟨fw.sm.mono (by omega),by have:=fw.dep;omega⟩) (by simp)
  exact ⟨atT (G9 q4) (q6.1.mono (by omega)) (by omega) i1,by grind⟩
end
theorem aG5 (hk:F3 k) {t y:Tm} (ft:Fm t) (h15:t.kind=15) (h16:(t.kids.getD 0 noT).kind=16) (h:awQ t= .ok y):In k y/\y.kind=17:=by
 obtain ⟨g,b,hkd⟩:=I8 (E5 ft h15 (n:=2) rfl)
 obtain ⟨d0,d1⟩:=EC hkd
 have fg:Fm g:=ft.kid (by grind)
 have fb:Fm b:=ft.kid (by grind)
 obtain ⟨sy,syl⟩:=ft.sy h15
 rw [d0] at h16
 obtain ⟨hx,hl,a,hak,fa⟩:=fg.gl h16
 unfold awQ at h
 rw [d0,d1] at h
 obtain ⟨l1,e1,h⟩:=i8 h
 obtain ⟨l2,e2,h⟩:=i8 h
 injection h with h;subst h
 obtain ⟨b1,n1⟩:=aF_ fg h16 sy e1
 obtain ⟨b2,n2⟩:=aGb hk ft fb hx e2
 exact ⟨aCw hk ft fg h16 (by grind) fa fb b1 (by omega) b2 (by omega),rfl⟩
set_option maxRecDepth 100000

set_option maxRecDepth 20000
section
variable {hd:Tm->(Int->OS S)->OS S} {t:Tm}
end
set_option maxRecDepth 100000
theorem aFZ (hk:F3 k) {phi:LC} {g a:Tm} (fg:Fm g) (hg:g.kind=16) (fa:Fm a) (hp:RX true phi):OkT (awz phi g a).1:=by
 obtain ⟨fB,sB,lB⟩:=aAK hk fg hg fa hp
 unfold awz
 dsimp only
 generalize auY g phi a=B at fB sB lB ⊢
 obtain ⟨st,a1,c0⟩:=B
 dsimp only at fB sB lB ⊢
 have gG:GN (mM c0 (an8 0 [⟨0,0⟩] g)).1:=ayc fg hg Qz (aBA (by decide))
 generalize mM c0 (an8 0 [⟨0,0⟩] g)=G at gG ⊢
 obtain ⟨f1,hG,lG,_⟩:=aBc gG
 have hws:=aDv (phi:=phi) (st:=st) (a1:=a1) (t1:=asR G.1.kids) (c:=G.2) hk fa fB f1 hp sB lB hG
 have hwl:(ark (wsF phi a a1 (asR G.1.kids) st) G.2 G.1.sys).1.length=G.1.sys.length:=aur
 generalize ark (wsF phi a a1 (asR G.1.kids) st) G.2 G.1.sys=ws at hws hwl ⊢
 have fU: ∀c,FN (mM c (wA 0 1 a1)).1:=fun c=>asl (by omega) (by omega) fB.sm.1.ok
 obtain ⟨w1,w2⟩:=awX (F:=fun c=>mM c (wA 0 1 a1)) hp (n:=20000) (fun c=>⟨(fU c).sm.1,by have:=(fU c).sm.2;omega⟩) ws.2
 generalize asb phi (fun c=>mM c (wA 0 1 a1)) ws.2=W at w1 w2 ⊢
 have hzip: ∀q∈G.1.sys.zip ws.1,q.1∈G.1.sys/\q.2∈ws.1:=fun q hq=>⟨(List.of_mem_zip hq).1,(List.of_mem_zip hq).2⟩
 generalize hZ:ark (auc a1) W.2 (G.1.sys.zip ws.1)=Z
 have zq: ∀y∈Z.1,∃t,y.kids=[t]/\OkT t/\am t<=299/\aq y.face/\y.face.length<1073741824:=by
  rw [<-hZ]
  exact au7 fun q hq c=>aA7 fB.sm.1.ok (hws q.2 (hzip q hq).2).1.ok (hG q.1 (hzip q hq).1).2.2.1.ok (G9 (hG q.1 (hzip q hq).1).2.2.2) c
 have zl:Z.1.length=(G.1.sys.zip ws.1).length:=by grind [aur]
 have pq: ∀y∈(G.1.sys.zip ws.1).map awT,∃t,y.kids=[t]/\OkT t/\am t<=301/\aq y.face/\y.face.length<1073741824:=fun y hy=>by
  obtain ⟨q,hq,rfl⟩:=art.1 hy
  obtain ⟨h1,h2⟩:=hws q.2 (hzip q hq).2
  have r:=G9 (hG q.1 (hzip q hq).1).2.2.2
  refine ⟨_,rfl, ?_, ?_,r.1,r.2⟩
  ·unfold tmK;rw [OkT,aZ,aZ,ba];exact ⟨⟨by unfold aG;omega,by unfold aG;omega,by decide,(fun c hc=>by cases hc),by simp,by simp,by simp⟩,⟨h1.ok,trivial⟩,trivial⟩
  grind [tmK,am,aH,aO]
 obtain ⟨o1,o2⟩:=ayJ (l:=W.1++Z.1) (n:=299) fun y hy=>by
  rcases arH.1 hy with hy|hy
  ·obtain ⟨t,q1,q2,q3,q4,q5⟩:=w1 y hy;exact ⟨t,q1,q2.ok,q3,q4,q5⟩
  grind
 obtain ⟨o3,o4⟩:=ayJ pq
 have hzl:(G.1.sys.zip ws.1).length<=10000:=by grind
 rw [OkT,aZ,aZ,OkT,aZ,aZ,aZ]
 exact ⟨⟨by unfold aG;omega,by unfold aG;omega,by decide,(fun c hc=>by cases hc),by simp,by simp,by grind⟩,⟨⟨⟨by unfold aG;omega,by unfold aG;omega,by decide,(fun c hc=>by cases hc),by simp,by simp,by grind⟩,⟨f1.sm.1.ok,fB.sm.1.ok,trivial⟩,o1⟩,trivial⟩,o3⟩
set_option maxRecDepth 20000
theorem as0:OkT noT:=q2_no.1.ok
theorem avh {q:Tm×Int} (h:OkT q.1):OkT (atL q).1:=by
 rcases aAR q with ⟨e,he⟩|⟨_,_,he⟩
 ·rw [he];exact as0
 ·rw [he];exact h
theorem aG7 {x:Except Int Tm} (h: ∀y,x= .ok y->OkT y):OkT (ar_ x).1:=by
 cases x with
 |error e=>exact as0
 |ok t=>
  by_cases hf:bw t=0
  ·rw [show ar_ (.ok t)=(t,true,0) from if_pos hf];exact h t rfl
  ·rw [show ar_ (.ok t)=(noT,false,bw t) from if_neg hf];exact as0
theorem asK {c:Prop} [Decidable c] {a b:Tm×Bool×Int} (ha:c->OkT a.1) (hb: ¬c->OkT b.1):OkT (if c then a else b).1:=by
 by_cases h:c
 ·rw [if_pos h];exact ha h
 ·rw [if_neg h];exact hb h
theorem f4_min:F4 4294970296:=by unfold F4;omega
theorem aI9 {t:Tm} (ft:Fm t):OkT (trO t).1:=by
 have hk4:=f4_min
 have hk:=hk4.f3
 unfold trO
 refine asK (fun _=>as0) fun _=>asK (fun _=>as0) fun h14=> ?_
 have h14:t.kind=14:=Decidable.not_not.1 h14
 obtain ⟨l,a,hkd⟩:=I8 (E5 ft h14 (n:=2) rfl)
 obtain ⟨d0',d1'⟩:=EC hkd
 have fl:Fm l:=ft.kid (by rw [hkd];simp)
 have fa:Fm a:=ft.kid (by rw [hkd];simp)
 have hp:=ft.r14 h14
 dsimp only
 rw [d0',d1']
 refine asK (fun _=>avh fa.ok) fun _=>asK (fun h4=>avh ?_) fun _=>asK (fun h7=>avh ?_) fun _=>asK (fun h11=>avh ?_) fun _=>asK (fun _=>(apb hk (ft.isIn hk)).1) fun _=>asK (fun h16=> ?_) fun _=>as0
 ·obtain ⟨k0,k1',hb⟩:=I8 (E5 fl h4 (n:=2) rfl)
  obtain ⟨e0,e1⟩:=EC hb
  rw [e0,e1]
  obtain ⟨x1,x2,x3,x4,x5,x6⟩:=a
  obtain ⟨ks,c,_,q2,q3⟩:=aDg (S:=Unit) (phi:=t.r) hk4 hb (fl.kid (by rw [hb];simp)) (fl.kid (by rw [hb];simp)) fa hp (fun _=>none)
  rw [<-q2];exact q3.1
 ·obtain ⟨k0,k1',hb⟩:=I8 (E5 fl h7 (n:=2) rfl)
  obtain ⟨e0,e1⟩:=EC hb
  rw [e0,e1]
  obtain ⟨x1,x2,x3,x4,x5,x6⟩:=a
  obtain ⟨ks,c,_,q2,q3⟩:=aDi (S:=Unit) (phi:=t.r) hk4 hb (fl.kid (by rw [hb];simp)) (fl.kid (by rw [hb];simp)) fa hp (fun _=>none)
  rw [<-q2];exact q3.1
 ·obtain ⟨k0,kl,kr,hb⟩:=azt (E5 fl h11 (n:=3) rfl)
  rw [show l.kids.getD 0 noT=k0 by rw [hb];rfl,show l.kids.getD 1 noT=kl by rw [hb];rfl,show l.kids.getD 2 noT=kr by rw [hb];rfl]
  obtain ⟨x1,x2,x3,x4,x5,x6⟩:=a
  obtain ⟨ks,c,_,q2,q3⟩:=aDf (S:=Unit) (phi:=t.r) hk hb (fl.kid (by rw [hb];simp)) (fl.kid (by rw [hb];simp)) (fl.kid (by rw [hb];simp)) fa hp (fun _=>none)
  rw [<-q2];exact q3.1
 ·unfold awA
  refine asK (fun _=>as0) fun _=>asK (fun _=> ?_) fun _=>as0
  rw [d0',d1']
  exact avh (q:=awz t.r l a) (aFZ hk fl h16 fa hp)
theorem aE1 {t:Tm} (ft:Fm t):OkT (avr t).1:=asK (fun _=>as0) fun _=>asK (fun _=>avh (aAJ ft).1) fun _=>as0
theorem aF3 {t:Tm} (ft:Fm t):OkT (hcG t).1:=by
 have hk4:=f4_min
 have hk:=hk4.f3
 unfold hcG
 refine asK (fun _=>as0) fun h0=>asK (fun h=> ?_) fun hn=> ?_
 ·obtain ⟨k0,a,hkd⟩:=I8 (E5 ft h.1 (n:=2) rfl)
  obtain ⟨d0,d1⟩:=EC hkd
  have fa:Fm a:=ft.kid (by rw [hkd];simp)
  obtain ⟨sy,syl⟩:=ft.sy h.1
  rw [d1]
  have hq:=au7 (F:=atS a) (Q:=awZ) (l:=t.sys) (c:=0) fun x hx c=>aDr fa ⟨(sy x hx).2.1,(sy x hx).2.2⟩ c
  have hl:(ark (atS a) 0 t.sys).1.length=t.sys.length:=aur
  obtain ⟨b1,b2,b3⟩:=aAN hq
  refine avh ?_
  show OkT (.mk 16 0 alH [] [a] (ark (atS a) 0 t.sys).1)
  rw [OkT,aZ,aZ]
  exact ⟨⟨by unfold aG;omega,by unfold aG;omega,by decide,(fun c hc=>by cases hc),by simp,by simp,by omega⟩,⟨fa.ok,trivial⟩,b1⟩
 ·unfold ava
  refine asK (fun _=>as0) fun _=>asK (fun hc=>aG7 fun y hy=> ?_) fun _=>as0
  obtain ⟨h15,hkk⟩:=hc
  obtain ⟨k0,a,hkd⟩:=I8 (E5 ft h15 (n:=2) rfl)
  obtain ⟨d0,d1⟩:=EC hkd
  have fk:Fm k0:=ft.kid (by rw [hkd];simp)
  have fa:Fm a:=ft.kid (by rw [hkd];simp)
  obtain ⟨sy,syl⟩:=ft.sy h15
  rw [d0] at hkk
  unfold azm at hy
  rw [d0,d1] at hy
  dsimp only at hy
  by_cases h4:k0.kind=4
  ·rw [if_pos h4] at hy
   obtain ⟨p,b,hb⟩:=I8 (E5 fk h4 (n:=2) rfl)
   rw [(EC hb).2] at hy
   obtain ⟨x1,x2,x3,x4,x5,x6⟩:=a
   obtain ⟨w1,i1,_,i3,i4,_⟩:=aC_ (S:=Unit) hk hb (fk.kid (by rw [hb];simp)) fa sy syl (fun _=>none)
   rw [<-(i4 y hy).1];exact i3.1
  rw [if_neg h4] at hy
  by_cases h7:k0.kind=7
  ·rw [if_pos h7] at hy
   obtain ⟨p,b,hb⟩:=I8 (E5 fk h7 (n:=2) rfl)
   rw [(EC hb).1,(EC hb).2] at hy
   obtain ⟨x1,x2,x3,x4,x5,x6⟩:=a
   obtain ⟨w1,i1,_,i3,i4,_⟩:=aDa (S:=Unit) hk4 hb (fk.kid (by rw [hb];simp)) (fk.kid (by rw [hb];simp)) fa sy syl (fun _=>none)
   rw [<-(i4 y hy).1];exact i3.1
  rw [if_neg h7] at hy
  by_cases h11:k0.kind=11
  ·rw [if_pos h11] at hy
   obtain ⟨p,l,r,hb⟩:=azt (E5 fk h11 (n:=3) rfl)
   rw [hb] at hy
   obtain ⟨x1,x2,x3,x4,x5,x6⟩:=a
   obtain ⟨w1,i1,_,i3,i4,_⟩:=aC9 (S:=Unit) hk hb (fk.kid (by rw [hb];simp)) (fk.kid (by rw [hb];simp)) (fk.kid (by rw [hb];simp)) fa sy syl (fun _=>none)
   rw [<-(i4 y hy).1];exact i3.1
  rw [if_neg h11] at hy
  by_cases h3:k0.kind=3
  ·exact absurd ⟨h15,by rw [d0];exact h3⟩ hn
  rw [if_neg h3] at hy
  exact (aG5 hk ft h15 (by rw [d0];omega) hy).1.1
theorem aJb {defs:List Df} (hd:asU k defs) (t:Tm):OkT (if (atn defs t).2=true then ((atn defs t).1,true,(0:Int)) else (noT,false,0)).1:=by
 refine asK (fun h=> ?_) fun _=>as0
 unfold atn at h ⊢
 by_cases h2:t.kind=2
 ·rw [if_pos h2] at h ⊢
  cases hf:defs.find? fun d=>decide (d.name=t.name) with
  |none=>rw [hf] at h;cases h
  |some d=>exact (hd.2 d (List.mem_of_find?_eq_some hf)).1
 ·rw [if_neg h2] at h;cases h
theorem ayi {r s:Tm×Bool×Int} (hr:OkT r.1) (hs:OkT s.1):OkT (aux r s).1:=asK (fun _=>hr) fun _=>hs
theorem aIS {defs:List Df} (hd:asU k defs) {t:Tm} (ht:OkT t):OkT (stG defs t).1:=by
 unfold stG
 refine asK (fun _=>as0) fun h0=> ?_
 have ft:Fm t:=⟨ht,Decidable.not_not.1 h0⟩
 exact ayi (aE1 ft) (ayi (acE f4_min.f3 (ft.isIn f4_min.f3)).1 (ayi (aI9 ft) (ayi (aF3 ft) (aJb hd t))))
theorem az0 {defs:List Df} (hd:asU k defs) {t:Tm} (ht:OkT t) (h:(stG defs t).2.1=true):Fm (stG defs t).1/\(stG defs t).2.2=0:=
 ⟨⟨aIS hd ht,(aDp hd t h).1⟩,(aDp hd t h).2⟩
noncomputable def eqB {α:Type} (a b:α):Bool:= @decide (a=b) (Classical.propDecidable _)
theorem atB {α:Type} {a b:α} (h:a=b):eqB a b=true:=by unfold eqB;exact @decide_eq_true _ (Classical.propDecidable _) h
theorem asj {α:Type} {a b:α} (h:a≠b):eqB a b=false:=by unfold eqB;exact @decide_eq_false _ (Classical.propDecidable _) h
section
variable {hd:arT S}
theorem aGO (I:Bool->OS S) {l l2:LT} (hQ: ∀y∈l,∀u g,hd y u g=g (eqB y u)) (hl:l.length<4294967296):
  ∀ (r s p q:LT) (m:Nat),l=p++r->l2=q++s->p.length=q.length->r.length=s.length->r.length<m->av3 hd k I l2 l m (p.length:Int)=I (eqB r s):=by
 intro r
 induction r with
 |nil=>
  intro s p q m h h2 hp hs hm
  obtain ⟨m,rfl,hm'⟩:=amr hm
  have:s=[]:=atc.1 hs.symm
  subst this
  simp only [av3,axi,akb h,n3,atB rfl]
 |cons x r ih=>
  intro s p q m h h2 hp hs hm
  obtain ⟨m,rfl,hm'⟩:=amr hm
  obtain ⟨e1,e2,e3,e4⟩:=apy h (by omega)
  cases s with
  |nil=>simp at hs
  |cons y s=>
  have g2:af l2 (p.length:Int)=some y:=by rw [h2,hp];exact ED (n:=q.length) rfl (by simp)
  simp only [av3,axi,e1,ae,e2,g2,an4,ar,hQ x (by rw [h];simp),e3]
  by_cases hxy:x=y
  ·subst hxy
   rw [atB rfl,aq6,n3,ih s (p++[x]) (q++[x]) m e4 (by rw [h2];simp) (by simp [hp]) (by simpa using hs) hm']
   by_cases hrs:r=s
   ·subst hrs;rw [atB rfl,atB rfl]
   ·rw [asj hrs,asj (fun q=>hrs (List.cons.inj q).2)]
  ·rw [asj hxy,aqD,ae,asj (fun q=>hxy (List.cons.inj q).1)]
theorem aC8 (hk:4294967296<=k) (I:Bool->OS S) {l:LT} (l2:LT) (hQ: ∀y∈l,∀u g,hd y u g=g (eqB y u)) (hl:l.length<4294967296):awv hd k l l2 I=I (eqB l l2):=by
 simp only [awv,aAm]
 by_cases h:l.length=l2.length
 ·rw [h,beq_self_eq_true,aq6,n3]
  exact aGO I hQ hl l l2 [] [] k rfl rfl rfl h (by omega)
 ·rw [beq_false_of_ne (by omega),aqD,ae,asj (fun q=>h (congrArg List.length q))]
theorem aGP (hk:4294967296+1<=k) (I:Bool->OS S) {l l2:LB} (hQ: ∀b∈l,∀y∈b.kids,∀u g,hd y u g=g (eqB y u)) (hb: ∀b∈l,b.kids.length<4294967296/\b.face.length<4294967296) (hl:l.length<4294967296):
  ∀ (r s p q:LB) (m:Nat),l=p++r->l2=q++s->p.length=q.length->r.length=s.length->r.length<m->av2 hd k I l2 l m (p.length:Int)=I (eqB r s):=by
 have hfu:Fu k:=by unfold Fu;omega
 intro r
 induction r with
 |nil=>
  intro s p q m h h2 hp hs hm
  obtain ⟨m,rfl,hm'⟩:=amr hm
  have:s=[]:=atc.1 hs.symm
  subst this
  simp only [av2,axh,akb h,n3,atB rfl]
 |cons x r ih=>
  intro s p q m h h2 hp hs hm
  obtain ⟨m,rfl,hm'⟩:=amr hm
  obtain ⟨e1,e2,e3,e4⟩:=apy h (by omega)
  cases s with
  |nil=>simp at hs
  |cons y s=>
  have g2:af l2 (p.length:Int)=some y:=by rw [h2,hp];exact ED (n:=q.length) rfl (by simp)
  obtain ⟨b1,b2⟩:=hb x (by rw [h];simp)
  have hx: ∀g:Bool->OS S,axY hd k x y g=g (eqB x y):=fun g=>by
   obtain ⟨f,ks⟩:=x
   obtain ⟨f',ks'⟩:=y
   simp only [axY,ag hfu,aiN hfu b2,aC8 (by omega) _ ks' (hQ ⟨f,ks⟩ (by rw [h];simp)) b1]
   by_cases hf:f=f'
   ·subst hf
    rw [decide_eq_true rfl,ae]
    by_cases hk':ks=ks'
    ·subst hk';rw [atB rfl,atB rfl]
    ·rw [asj hk',asj (fun q=>hk' (by injection q))]
   ·rw [decide_eq_false hf,n3,asj (fun q=>hf (by injection q))]
  simp only [av2,axh,e1,ae,e2,g2,an4,ag hfu,hx,e3]
  by_cases hxy:x=y
  ·subst hxy
   rw [atB rfl,aq6,n3,ih s (p++[x]) (q++[x]) m e4 (by rw [h2];simp) (by simp [hp]) (by simpa using hs) hm']
   by_cases hrs:r=s
   ·subst hrs;rw [atB rfl,atB rfl]
   ·rw [asj hrs,asj (fun q=>hrs (List.cons.inj q).2)]
  ·rw [asj hxy,aqD,ae,asj (fun q=>hxy (List.cons.inj q).1)]
end
theorem aID (t:Tm):OkT t-> ∀ {k:Nat} (u:Tm) (I:Bool->OS S),Fd k (am t+1)->ate k t u I=I (eqB t u):=by
 induction t using c7 with
 |h t ih1 ih2=>
  intro ht k u I hk
  obtain ⟨q,rfl⟩: ∃q,k=q+1:=⟨k-1,by have:4294967296+(am t+1)<=k:=hk;omega⟩
  have hq:4294967296+1<=q:=by have h1:4294967296+(am t+1)<=q+1:=hk;have:=alF t;omega
  have hfu:Fu q:=by show 4294967296<=q;omega
  obtain ⟨o1,o2,o3,o4,o5,o6,o7⟩:=ht.no
  have hd0:4294967296+(am t+1)<=q+1:=hk
  have hQ: ∀y∈t.kids,∀ (v:Tm) (g:Bool->OS S),ate q y v g=g (eqB y v):=fun y hy v g=>ih1 y hy (ht.ki hy) v g (by have:=bY hy;show 4294967296+(am y+1)<=q;omega)
  have hQ': ∀b∈t.sys,∀y∈b.kids,∀ (v:Tm) (g:Bool->OS S),ate q y v g=g (eqB y v):=fun b hb y hy v g=>ih2 b hb y hy ((ht.bi hb).2 y hy) v g (by have:=b8 hb hy;show 4294967296+(am y+1)<=q;omega)
  have hS: ∀ (l2:LB) (g:Bool->OS S),axX (ate q) q t.sys l2 g=g (eqB t.sys l2):=fun l2 g=>by
   simp only [axX,aAl]
   by_cases h:t.sys.length=l2.length
   ·rw [h,beq_self_eq_true,aq6,n3]
    exact aGP hq g hQ' (fun b hb=>by have:=(ht.bi hb).1;exact ⟨by omega,by omega⟩) (by omega) t.sys l2 [] [] q rfl rfl rfl h (by omega)
   ·rw [beq_false_of_ne (by omega),aqD,ae,asj (fun q=>h (congrArg List.length q))]
  have e:ate (q+1) t u I=aAr (ate q) q I t u:=rfl
  rw [e]
  simp only [aAr,ag hfu,Jq,aiN hfu (show t.r.length<4294967296 by omega),aC8 hfu _ u.kids hQ (show t.kids.length<4294967296 by omega),hS]
  obtain ⟨a1,a2,a3,a4,a5,a6⟩:=t
  obtain ⟨b1,b2,b3,b4,b5,b6⟩:=u
  show ab (a1==b1) (ab (a2==b2) (ab (decide (a3=b3)) (ab (decide (a4=b4)) (ab (eqB a5 b5) (I (eqB a6 b6)) (I false)) (I false)) (I false)) (I false)) (I false)=_
  by_cases h1:a1=b1
  case neg=>rw [beq_false_of_ne h1,n3,asj (fun q=>h1 (by injection q))]
  by_cases h2:a2=b2
  case neg=>rw [h1,beq_self_eq_true,ae,beq_false_of_ne h2,n3,asj (fun q=>h2 (by injection q))]
  by_cases h3:a3=b3
  case neg=>rw [h1,h2,beq_self_eq_true,ae,beq_self_eq_true,ae,decide_eq_false h3,n3,asj (fun q=>h3 (by injection q))]
  by_cases h4:a4=b4
  case neg=>rw [h1,h2,beq_self_eq_true,ae,beq_self_eq_true,ae,decide_eq_true h3,ae,decide_eq_false h4,n3,asj (fun q=>h4 (by injection q))]
  by_cases h5:a5=b5
  case neg=>rw [h1,h2,beq_self_eq_true,ae,beq_self_eq_true,ae,decide_eq_true h3,ae,decide_eq_true h4,ae,asj h5,n3,asj (fun q=>h5 (by injection q))]
  subst h1;subst h2;subst h3;subst h4;subst h5
  rw [beq_self_eq_true,ae,beq_self_eq_true,ae,decide_eq_true rfl,ae,decide_eq_true rfl,ae,atB rfl,ae]
  by_cases h6:a6=b6
  ·subst h6;rw [atB rfl,atB rfl]
  ·rw [asj h6,asj (fun q=>h6 (by injection q))]
def JT (t:Tm):Prop:=OkT t/\am t<=300/\au t<=1000000
theorem JT.isIn {t:Tm} (h:JT t) (hk:F3 k):In k t:=⟨h.1,hk.fd (by have:=h.2.1;omega),by have:=h.2.2;omega⟩
theorem Fm.jt {t:Tm} (h:Fm t):JT t:=⟨h.ok,by have:=h.dep;omega,by have:=h.siz;omega⟩
def DfJ (defs:List Df):Prop:=defs.length<1073741824/\ ∀d∈defs,JT d.body
theorem DfJ.isIn {defs:List Df} (h:DfJ defs) (hk:F3 k):asU k defs:=⟨h.1,fun d hd=>(h.2 d hd).isIn hk⟩
theorem aIP: ∀ {l:LT} {i:Nat} {a:Tm},aZ l->OkT a->aZ (l.set i a)/\aH (l.set i a)<=max (aH l) (am a)/\ay (l.set i a)<=ay l+au a:=by
 intro l
 induction l with
 |nil=>intro i a h _;rw [List.set_nil];exact ⟨h,by omega,by omega⟩
 |cons x l ih=>
  intro i a h ha
  rw [aZ] at h
  cases i with
  |zero=>rw [List.set_cons_zero,aZ,aH,aH,ay,ay];exact ⟨⟨ha,h.2⟩,by omega,by omega⟩
  |succ i=>
   obtain ⟨q1,q2,q3⟩:=ih (i:=i) h.2 ha
   rw [List.set_cons_succ,aZ,aH,aH,ay,ay];exact ⟨⟨h.1,q1⟩,by omega,by omega⟩
theorem azV {t a:Tm} {i:Nat} (ft:Fm t) (fa:Fm a):JT (atR t i a):=by
 have h1:=ft.ok;have h2:=ft.dep;have h3:=ft.siz;have h4:=fa.dep;have h5:=fa.siz
 obtain ⟨kd,n,nm,r,ks,sys⟩:=t
 rw [OkT] at h1
 rw [am] at h2
 rw [au] at h3
 obtain ⟨q1,q2,q3⟩:=aIP (i:=i) h1.2.1 fa.ok
 obtain ⟨o1,o2,o3,o4,o5,o6,o7⟩:=h1.1
 show JT (.mk kd n nm r (ks.set i a) sys)
 refine ⟨?_, ?_, ?_⟩
 ·rw [OkT];exact ⟨⟨o1,o2,o3,o4,o5,by rw [List.length_set];exact o6,o7⟩,q1,h1.2.2⟩
 ·rw [am];omega
 ·rw [au];omega
def plQ (t:Tm):List Nat:=(if 0<=as7 t then [(as7 t).toNat] else [])++(if t.kind=14/\(kd0 t).kind=23 then [1] else [])
def at4 (x:Except Int (Tm×Nat)) (R:Pan (Int×Int) (Tm×Int)):Prop:=match x with
 | .ok p=>R= .ok (p.1,(p.2:Int))
 | .error e=> ∃c,R= .pan (e,c)
theorem aIM (hk:F3 k) {hd:atG S} {t kid:Tm} {i:Nat} {defs:List Df} {f:Int} (ft:Fm t) (hg:af t.kids (i:Int)=some kid) {R:Pan (Int×Int) (Tm×Int)} (hR: ∀g,hd kid defs f g=g R) (fR: ∀a c,R= .ok (a,c)->Fm a) (I:Pan (Int×Int) (Tm×Bool×Int)->OS S):
  auo hd k t (i:Int) defs f I=I (match R with
   | .pan e=> .pan e
   | .ok p=>if eqB p.1 kid=true then .ok (t,false,p.2) else .ok (atR t i p.1,true,p.2)):=by
 simp only [auo,ar,hg,an4,hR]
 cases R with
 |pan e=>rfl
 |ok p=>
  obtain ⟨a,c⟩:=p
  have fa:=fR a c rfl
  show (ate k a kid fun r6=>_)=_
  rw [aID a fa.ok kid _ (hk.fd (by have:=fa.dep;omega))]
  dsimp only
  cases eqB a kid with
  |true=>rw [ae,if_pos rfl]
  |false=>
   have:=ft.ok.no.2.2.2.2.2.1
   rw [n3,if_neg (by decide),J5 (by omega)]
   rfl
noncomputable abbrev hA (defs:List Df):=hdA (stG defs) plQ 220
noncomputable abbrev hP (defs:List Df):=hdP (stG defs) plQ 220
def Ans (f:Nat) (x:Except Int (Tm×Nat)):Prop:= ∀a r,x= .ok (a,r)->Fm a/\r<=f
theorem az1 {defs:List Df} {t:Tm} (h:(stG defs t).2.2=0):bw t=0:=by
 by_cases h0:bw t=0
 ·exact h0
 ·unfold stG at h;rw [if_pos h0] at h;exact absurd h h0
noncomputable def ayO (t:Tm) (i:Nat) (kid:Tm):Pan (Int×Int) (Tm×Int)->Pan (Int×Int) (Tm×Bool×Int)
 | .pan e=> .pan e
 | .ok p=>if eqB p.1 kid=true then .ok (t,false,p.2) else .ok (atR t i p.1,true,p.2)
theorem hdP_cons {defs:List Df} {n f:Nat} {t:Tm} {i:Nat} {l:List Nat}:(∀e,hA defs n f (arp t i)= .error e->hP defs n f t (i::l)= .error e)/\
  (∀a r,hA defs n f (arp t i)= .ok (a,r)->eqB a (arp t i)=true->hP defs n f t (i::l)=hP defs n r t l)/\
  ∀a r,hA defs n f (arp t i)= .ok (a,r)->eqB a (arp t i)=false->hP defs n f t (i::l)=hA defs n r (atR t i a):=by
 refine ⟨fun e h=> ?_,fun a r h hb=> ?_,fun a r h hb=> ?_⟩
 ·show hdP (stG defs) plQ 220 n f t (i::l)=_
  rw [hdP,show hdA (stG defs) plQ 220 n f (arp t i)=_ from h]
 ·show hdP (stG defs) plQ 220 n f t (i::l)=_
  rw [hdP,show hdA (stG defs) plQ 220 n f (arp t i)=_ from h]
  exact if_pos hb
 ·show hdP (stG defs) plQ 220 n f t (i::l)=_
  rw [hdP,show hdA (stG defs) plQ 220 n f (arp t i)=_ from h]
  exact if_neg (by show ¬ (eqB a (arp t i)=true);rw [hb];decide)
theorem aq0 {defs:List Df} {n f:Nat} {t:Tm} {i:Nat} {l:List Nat} {W:(Pan (Int×Int) (Tm×Bool×Int)->OS S)->OS S} {R:Pan (Int×Int) (Tm×Int)}
  (hR:at4 (hA defs n f (arp t i)) R)
  (hW: ∀g,W g=g (ayO t i (arp t i) R))
  {L:(Pan (Int×Int) (Tm×Int)->OS S)->Int->Tm->OS S} {N:(Pan (Int×Int) (Tm×Int)->OS S)->Int->OS S}
  (hL: ∀a r,hA defs n f (arp t i)= .ok (a,r)->hA defs n r (atR t i a)≠ .error 0-> ∃R',at4 (hA defs n r (atR t i a)) R'/\ ∀I,L I (r:Int) (atR t i a)=I R')
  (hN: ∀a r,hA defs n f (arp t i)= .ok (a,r)->hP defs n r t l≠ .error 0-> ∃R',at4 (hP defs n r t l) R'/\ ∀I,N I (r:Int)=I R')
  (h0:hP defs n f t (i::l)≠ .error 0):
  ∃R',at4 (hP defs n f t (i::l)) R'/\ ∀I:Pan (Int×Int) (Tm×Int)->OS S,(W fun r6=>Pan.elim r6 (fun r6=>ab r6.2.1 (L I r6.2.2 r6.1) (N I r6.2.2)) fun e=>I (.pan (e.1,e.2)))=I R':=by
 simp only [hW]
 obtain ⟨p1,p2,p3⟩:=hdP_cons (defs:=defs) (n:=n) (f:=f) (t:=t) (i:=i) (l:=l)
 cases hx:hA defs n f (arp t i) with
 |error e=>
  rw [hx] at hR
  obtain ⟨c,rfl⟩:=hR
  rw [p1 e hx]
  exact ⟨.pan (e,c),⟨c,rfl⟩,fun _=>rfl⟩
 |ok p=>
  obtain ⟨a,r⟩:=p
  rw [hx] at hR
  have hR:R= .ok (a,(r:Int)):=hR
  subst hR
  cases hb:eqB a (arp t i) with
  |true=>
   have e:=p2 a r hx hb
   rw [e] at h0 ⊢
   obtain ⟨R',q1,q2⟩:=hN a r hx h0
   refine ⟨R',q1,fun I=> ?_⟩
   rw [<-q2 I]
   simp only [ayO,hb,if_true,Pan.elim,n3]
  |false=>
   have e:=p3 a r hx hb
   rw [e] at h0 ⊢
   obtain ⟨R',q1,q2⟩:=hL a r hx h0
   refine ⟨R',q1,fun I=> ?_⟩
   rw [<-q2 I]
   simp only [ayO,hb,Bool.false_eq_true,if_false,Pan.elim,ae]
theorem aGi:JT noT:=⟨as0,by decide,by decide⟩
theorem avK {t:Tm} (ft:Fm t) (i:Nat):JT (arp t i):=by
 unfold arp
 by_cases h:i<t.kids.length
 ·have hm:t.kids.getD i noT∈t.kids:=(arL rfl h).2
  have h1:=bY hm
  have h2:=k_ hm
  have h3:ay t.kids<=au t:=by
   obtain ⟨kd,n,nm,r,ks,sys⟩:=t
   show ay ks<=_
   rw [au];omega
  have:=ft.dep;have:=ft.siz
  exact ⟨ft.ok.ki hm,by omega,by omega⟩
 ·rw [show t.kids.getD i noT=noT by rw [List.getD_eq_getElem?_getD,List.getElem?_eq_none (by omega)];rfl];exact aGi
theorem awB {defs:List Df} (hd:DfJ defs): ∀n,(∀f t,JT t->Ans f (hA defs n f t))/\ ∀l f t,Fm t->Ans f (hP defs n f t l):=by
 have hk:F3 4294970296:=f4_min.f3
 have hP0: ∀n,(∀f t,JT t->Ans f (hA defs n f t))-> ∀l f t,Fm t->Ans f (hP defs n f t l):=by
  intro n hA1 l
  induction l with
  |nil=>
   intro f t ft a r h
   have h:hdP (stG defs) plQ 220 n f t []= .ok (a,r):=h
   rw [hdP] at h;injection h with h;injection h with q1 q2;subst q1;subst q2
   exact ⟨ft,aru _⟩
  |cons i l ih=>
   intro f t ft a r h
   obtain ⟨p1,p2,p3⟩:=hdP_cons (defs:=defs) (n:=n) (f:=f) (t:=t) (i:=i) (l:=l)
   cases hx:hA defs n f (arp t i) with
   |error e=>rw [p1 e hx] at h;cases h
   |ok p=>
    obtain ⟨b,s⟩:=p
    obtain ⟨fb,hs⟩:=hA1 f _ (avK ft i) b s hx
    cases hb:eqB b (arp t i) with
    |true=>rw [p2 b s hx hb] at h;obtain ⟨q1,q2⟩:=ih s t ft a r h;exact ⟨q1,by omega⟩
    |false=>rw [p3 b s hx hb] at h;obtain ⟨q1,q2⟩:=hA1 s _ (azV ft fb) a r h;exact ⟨q1,by omega⟩
 intro n
 induction n with
 |zero=>
  have h0: ∀f t,JT t->Ans f (hA defs 0 f t):=fun f t _ a r h=>by
   have h:hdA (stG defs) plQ 220 0 f t= .ok (a,r):=h
   rw [hdA] at h;cases h
  exact ⟨h0,hP0 0 h0⟩
 |succ n ih=>
  have h1: ∀f t,JT t->Ans f (hA defs (n+1) f t):=by
   intro f t jt a r h
   have h:hdA (stG defs) plQ 220 (n+1) f t= .ok (a,r):=h
   rw [hdA] at h
   split at h
   ·cases h
   rename_i c1
   split at h
   ·rename_i c2;exact ih.2 _ f t ⟨jt.1,az1 c2.2⟩ a r h
   rename_i c2
   split at h
   ·cases h
   rename_i c3
   have e0:(stG defs t).2.2=0:=Decidable.byContradiction fun q=>c1 ⟨q,c3⟩
   have e1:(stG defs t).2.1=true:=by
    cases hb:(stG defs t).2.1 with
    |true=>rfl
    |false=>exact absurd ⟨hb,e0⟩ c2
   obtain ⟨q1,q2⟩:=ih.1 (f-1) _ (az0 (hd.isIn hk) jt.1 e1).1.jt a r h
   exact ⟨q1,by omega⟩
  exact ⟨h1,hP0 _ h1⟩
theorem aGI {defs:List Df} (hd:DfJ defs): ∀n k m,n<=m->4294970296+n<=k-> ∀f t,f<=100000->JT t->hA defs n f t≠ .error 0->
  ∃R,at4 (hA defs n f t) R/\ ∀I:Pan (Int×Int) (Tm×Int)->OS S,aue (ar1 k) k I defs m (f:Int) t=I R:=by
 intro n
 induction n with
 |zero=>intro k m _ _ f t _ _ h;exact absurd (show hdA (stG defs) plQ 220 0 f t= .error 0 by rw [hdA]) h
 |succ n ih=>
  intro k m hm hkk f t hf jt h
  have hk4:F4 k:=by unfold F4;omega
  have hk:=hk4.f3
  obtain ⟨m,rfl⟩: ∃j,m=j+1:=⟨m-1,by omega⟩
  have hL:=ih k m (by omega) (by omega)
  change hdA (stG defs) plQ 220 (n+1) f t≠_ at h
  change ∃R,at4 (hdA (stG defs) plQ 220 (n+1) f t) R/\_
  rw [hdA] at h ⊢
  simp only [aue,ayZ,ag hk.fu,ar,aIB hk4 (hd.isIn hk) (jt.isIn hk) (show (0:Int)<=(f:Int)/\(f:Int)<=100000 by omega)]
  by_cases c1:(stG defs t).2.2≠0/\f≠0
  ·have hq:aui defs t (f:Int)= .pan ((stG defs t).2.2,(f:Int)):=by
    unfold aui;rw [if_pos ⟨c1.1,by have:=c1.2;omega⟩]
   rw [if_pos c1,hq]
   exact ⟨.pan ((stG defs t).2.2,(f:Int)),⟨_,rfl⟩,fun _=>rfl⟩
  have c1': ¬((stG defs t).2.2≠0/\(0:Int)<(f:Int)):=fun q=>c1 ⟨q.1,by have:=q.2;omega⟩
  rw [if_neg c1] at h ⊢
  by_cases c2:(stG defs t).2.1=false/\(stG defs t).2.2=0
  ·have hq:aui defs t (f:Int)= .ok (t,false,(f:Int)):=by
    unfold aui;rw [if_neg c1',if_pos c2]
   rw [if_pos c2] at h ⊢
   rw [hq]
   have ft:Fm t:=⟨jt.1,az1 c2.2⟩
   have hK: ∀i f',f'<=100000->hA defs n f' (arp t i)≠ .error 0->i<t.kids.length-> ∃R,at4 (hA defs n f' (arp t i)) R/\ ∀g:Pan (Int×Int) (Tm×Bool×Int)->OS S,auo (ar1 k) k t (i:Int) defs (f':Int) g=g (ayO t i (arp t i) R):=by
    intro i f' hf' hne hi
    obtain ⟨j,rfl⟩: ∃j,k=j+1:=⟨k-1,by omega⟩
    obtain ⟨R,q1,q2⟩:=ih j j (by omega) (by omega) f' (arp t i) hf' (avK ft i) hne
    have fR: ∀a c,R= .ok (a,c)->Fm a:=by
     intro a c e
     cases hx:hA defs n f' (arp t i) with
     |error e'=>rw [hx] at q1;obtain ⟨c',q1⟩:=q1;rw [q1] at e;cases e
     |ok p=>
      rw [hx] at q1
      have q1:R= .ok (p.1,(p.2:Int)):=q1
      rw [q1] at e
      injection e with e;injection e with e1 e2
      exact e1▸(((awB hd n).1 f' _ (avK ft i)) p.1 p.2 hx).1
    refine ⟨R,q1,fun g=> ?_⟩
    have hh: ∀g,ar1 (j+1) (arp t i) defs (f':Int) g=g R:=fun g=>by
     rw [<-q2 g]
     simp only [ar1,ayL,ar]
    rw [aIM (hd:=ar1 (j+1)) hk ft (kid:=arp t i) (arL rfl hi).1 (R:=R) hh fR g]
    cases R<;>rfl
   have hE: ∀f',∃R',at4 (hP defs n f' t []) R'/\ ∀I:Pan (Int×Int) (Tm×Int)->OS S,I (.ok (t,(f':Int)))=I R':=fun f'=>by
    refine ⟨.ok (t,(f':Int)), ?_,fun _=>rfl⟩
    show at4 (hdP (stG defs) plQ 220 n f' t []) _
    rw [hdP];rfl
   have hA2: ∀i f' a r,hA defs n f' (arp t i)= .ok (a,r)->Fm a/\r<=f':=fun i f' a r h=>((awB hd n).1 f' _ (avK ft i)) a r h
   have hne: ∀i l f',hP defs n f' t (i::l)≠ .error 0->hA defs n f' (arp t i)≠ .error 0:=fun i l f' h q=>h (hdP_cons.1 0 q)
   have hLL: ∀i f',f'<=100000-> ∀a r,hA defs n f' (arp t i)= .ok (a,r)->hA defs n r (atR t i a)≠ .error 0->
     ∃R',at4 (hA defs n r (atR t i a)) R'/\ ∀I:Pan (Int×Int) (Tm×Int)->OS S,aue (ar1 k) k I defs m (r:Int) (atR t i a)=I R':=
    fun i f' hf' a r hx hn=>hL r _ (by have:=(hA2 i f' a r hx).2;omega) (azV ft (hA2 i f' a r hx).1) hn
   have hN2: ∀f',f'<=100000->hP defs n f' t (if t.kind=14/\(kd0 t).kind=23 then [1] else [])≠ .error 0->
     ∃R',at4 (hP defs n f' t (if t.kind=14/\(kd0 t).kind=23 then [1] else [])) R'/\ ∀I:Pan (Int×Int) (Tm×Int)->OS S,
      (ab (t.kind==14) ((af t.kids 0).bind fun x8=>ab (x8.kind==23) (auo (ar1 k) k t 1 defs (f':Int) fun r10=>Pan.elim r10 (fun r10=>ab r10.2.1 (aue (ar1 k) k I defs m r10.2.2 r10.1) (I (.ok (t,r10.2.2)))) fun e=>I (.pan (e.1,e.2))) (I (.ok (t,(f':Int))))) (I (.ok (t,(f':Int)))))=I R':=by
    intro f' hf' h
    by_cases h14:t.kind=14
    ·have hl:t.kids.length=2:=E5 ft h14 rfl
     have hg:af t.kids 0=some (kd0 t):=(arL (i:=0) hl (by omega)).1
     simp only [h14,hg,an4,show ((14:Int)==14)=true from rfl,ae,true_and] at h ⊢
     by_cases h23:(kd0 t).kind=23
     ·rw [if_pos h23] at h ⊢
      simp only [h23,show ((23:Int)==23)=true from rfl,ae]
      obtain ⟨R,q1,q2⟩:=hK 1 f' hf' (hne 1 [] f' h) (by omega)
      exact aq0 (L:=fun I r x=>aue (ar1 k) k I defs m r x) (N:=fun I r=>I (.ok (t,r))) q1 q2 (hLL 1 f' hf') (fun a r _ _=>hE r) h
     ·rw [if_neg h23] at h ⊢
      simp only [beq_false_of_ne h23,n3]
      exact hE f'
    ·rw [if_neg (fun q=>h14 q.1)]
     simp only [beq_false_of_ne h14,n3]
     exact hE f'
   have hM:0<=as7 t->(as7 t).toNat<t.kids.length:=by
    intro h0
    have hnk:=ft.nk
    unfold as7 ayg at h0 ⊢
    rw [if_neg (by omega)] at h0 ⊢
    split at h0
    ·rename_i q
     have:0<ct t.kind:=by rcases q with q|q|q|q|q|q|q<;>rw [q]<;>decide
     rw [if_pos q];omega
    ·rename_i q
     rw [if_neg q]
     split at h0
     ·rename_i q2
      have:3<ct t.kind:=by rw [q2];decide
      rw [if_pos q2];omega
     ·rename_i q2
      rw [if_neg q2]
      split at h0
      ·rename_i q3
       have:4<ct t.kind:=by rw [q3];decide
       rw [if_pos q3];omega
      ·omega
   change hdP (stG defs) plQ 220 n f t (plQ t)≠_ at h
   simp only [Pan.elim,n3,aIs hk]
   unfold plQ at h ⊢
   by_cases c:0<=as7 t
   ·rw [if_pos c] at h ⊢
    have hi:=hM c
    obtain ⟨R,q1,q2⟩:=hK (as7 t).toNat f hf (hne _ _ f h) hi
    have hc:(((as7 t).toNat:Nat):Int)=as7 t:=by omega
    rw [hc] at q2
    simp only [decide_eq_true (show as7 t>=0 from c),ae]
    exact aq0 (L:=fun I r x=>aue (ar1 k) k I defs m r x) (N:=fun I r=>ab (t.kind==14) ((af t.kids 0).bind fun x8=>ab (x8.kind==23) (auo (ar1 k) k t 1 defs r fun r10=>Pan.elim r10 (fun r10=>ab r10.2.1 (aue (ar1 k) k I defs m r10.2.2 r10.1) (I (.ok (t,r10.2.2)))) fun e=>I (.pan (e.1,e.2))) (I (.ok (t,r)))) (I (.ok (t,r)))) q1 q2 (hLL _ f hf) (fun a r hx hn=>hN2 r (by have:=(hA2 _ f a r hx).2;omega) hn) h
   ·rw [if_neg c] at h ⊢
    simp only [decide_eq_false (show ¬(as7 t>=0) from c),n3]
    exact hN2 f hf h
  rw [if_neg c2] at h ⊢
  by_cases c3:f=0
  ·have hq:aui defs t (f:Int)= .pan (220,(f:Int)):=by
    unfold aui;rw [if_neg c1',if_neg c2,if_pos (by omega)]
   rw [if_pos c3,hq]
   exact ⟨.pan (220,(f:Int)),⟨_,rfl⟩,fun _=>rfl⟩
  rw [if_neg c3] at h ⊢
  have hq:aui defs t (f:Int)= .ok ((stG defs t).1,true,(f:Int)-1):=by
   unfold aui;rw [if_neg c1',if_neg c2,if_neg (by omega)]
  have e0:(stG defs t).2.2=0:=Decidable.byContradiction fun q=>c1 ⟨q,c3⟩
  have e1:(stG defs t).2.1=true:=by
   cases hb:(stG defs t).2.1 with
   |true=>rfl
   |false=>exact absurd ⟨hb,e0⟩ c2
  obtain ⟨R,q1,q2⟩:=hL (f-1) _ (by omega) (az0 (hd.isIn hk) jt.1 e1).1.jt h
  refine ⟨R,q1,fun I=> ?_⟩
  rw [<-q2 I,show ((f-1:Nat):Int)=(f:Int)-1 by omega,hq]
  rfl
end Go.Proofs.YtgmmefmmnakbpaaGreatDoor
namespace Go.Proofs.YtgmmefmmnakbpaaGreatDoor
open Go PI
variable {st:Tm->Tm×Bool×Int} {pl:Tm->List Nat} {eF:Int}
theorem aF7: ∀ (n:Nat),(∀f t a r,hdA st pl eF n f t= .ok (a,r)->r<=f/\(r=f->a=t))/\
  ∀ (l:List Nat) f t a r,hdP st pl eF n f t l= .ok (a,r)->r<=f/\(r=f->a=t):=by
 have hP: ∀n,(∀f t a r,hdA st pl eF n f t= .ok (a,r)->r<=f/\(r=f->a=t))-> ∀ (l:List Nat) f t a r,hdP st pl eF n f t l= .ok (a,r)->r<=f/\(r=f->a=t):=by
  intro n hA l
  induction l with
  |nil=>
   intro f t a r h
   rw [hdP] at h;injection h with h;injection h with q1 q2;subst q1;subst q2
   exact ⟨aru _,fun _=>rfl⟩
  |cons i l ih=>
   intro f t a r h
   rw [hdP] at h
   cases hx:hdA st pl eF n f (arp t i) with
   |error e=>rw [hx] at h;cases h
   |ok p=>
    obtain ⟨k,f'⟩:=p
    rw [hx] at h
    dsimp only at h
    obtain ⟨s1,s2⟩:=hA _ _ _ _ hx
    split at h
    ·rename_i hk
     obtain ⟨r1,r2⟩:=ih f' t a r h
     exact ⟨by omega,fun e=>r2 (by omega)⟩
    ·rename_i hk
     obtain ⟨r1,r2⟩:=hA _ _ _ _ h
     refine ⟨by omega,fun e=>absurd ?_ hk⟩
     have:=s2 (by omega)
     simpa using this
 intro n
 induction n with
 |zero=>
  have hA: ∀f t a r,hdA st pl eF 0 f t= .ok (a,r)->r<=f/\(r=f->a=t):=fun f t a r h=>by rw [hdA] at h;cases h
  exact ⟨hA,hP 0 hA⟩
 |succ n ih=>
  have hA: ∀f t a r,hdA st pl eF (n+1) f t= .ok (a,r)->r<=f/\(r=f->a=t):=by
   intro f t a r h
   rw [hdA] at h
   split at h
   ·cases h
   split at h
   ·exact ih.2 _ _ _ _ _ h
   split at h
   ·cases h
   ·obtain ⟨q1,q2⟩:=ih.1 _ _ _ _ h
    exact ⟨by omega,fun e=>by omega⟩
  exact ⟨hA,hP _ hA⟩
end Go.Proofs.YtgmmefmmnakbpaaGreatDoor
namespace Go.Proofs.YtgmmefmmnakbpaaGreatDoor
open Go PI
set_option maxRecDepth 20000
variable {S:Type} {k:Nat}
theorem aHf {t:Tm} (ft:Fm t) {i:Nat} (h:i∈plQ t):i<t.kids.length:=by
 have hnk:=ft.nk
 unfold plQ at h
 rcases arH.1 h with h|h
 ·split at h
  ·rename_i h0
   obtain rfl:i=(as7 t).toNat:=by simpa using h
   unfold as7 ayg at h0 ⊢
   rw [if_neg (by omega)] at h0 ⊢
   split at h0
   ·rename_i q
    have:0<ct t.kind:=by rcases q with q|q|q|q|q|q|q<;>rw [q]<;>decide
    rw [if_pos q];omega
   ·rename_i q
    rw [if_neg q]
    split at h0
    ·rename_i q2
     have:3<ct t.kind:=by rw [q2];decide
     rw [if_pos q2];omega
    ·rename_i q2
     rw [if_neg q2]
     split at h0
     ·rename_i q3
      have:4<ct t.kind:=by rw [q3];decide
      rw [if_pos q3];omega
     ·omega
  ·cases h
 ·split at h
  ·rename_i h0
   obtain rfl:i=1:=by simpa using h
   have:t.kids.length=2:=E5 ft h0.1 rfl
   omega
  ·cases h
theorem aGH {t:Tm} {i:Nat} (h:i<t.kids.length):am (arp t i)+1<=am t:=by
 have hm:t.kids.getD i noT∈t.kids:=(arL rfl h).2
 exact bY hm
theorem aFK {defs:List Df} (hd:DfJ defs): ∀n f t,JT t->f*301+am t+1<=n->hA defs n f t≠ .error 0:=by
 intro n
 induction n with
 |zero=>intro f t _ h;omega
 |succ n ih=>
  intro f t jt hn h
  have h:hdA (stG defs) plQ 220 (n+1) f t= .error 0:=h
  rw [hdA] at h
  split at h
  ·rename_i c1;injection h with h;exact c1.1 h
  rename_i c1
  split at h
  ·rename_i c2
   have ft:Fm t:=⟨jt.1,az1 c2.2⟩
   have hd0:=jt.2.1
   have key: ∀l:List Nat,(∀i∈l,i<t.kids.length)-> ∀f',f'<=f->hP defs n f' t l≠ .error 0:=by
    intro l
    induction l with
    |nil=>
     intro _ f' _ q
     have q:hdP (stG defs) plQ 220 n f' t []= .error 0:=q
     rw [hdP] at q;cases q
    |cons i l ihl=>
     intro hl f' hf' q
     have hi:=aGH (hl i (by simp))
     have hm:f'*301<=f*301:=asW _ hf'
     have hne:=ih f' (arp t i) (avK ft i) (by omega)
     obtain ⟨p1,p2,p3⟩:=hdP_cons (defs:=defs) (n:=n) (f:=f') (t:=t) (i:=i) (l:=l)
     cases hx:hA defs n f' (arp t i) with
     |error e=>rw [p1 e hx] at q;exact hne (by rw [hx,q])
     |ok p=>
      obtain ⟨b,s⟩:=p
      obtain ⟨fb,hs⟩:=(awB hd n).1 f' _ (avK ft i) b s hx
      cases hb:eqB b (arp t i) with
      |true=>rw [p2 b s hx hb] at q;exact ihl (fun i hi=>hl i (by simp [hi])) s (by omega) q
      |false=>
       rw [p3 b s hx hb] at q
       have hsf:s≠f':=fun e=>by
        have:=((aF7 n).1 _ _ _ _ hx).2 e
        have hb': ¬ (eqB b (arp t i)=true):=by rw [hb];decide
        exact hb' (by unfold eqB;simpa using this)
       have j2:=azV (i:=i) ft fb
       have:=j2.2.1
       have:(s+1)*301<=f*301:=asW _ (by omega)
       exact ih s _ j2 (by omega) q
   exact key (plQ t) (fun i hi=>aHf ft hi) f (aru _) h
  rename_i c2
  split at h
  ·injection h with h;cases h
  rename_i c3
  have e0:(stG defs t).2.2=0:=Decidable.byContradiction fun q=>c1 ⟨q,c3⟩
  have e1:(stG defs t).2.1=true:=by
   cases hb:(stG defs t).2.1 with
   |true=>rfl
   |false=>exact absurd ⟨hb,e0⟩ c2
  have j1:=(az0 (hd.isIn f4_min.f3) jt.1 e1).1.jt
  have:=j1.2.1
  obtain ⟨g,rfl⟩: ∃g,f=g+1:=⟨f-1,by omega⟩
  exact ih g _ j1 (by omega) h
def nH:Nat:=40000000
theorem aAZ {defs:List Df} (hd:DfJ defs) {f:Nat} (hf:f<=100000) {t:Tm} (jt:JT t):hA defs nH f t≠ .error 0:=
 aFK hd nH f t jt (by have:=jt.2.1;unfold nH;omega)
noncomputable def hdQ (defs:List Df) (f:Nat) (t:Tm):Tm×Int×Int:=match hA defs nH f t with
 | .ok p=>(p.1,(p.2:Int),0)
 | .error e=>(noT,0,e)
noncomputable def avH (defs:List Df) (t:Tm) (f:Int):Tm×Int×Int:=
 if bw t≠0 then (noT,0,bw t) else if f<0\/100000<f then (noT,0,2) else hdQ defs f.toNat t
def F5 (k:Nat):Prop:=4500000000<=k
theorem F5.f4 (h:F5 k):F4 k:=by unfold F5 at h;unfold F4;omega
theorem F5.f3 (h:F5 k):F3 k:=h.f4.f3
theorem aIq (hF:4294970296+nH<k) {defs:List Df} (hd:DfJ defs) {t:Tm} (ht:In k t) {f:Int} (I:Tm×Int×Int->OS S):auI k defs t f I=I (avH defs t f):=by
 have hk4:F4 k:=by unfold F4;omega
 have hk:=hk4.f3
 simp only [auI,ag hk.fu,ar,amv ht.1 ht.2.1 ht.dep]
 unfold avH
 by_cases h0:bw t=0
 case neg=>rw [dj h0,aqD,ae,if_pos h0];rfl
 rw [h0,show (!((0:Int)==0))=false from rfl,n3,if_neg (by simp)]
 by_cases h1:f<0
 ·rw [decide_eq_true h1,ae,if_pos (.inl h1)];rfl
 rw [decide_eq_false h1,n3]
 by_cases h2:100000<f
 ·rw [decide_eq_true (show f>100000 from h2),ae,if_pos (.inr h2)];rfl
 rw [decide_eq_false (show ¬f>100000 from h2),n3,if_neg (by omega),vU t ht.1 _ ht.2.1]
 have jt:JT t:=Fm.jt ⟨ht.1,h0⟩
 obtain ⟨j,rfl⟩: ∃j,k=j+1:=⟨k-1,by omega⟩
 obtain ⟨R,q1,q2⟩:=aGI (S:=S) hd nH j j (by omega) (by omega) f.toNat t (by omega) jt (aAZ hd (by omega) jt)
 have hh: ∀g,ar1 (j+1) t defs f g=g R:=fun g=>by
  rw [<-q2 g,show ((f.toNat:Nat):Int)=f by omega]
  simp only [ar1,ayL,ar]
 rw [hh]
 unfold hdQ
 cases hx:hA defs nH f.toNat t with
 |ok p=>rw [hx] at q1;rw [show R= .ok (p.1,(p.2:Int)) from q1];rfl
 |error e=>rw [hx] at q1;obtain ⟨c,q1⟩:=q1;rw [q1];rfl
theorem aIp (hF:F5 k) {defs:List Df} (hd:DfJ defs) {t:Tm} (ht:In k t) {f:Int} (I:Tm×Int×Int->OS S):auI k defs t f I=I (avH defs t f):=
 aIq (by unfold F5 at hF;unfold nH;omega) hd ht I
def fuQ (n:Int):Int:=if n<0\/100000<n then n else n.tmod 25
theorem aId (n:Int) (I:Int->OS S):awt k n I=I (fuQ n):=by
 simp only [awt]
 unfold fuQ
 by_cases h1:n<0
 ·rw [decide_eq_true h1,ae,if_pos (.inl h1)]
 rw [decide_eq_false h1,n3]
 by_cases h2:100000<n
 ·rw [decide_eq_true (show n>100000 from h2),ae,if_pos (.inr h2)]
 ·rw [decide_eq_false (show ¬n>100000 from h2),n3,if_neg (by omega)]
theorem aFW {n:Int} (h: ¬(n<0\/100000<n)):0<=fuQ n/\fuQ n<25:=by
 unfold fuQ
 rw [if_neg h]
 have:n.tmod 25=n%25:=Int.tmod_eq_emod_of_nonneg (by omega)
 rw [this];omega
theorem aIi (hk:F3 k) {t:Tm} (ht:In k t) (I:Bool->OS S): ∃c,axO k t I=I c/\(c=false->au t<=100):=by
 simp only [axO,ar]
 obtain ⟨w,h1,h2,h3,h4⟩:=aDd t ht.1 100 (by unfold Mo;omega) (fun r1=>I (decide (r1>100))) ht.2.1
 grind
theorem aIj (hk:F3 k) {t:Tm} (ht:In k t) (I:Bool->OS S): ∃c,axP k t I=I c/\(c=false->au t<=80):=by
 simp only [axP,ar]
 obtain ⟨w,h1,h2,h3,h4⟩:=aDd t ht.1 80 (by unfold Mo;omega) (fun r1=>I (decide (r1>80))) ht.2.1
 grind
theorem aGW (hk:F3 k) (I:Bool->OS S) {l:List Df} (hl:asU k l):
  ∀ (r p:List Df) (m:Nat),l=p++r->r.length<m-> ∃c,ave k I l m (p.length:Int)=I c/\(c=false-> ∀d∈r,au d.body<=100):=by
 intro r
 induction r with
 |nil=>
  intro p m h hm
  obtain ⟨m,rfl,hm'⟩:=amr hm
  refine ⟨false, ?_,fun _ d hd=>by cases hd⟩
  simp only [ave,axg,akb h,n3]
 |cons x r ih=>
  intro p m h hm
  obtain ⟨m,rfl,hm'⟩:=amr hm
  have hll:=hl.1
  obtain ⟨e1,e2,e3,e4⟩:=apy h (by omega)
  have hi:=hl.2 x (by rw [h];simp)
  simp only [ave,axg,e1,ae,e2,an4,ag hk.fu,ar,e3]
  obtain ⟨c,c1,c2⟩:=aIi hk hi (fun r2=>ab r2 (I true) (ab (decide ((x.name.size:Int)>50)) (I true) (ave k I l m ((p++[x]).length:Int))))
  rw [c1]
  cases c with
  |true=>exact ⟨true,by rw [ae],fun h=>by cases h⟩
  |false=>
   rw [n3]
   by_cases hn:(x.name.size:Int)>50
   ·rw [decide_eq_true hn,ae];exact ⟨true,rfl,fun h=>by cases h⟩
   ·rw [decide_eq_false hn,n3]
    obtain ⟨c,d1,d2⟩:=ih (p++[x]) m e4 hm'
    refine ⟨c,d1,fun hc d hd=> ?_⟩
    rcases arR.1 hd with rfl|hd
    ·exact c2 rfl
    ·exact d2 hc d hd
theorem aIr (hk:F3 k) {l:List Df} (hl:asU k l) (I:Bool->OS S): ∃c,axN k l I=I c/\(c=false->l.length<=8/\DfJ l/\ ∀d∈l,au d.body<=100):=by
 simp only [axN,aAk]
 by_cases h8:(l.length:Int)>8
 ·rw [decide_eq_true h8,ae];exact ⟨true,rfl,fun h=>by cases h⟩
 rw [decide_eq_false h8,n3]
 have hfu:4294968296<=k:=hk
 obtain ⟨c,h1,h2⟩:=aGW hk I hl l [] k rfl (by omega)
 exact ⟨c,h1,fun h=>⟨by omega,⟨by omega,fun d hd=>⟨(hl.2 d hd).1,by have:=zG d.body;have:=h2 h d hd;omega,by have:=h2 h d hd;omega⟩⟩,h2 h⟩⟩
theorem aGN (I:List Df->OS S) {l:List Df} (hl:l.length<1073741824):
  ∀ (r p:List Df) (m:Nat),l=p++r->r.length<m->av0 k I l m p (p.length:Int)=I l:=by
 intro r
 induction r with
 |nil=>
  intro p m h hm
  obtain ⟨m,rfl,hm'⟩:=amr hm
  simp only [av0,axf,akb h,n3]
  rw [h,arE]
 |cons x r ih=>
  intro p m h hm
  obtain ⟨m,rfl,hm'⟩:=amr hm
  obtain ⟨e1,e2,e3,e4⟩:=apy h (by omega)
  have hp:p.length<l.length:=by rw [h];simp
  simp only [av0,axf,e1,ae,e2,an4,aFO,e3]
  rw [J5 (by simp;omega)]
  exact ih _ m e4 hm'
theorem aH6 (hk:F3 k) {l:List Df} (hl:l.length<1073741824) (I:List Df->OS S):axM k l I=I l:=by
 simp only [axM,aAj]
 have hfu:4294968296<=k:=hk
 exact aGN I hl l [] k rfl (by omega)
set_option maxRecDepth 100000
theorem aJk {S:Type} (q:Nat) (I:Bool->OS S):axR (q+400) I=I true:=by kernel_rfl
theorem aIN (hk:F3 k) (I:Bool->OS S):axR k I=I true:=by
 have hfu:4294968296<=k:=hk
 obtain ⟨q,rfl⟩: ∃q,k=q+400:=⟨k-400,by omega⟩
 exact aJk q I
theorem aF8 {defs:List Df} (hd:DfJ defs) {t:Tm} (ht:OkT t) {f:Int} (hk:F3 k):In k (avH defs t f).1:=by
 unfold avH
 split
 ·exact gQ hk
 split
 ·exact gQ hk
 rename_i h0 _
 unfold hdQ
 cases hx:hA defs nH f.toNat t with
 |error e=>exact gQ hk
 |ok p=>exact (((awB hd nH).1 _ t (Fm.jt ⟨ht,Decidable.not_not.1 h0⟩)) p.1 p.2 hx).1.isIn hk
theorem aG6 (more:Int):0<=su .i64 (Int.tmod (su .u64 more) 10)/\su .i64 (Int.tmod (su .u64 more) 10)<10:=by
 have h:0<=su .u64 more:=by
  show 0<=more%_
  exact Int.emod_nonneg _ (by decide)
 have e:Int.tmod (su .u64 more) 10=su .u64 more%10:=Int.tmod_eq_emod_of_nonneg h
 rw [e,aaf (by omega) (by omega)]
 omega
theorem azU (hk:F3 k) {t:Tm} (ht:In k t) (I:Bool->OS S):d8 k t t I=I true:=RQ t ht.1 I ht.2.1
theorem aHU (hF:F5 k) {defs:List Df} (hd:asU k defs) {t:Tm} (ht:In k t) {fuel more:Int} (h1:aG fuel) (h2:aG more) (I:Bool->OS S):axQ k defs t fuel more I=I true:=by
 have hk:=hF.f3
 simp only [axQ,ag hk.fu,ar,aIN hk,aq6,n3]
 generalize hR:(fun r2:Bool=>ab r2 (I true) _)=R
 obtain ⟨c,c1,_⟩:=aIj hk ht R
 refine c1.trans ?_
 rw [<-hR]
 cases c with
 |true=>rfl
 |false=>
 dsimp only
 rw [n3]
 generalize hR:(fun r3:Bool=>ab r3 (I true) _)=R
 obtain ⟨c,c1,c2⟩:=aIr hk hd R
 refine c1.trans ?_
 rw [<-hR]
 cases c with
 |true=>rfl
 |false=>
 dsimp only
 obtain ⟨_,hj,_⟩:=c2 rfl
 rw [n3]
 by_cases f0:fuel<0
 ·rw [decide_eq_true f0];rfl
 by_cases f1:fuel>100000
 ·rw [decide_eq_false f0,n3,decide_eq_true f1];rfl
 rw [decide_eq_false f0,n3,decide_eq_false f1,n3]
 obtain ⟨m0,m1⟩:=aG6 more
 obtain ⟨n0,n1⟩:=aFW (n:=fuel) (by omega)
 simp only [aH6 hk hd.1,aId,aIp hF hj ht]
 rw [aaf (n:=fuQ fuel+_) (by omega) (by omega)]
 generalize su .i64 (Int.tmod (su .u64 more) 10)=j at m0 m1 ⊢
 generalize fuQ fuel=n at n0 n1 ⊢
 have i1:=aF8 (f:=n) hj ht.1 hk
 unfold avH at i1 ⊢
 by_cases h0:bw t=0
 case neg=>
  rw [if_pos h0] at i1
  rw [if_pos h0,if_pos h0]
  dsimp only at i1 ⊢
  by_cases e:bw t=220
  ·rw [e];rfl
  ·rw [beq_false_of_ne e,n3,beq_self_eq_true,aq6,n3,azU hk i1,aq6,n3,dj h0];rfl
 rw [if_neg (by simp [h0]),if_neg (by omega)] at i1
 rw [if_neg (by simp [h0]),if_neg (by omega),if_neg (by simp [h0]),if_neg (by omega)]
 have jt:JT t:=Fm.jt ⟨ht.1,h0⟩
 obtain ⟨q1,q2⟩:=(aF6 (st:=stG defs) (pl:=plQ) (eF:=220) (by decide) j.toNat nH).1 n.toNat t
 rw [show (n+j).toNat=n.toNat+j.toNat by omega]
 unfold hdQ at i1 ⊢
 cases hx:hA defs nH n.toNat t with
 |error e=>
  rw [hx] at i1
  by_cases e2:e=220
  ·subst e2;rfl
  ·have he:e≠0:=fun q=>aAZ (f:=n.toNat) hj (by omega) jt (by rw [hx,q])
   rw [show hA defs nH (n.toNat+j.toNat) t=_ from q2 e hx he e2]
   dsimp only at i1 ⊢
   rw [beq_false_of_ne e2,n3,beq_self_eq_true,aq6,n3,azU hk i1,aq6,n3,dj he];rfl
 |ok p=>
  rw [hx] at i1
  rw [show hA defs nH (n.toNat+j.toNat) t=_ from q1 p.1 p.2 hx]
  dsimp only at i1 ⊢
  have hle:=(((awB hj nH).1 _ t jt) p.1 p.2 hx).2
  rw [show ((0:Int)==220)=false from rfl,n3,beq_self_eq_true,aq6,n3,azU hk i1,aq6,n3,n3]
  rw [aaf (by omega) (by omega),show ((p.2+j.toNat:Nat):Int)=(p.2:Int)+j by omega,beq_self_eq_true]
end Go.Proofs.YtgmmefmmnakbpaaGreatDoor
namespace Go.Proofs.YtgmmefmmnakbpaaGreatDoor
open Go PI Go.ChangeShapes Go.WideShapes Go.ChangeAt Go.RowKit
set_option maxRecDepth 100000
section
variable {H:Type} {enc:TypeId×Value->H} {w:World} {base:Nat} {spare:Nat->Bool} {held:Bool} {o:Obj} {N:aN} {g:Gh UU}
def QDf (x:Df) (d:DataW H):Prop:=QT x.body d
theorem aG9 (hN: ∀b o,¬N b o) (n:Nat) (cs:List Value) (d:DataW H) (pl:List MemPlace) (h:jG enc w base spare held n 52 cs=some (d,pl)): ∃x:EL ET.G,oM o w N g ET.G x cs/\QDf (show Df from x) d:=by
 have c9:Tryz.prog.cellsOf 9=1:=by kernel_rfl
 have cT:Tryz.prog.cellsOf 27=6:=by kernel_rfl
 cases n with
 |zero=>cases h
 |succ n=>
  obtain ⟨xs,m,hm,hx,hl,hlen,hf⟩:=DataW.trod_struct Tryz.underlying52 h
  obtain rfl:n=m:=by omega
  injection hx with hx _
  subst hx
  have hl7:cs.length=7:=hl.trans (by kernel_rfl)
  match cs,hl7,xs,hlen with
  |[a0,a1,a2,a3,a4,a5,a6],_,[y0,y1],_=>
  have h0:=hf 0 _ rfl
  have h1:=hf 1 _ rfl
  simp [c9,cT] at h0 h1
  obtain ⟨s,e0,k0,_⟩:=DataW.trod_string Tryz.underlying9 h0
  obtain rfl:a0= .string s:=by simpa using e0
  obtain ⟨t,hr,hq⟩:=(ahu (o:=o) (g:=g) hN n).1 _ _ _ h1
  refine ⟨(⟨s,show Tm from t⟩:Df),fun k p hp=> ?_, ?_⟩
  ·cases k with
   |zero=>cases hp;exact ⟨_,rfl,.str _⟩
   |succ k=>
    obtain ⟨v,hv,hw⟩:=hr k p (by
     revert hp
     generalize (show Tm from t)=u
     intro hp
     cases u
     exact hp)
    exact ⟨v,hv,hw⟩
  ·obtain ⟨q1,q2⟩:=hq
   unfold QDf QT
   simp only [List.map_cons,List.map_nil,Rows.uptoBulk,Rows.uptoBulkAll]
   exact ⟨by show au (show Tm from t)<=_;omega,fun hb=>q2 (by omega)⟩
theorem aEV (hN: ∀b o,¬N b o) {W:World} {base:Nat} {v:Value} {d:DataW H} {ps:List MemPlace} (hv:Value.okWide Tryz.prog W .any base 22 v) (h:DataW.Trod enc Tryz.prog w 0 spare held 22 v d ps):
  ∃l:List Df,Rep (LL o) w N g v (slG l .none)/\l.length+1<=Rows.uptoBulk d/\ ∀x∈l,au x.body<=Rows.uptoBulk d/\(Rows.uptoBulk d<1073741824->OkT x.body):=by
 obtain ⟨a,len,cap,rfl⟩:=okWide_slice Tryz.underlying22 hv
 obtain ⟨n,hn⟩:=h
 cases n with
 |zero=>cases hn
 |succ n=>
  obtain ⟨c,l,ds,hc,hr,hl,hq,hb⟩:=FW (e:=ET.G) (Q:=fun x d=>QDf (show Df from x) d) hN Tryz.underlying22 (by kernel_rfl) (fun cs d pl h=>aG9 hN n cs d pl h) hn
  obtain rfl:c= .slice a len cap:=by simpa [Value.cells] using hc.symm
  have hall:=Dr (l:=ds)
  have hl': @List.length Df l=ds.length:=hl
  refine ⟨l,hr,by omega,fun x hx=> ?_⟩
  obtain ⟨i,hi⟩:=List.getElem?_of_mem hx
  have hlt:i<ds.length:=by rw [<-hl];exact (asn.1 hi).1
  have hx2:QT (Df.body x) ds[i]:=hq i x _ hi (arN hlt)
  obtain ⟨q1,q2⟩:=hx2
  have hle: ∀ (l:List (DataW H)) (i:Nat) (h:i<l.length),Rows.uptoBulk l[i]<=Rows.uptoBulkAll l:=by
   intro l
   induction l with
   |nil=>intro i h;cases h
   |cons y l ih=>
    intro i h
    rw [Rows.uptoBulkAll]
    cases i with
    |zero=>simp
    |succ i=>have:=ih i (by simpa using h);simp;omega
  have:=hle ds i hlt
  exact ⟨by omega,fun h=>q2 (by omega)⟩
end
set_option maxHeartbeats 4000000
theorem adj {k:Nat} (hk:4296016872<=k) {H:Type} {t:Tm} {d:DataW H} (h:QT t d) (hb:Rows.uptoBulk d<=1048576):In k t:=by
 have h1:=h.1
 have h2:=zG t
 exact ⟨h.2 (by omega),by unfold Fd;omega,by omega⟩
theorem aFb {k:Nat} (hk:4296016872<=k) {H:Type} {l:List Df} {d:DataW H} (h1:l.length+1<=Rows.uptoBulk d) (h: ∀x∈l,au x.body<=Rows.uptoBulk d/\(Rows.uptoBulk d<1073741824->OkT x.body)) (hb:Rows.uptoBulk d<=1048576):asU k l:=
 ⟨by omega,fun x hx=>by
  obtain ⟨q1,q2⟩:=h x hx
  have h2:=zG x.body
  exact ⟨q2 (by omega),by unfold Fd;omega,by omega⟩⟩
theorem nO {H:Type} {enc:TypeId×Value->H} {w:World} {spare:Nat->Bool} {held:Bool} {o:Obj} {N:aN} {g:Gh UU} (hN: ∀b o,¬N b o) {W:World} {base:Nat} {v:Value} {d:DataW H} {ps:List MemPlace} (hv:Value.okWide Tryz.prog W .any base 3 v) (h:DataW.Trod enc Tryz.prog w 0 spare held 3 v d ps):
  ∃n:Int,Rep (LL o) w N g v (.int .i64 n)/\aG n:=by
 obtain ⟨n,rfl⟩:=okWide_int Tryz.underlying3 hv
 obtain ⟨q,hq⟩:=h
 obtain ⟨z,hz,hi⟩:=NT hq
 obtain rfl:n=z:=by simpa [Value.cells] using hz
 exact ⟨n,.int _ _,hi⟩
theorem hrow (q:Nat) {t0:List Df} {a1 b1:Int} {c1:ByteArray} {d1:List Cl} {e1:List Tm} {f1:List (Br Tm)} {t2:Int} {t3:Int}:ayC (S:=Out UU) q [slG t0 .none,.agg (asF ET.T (Tm.mk a1 b1 c1 d1 e1 f1)),.int .i64 t2,.int .i64 t3] [] some=aa q (axQ q t0 (Tm.mk a1 b1 c1 d1 e1 f1) t2 t3) fun r=>some (Out.ret (U:=UU) (.bool r) []):=by kernel_rfl
theorem apP {j:Nat} (hF:F5 (j+1)) {t0:List Df} (h0:asU (j+1) t0) {t1:Tm} (h1:In (j+1) t1) {t2:Int} (h2:aG t2) {t3:Int} (h3:aG t3):ayC (S:=Out UU) (j+1) [slG t0 .none,.agg (asF ET.T t1),.int .i64 t2,.int .i64 t3] [] some=some (.ret (.bool true) []):=by
 obtain ⟨a1,b1,c1,d1,e1,f1⟩:=t1
 exact (hrow (j+1)).trans ((ZV (by omega) _ _).trans (aHU hF h0 h1 h2 h3 fun r=>some (Out.ret (U:=UU) (.bool r) [])))
theorem agd {k:Nat} (hk:5000000000<=k) {o:Obj} (ho:ai o) {t0:List Df} (h0:asU k t0) {t1:Tm} (h1:In k t1) {t2:Int} (h2:aG t2) {t3:Int} (h3:aG t3):
  ci (LL o) 3 [slG t0 .none,.agg (asF ET.T t1),.int .i64 t2,.int .i64 t3] [] (.ret (.bool true) []):=by
 have hF:F5 k:=by unfold F5;omega
 obtain ⟨j,rfl⟩: ∃j,k=j+1:=⟨k-1,by omega⟩
 obtain ⟨out,hout,hx⟩:=aI0 (S:=Out UU) o ho (j+1) [slG t0 .none,.agg (asF ET.T t1),.int .i64 t2,.int .i64 t3] [] some (.ret (.bool true) []) (apP hF h0 h1 h2 h3)
 injection hx with hx
 exact hx▸hout
theorem agc (H:Type) (enc:TypeId×Value->H) (W:World) (base:Nat) (args:Array Value) (ds gs:List (DataW H)) (before:List MemPlace)
  (hval: ∀ (j:Nat) t v,Tryz.f3.params[j]? =some t->args[j]? =some v->Value.okWide Tryz.prog W .any base t v)
  (hW:DataW.Whole enc Tryz.prog Tryz.f3.params.toList Rows.headMoreSpec.vars false W args.toList ds gs before) (hL:laidMetH Tryz.prog Rows.headMoreRow.laid W) (hb:Rows.uptoBulkAll (ds++gs)<=1048576):
  Calls Tryz.prog 3 args W fun e W'=> ∃v,e= .returned v/\Rows.headMoreSpec.post enc Tryz.prog Tryz.f3 false true false false W args v W':=by
 have hW':=hW
 obtain ⟨p,q,hA0,hV,rfl,hfz,hnd⟩:=hW
 have hA:DataW.TrodAll enc Tryz.prog W 0 (fun _=>true) true Tryz.f3.params.toList args.toList ds p:=hA0
 rw [Tryz.params3] at hA hval
 obtain ⟨v0,vs0,d0,ds0,p0,q0,hargs,rfl,rfl,h0,r0⟩:=trodAll_cons hA
 obtain ⟨v1,vs1,d1,ds1,p1,q1,rfl,rfl,rfl,h1,r1⟩:=trodAll_cons r0
 obtain ⟨v2,vs2,d2,ds2,p2,q2,rfl,rfl,rfl,h2,r2⟩:=trodAll_cons r1
 obtain ⟨v3,vs3,d3,ds3,p3,q3,rfl,rfl,rfl,h3,r3⟩:=trodAll_cons r2
 obtain ⟨rfl,rfl,rfl⟩:=trodAll_nil r3
 obtain rfl:args= #[v0,v1,v2,v3]:=by cases args;simp_all
 obtain ⟨rfl,rfl⟩:=trodVars_none hV
 obtain ⟨o,ho,hh⟩:=akL hL
 simp only [arE,Rows.uptoBulkAll,Nat.add_zero] at hb
 obtain ⟨t0,e0,m0⟩:=aEV (o:=o) (g:=gB UU 0 fun _=>0) noN (hval 0 22 v0 rfl rfl) h0
 obtain ⟨t1,e1,k1⟩:=ZG (o:=o) (g:=gB UU 0 fun _=>0) noN h1
 obtain ⟨t2,e2,k2⟩:=nO (o:=o) (g:=gB UU 0 fun _=>0) noN (hval 2 3 v2 rfl rfl) h2
 obtain ⟨t3,e3,k3⟩:=nO (o:=o) (g:=gB UU 0 fun _=>0) noN (hval 3 3 v3 rfl rfl) h3
 have hk:(5000000000:Nat)<=5000000000:=aru _
 generalize hkk:(5000000000:Nat)=k at hk
 have hok:=agd (k:=k) (by omega) ho (aFb (by omega) m0.1 m0.2 (by omega)) (adj (by omega) k1 (by omega)) k2 k3
 refine (ZW hok (adb hh rfl rfl fun j p hj=> ?_)).mono ?_
 ·match j,hj with
  |0,hj=>cases hj;exact e0
  |1,hj=>cases hj;exact e1
  |2,hj=>cases hj;exact e2
  |3,hj=>cases hj;exact e3
  |j+4,hj=>simp at hj
 ·rintro e W' ⟨rfl,hkept⟩
  refine ⟨_,rfl,ahF rfl rfl (fun t ht=> ?_) rfl hW' hkept⟩
  rw [Tryz.params3] at ht
  have ht':t=22\/t=27\/t=3\/t=3:=by simpa using ht
  rcases ht' with rfl|rfl|rfl|rfl<;>exact of_decide_eq_true (by kernel_rfl)
noncomputable def Fb (os:Os):World:=
 {World.holding Tryz.prog os ⟨#[],#[],[]⟩ with heap:=(World.holding Tryz.prog os ⟨#[],#[],[]⟩).heap.modify 0 fun
   | .cells _ t frozen=> .cells (Lib.deBruijn32tab.map fun n:Nat=>Value.int .u8 n).toArray t frozen
   |o=>o}
def alC:Value:= .agg #[.int .i64 0,.int .i64 0,.string alH,.slice none 0 0,.slice none 0 0,.slice none 0 0]
def zeroArgs:Array Value:= #[.slice none 0 0,alC,.int .i64 0,.int .i64 0]
def alA {H:Type}:DataW H:= .agg [.lit (.int .i64 0),.lit (.int .i64 0),.lit (.string []),.nil,.nil,.nil]
theorem af_ (os:Os):laidMet Tryz.prog Rows.headMoreRow.laid ((Fb os).forCall (fun _ _=>0) ⟨#[],zeroArgs,[]⟩).memory:=
 laidMet_of_run' 8 (by kernel_rfl) (by kernel_rfl)
theorem aim (os:Os) {H:Type} (enc:TypeId×Value->H): ∃places,DataW.whole enc Tryz.prog ((Fb os).forCall (fun _ _=>0) ⟨#[],zeroArgs,[]⟩).memory Tryz.f3.params.toList Rows.headMoreSpec.vars false zeroArgs.toList 8=some ([.nil,alA,.lit (.int .i64 0),.lit (.int .i64 0)],[],places):=
 ⟨[],by kernel_rfl⟩
theorem agw (os:Os) (started:os.Started) (H:Type) (enc:TypeId×Value->H) (F:Stop.Interp):
  ReturnsInHanded {} Tryz.checked os 3 .any ((Rows.OpenSpec.upto Rows.headMoreSpec).preRow enc Tryz.prog Tryz.f3 Rows.headMoreUptoRow.domain false Rows.headMoreUptoRow.laid) (((Rows.OpenSpec.upto Rows.headMoreSpec).at F).post enc Tryz.prog Tryz.f3 false true false false):=by
 obtain ⟨places,hx⟩:=aim os enc
 refine returnsInHanded_of_row (C:=Tryz.checked) (s:=Rows.OpenSpec.upto Rows.headMoreSpec) own started (by kernel_rfl) Tryz.func3
  (witness_row_at (enc:=enc) (C:=Tryz.checked) false (Fb os) zeroArgs rfl (by kernel_rfl) (by kernel_rfl) (by kernel_rfl)
   (OpenSpec.preRow_of_cond 8 hx (by kernel_rfl) (fun k hk=>by cases hk;kernel_rfl) (by kernel_rfl) (af_ os))) ?_
 intro W base args ds gs before hval hW _ hcond _ hL _ _
 exact agc H enc W base args ds gs before hval hW hL (of_decide_eq_true (hcond _ rfl))
theorem aj3:Rows.HeadMoreUptoSaid:=
 OpenClaim.holds_of_cond 3 Tryz.f3 rfl rfl rfl rfl rfl rfl rfl ⟨rfl,rfl,rfl,rfl,rfl⟩ rfl rfl rfl rfl rfl (by as_aux_lemma=>kernel_rfl) Tryz.func3 adt
  (of_decide_eq_true (by as_aux_lemma=>kernel_rfl)) (by unfold Func.isWrapper;first|(rw [if_pos (by decide+kernel)];kernel_rfl)|(rw [if_neg (by decide+kernel)];exact ⟨rfl,rfl⟩))
  (fun os started H enc _ F=>by rw [OpenClaim.pre_eq_preRow];exact agw os started H enc F)
theorem plain (f:FuncId) (fn:Func) (hf:Tryz.pinned.checked.prog.funcNamed "hypercube/hypercubelaw22.HeadMore" =some f) (hfn:Tryz.pinned.checked.prog.funcs[f]? =some fn):
  true=Tryz.pinned.checked.prog.looks []/\ ∀ (j:Nat) t,fn.params[j]? =some t->Tryz.pinned.checked.prog.wantsStandIn t=false:=by
 obtain rfl:f=3:=Option.some.inj ((show Tryz.prog.funcNamed "hypercube/hypercubelaw22.HeadMore" =some 3 by kernel_rfl).symm.trans hf)|>.symm
 obtain rfl:fn=Tryz.f3:=(Option.some.inj (Tryz.func3.symm.trans hfn)).symm
 refine ⟨by kernel_rfl,fun j t ht=> ?_⟩
 rw [Tryz.params3] at ht
 have ht':t=22\/t=27\/t=3\/t=3:=by simpa using Array.mem_of_getElem? ht
 rcases ht' with rfl|rfl|rfl|rfl
 ·exact (show Tryz.prog.wantsStandIn 22=false by kernel_rfl)
 ·exact (show Tryz.prog.wantsStandIn 27=false by kernel_rfl)
 ·exact (show Tryz.prog.wantsStandIn 3=false by kernel_rfl)
 ·exact (show Tryz.prog.wantsStandIn 3=false by kernel_rfl)
theorem headMore_holds:Rows.HeadMoreUptoCardSaid:=
 Claim7.holds_tied_plain_at .later [] _ _ _ _ aj3 (fun _ h=>by cases h) (by as_aux_lemma=>kernel_rfl) (fun _ h=>by cases h) headMoreUpto_row_tie rfl ⟨rfl,rfl⟩ (by as_aux_lemma=>kernel_rfl) rfl plain (by as_aux_lemma=>kernel_rfl)
#print axioms headMore_holds
end Go.Proofs.YtgmmefmmnakbpaaGreatDoor
