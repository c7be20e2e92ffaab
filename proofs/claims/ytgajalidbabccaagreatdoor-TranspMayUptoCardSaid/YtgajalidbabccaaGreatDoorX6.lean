/- hypercubelaw19.TranspMay returns true for every term and any numbers of variables and dimensions: what a term that may be and is carried along a line becomes may be; the card with an upper bound of the input's bulk. -/
import Derived.Test.YtgajalidbabccaaGreatDoorX5
import Derived.KernelRfl
open Bool renaming and_eq_true→ak,not_eq_true'→j9,not_false→dr,not_true→dT
open ByteArray renaming empty→au
open Eq renaming trans→aq
open Go.IntKind renaming wrap→af
open Int renaming add_zero→dH,le_refl→eD
open List renaming all_cons→iO,append_nil→eZ,length_cons→dv,map_cons→jc,mem_append→er,mem_cons→eb,mem_map→dI,mem_singleton→ju,nil_append→fq
open Nat renaming le_refl→eh,le_trans→fN
open Option renaming bind→ag,bind_some→aV
set_option linter.unusedVariables false
set_option linter.unusedSimpArgs false
namespace Go.Proofs.YtgajalidbabccaaGreatDoor
open Go PI
set_option maxRecDepth 20000
variable {S:Type} {k:Nat}
def cM {α β:Type} (F:Int->β->α×Int):Int->List β->List α×Int
 |c,[]=>([],c)
 |c,x::r=>((F c x).1::(cM F (F c x).2 r).1,(cM F (F c x).2 r).2)
theorem pX {α β:Type} {F:Int->β->α×Int}: ∀ {l:List β} {c:Int},(cM F c l).1.length=l.length:=by
 intro l
 induction l with
 |nil=>intro c;rfl
 |cons x l ih=>intro c;rw [cM,dv,dv,ih]
theorem xA {α β:Type} {F:Int->β->α×Int} {Q:α->Prop}: ∀ {l:List β} {c:Int},(∀x∈l,∀c,Q (F c x).1)-> ∀y∈(cM F c l).1,Q y:=by
 intro l
 induction l with
 |nil=>intro c _ y hy;cases hy
 |cons x l ih=>
  intro c h y hy
  rw [cM] at hy
  rcases eb.1 hy with rfl|hy
  ·exact h x (by simp) c
  ·exact ih (fun x hx=>h x (by simp [hx])) y hy
theorem rL {α β:Type} {F:Int->β->α×Int} (hF: ∀c x,(F c x).2=0->c=0): ∀ {l:List β} {c:Int},(cM F c l).2=0->c=0/\ ∀x∈l,(F 0 x).2=0/\(F 0 x).1∈(cM F c l).1:=by
 intro l
 induction l with
 |nil=>intro c h;exact ⟨h,fun x hx=>by cases hx⟩
 |cons x l ih=>
  intro c h
  rw [cM] at h ⊢
  obtain ⟨h1,h2⟩:=ih h
  have hc:=hF c x h1
  subst hc
  refine ⟨rfl,fun y hy=> ?_⟩
  rcases eb.1 hy with rfl|hy
  ·exact ⟨h1,by simp⟩
  ·exact ⟨(h2 y hy).1,List.mem_cons_of_mem _ (h2 y hy).2⟩
theorem Cj {α β:Type} {F:Int->β->α×Int} (hF: ∀c x,(F c x).2=0->c=0): ∀ {l:List β} {c:Int},(cM F c l).2=0->(cM F c l).1=l.map fun x=>(F 0 x).1:=by
 intro l
 induction l with
 |nil=>intro c h;rfl
 |cons x l ih=>
  intro c h
  rw [cM] at h ⊢
  have h1:=(rL hF h).1
  have hc:=hF c x h1
  subst hc
  rw [jc,ih h]
theorem GE {α β:Type} {l:List β} {L:Nat->Int->Int->List α->OS S} {F:Int->β->α×Int} {J:List α×Int->OS S}
  (hend: ∀ (m:Nat) (c:Int) (acc:List α),acc.length=l.length->L (m+1) c (l.length:Int) acc=J (acc,c))
  (hstep: ∀ (m:Nat) (c:Int) (x:β) (p r:List β) (acc:List α),l=p++x::r->acc.length=p.length->L (m+1) c (p.length:Int) acc=L m (F c x).2 (((p++[x]).length:Nat):Int) (acc++[(F c x).1])):
  ∀ (r p:List β) (acc:List α) (m:Nat) (c:Int),l=p++r->r.length<m->acc.length=p.length->L m c (p.length:Int) acc=J (acc++(cM F c r).1,(cM F c r).2):=by
 intro r
 induction r with
 |nil=>
  intro p acc m c h hm ha
  obtain ⟨m,rfl,hm'⟩:=aw hm
  rw [eZ] at h
  subst h
  rw [hend m c acc ha,cM,eZ]
 |cons x r ih=>
  intro p acc m c h hm ha
  obtain ⟨m,rfl,hm'⟩:=aw hm
  rw [hstep m c x p r acc h ha,ih (p++[x]) _ m _ (by rw [h];simp) hm' (by simp [ha]),cM,List.append_assoc];rfl
def eA:Int->LB->LB×Int
 |c,[]=>([],c)
 |c,x::r=>if (gj c x.face).1.length=0 then eA (gj c x.face).2 r else (⟨(gj c x.face).1,x.kids⟩::(eA (gj c x.face).2 r).1,(eA (gj c x.face).2 r).2)
theorem KA {c:Int} {f:LC} (h:RX true f):av (gj c f).1/\(gj c f).1.length<1073741824:=by
 have hno:av ([]:LC)/\([]:LC).length<1073741824:=⟨fun c hc=>(by cases hc),by simp⟩
 unfold gj
 split
 ·have hk:OkT (dE (j_ f).1 ik ik):=(lH (fj (Fh h).2.1) uni_q.1 uni_q.1 (by have:=uni_q.2;omega) (by have:=uni_q.2;omega)).ok
  cases hx:aP 0 [] (dE (j_ f).1 ik ik) with
  |error e=>exact hno
  |ok y=>
   have:=(vB hk hx).1.ok.no
   exact ⟨this.2.2.2.1,this.2.2.2.2.1⟩
 ·exact hno
theorem ajQ: ∀ {l:LB} {c:Int},(eA c l).1.length<=l.length:=by
 intro l
 induction l with
 |nil=>intro c;exact eh _
 |cons x l ih=>
  intro c
  rw [eA]
  split
  ·have:=ih (c:=(gj c x.face).2);simp;omega
  ·have:=ih (c:=(gj c x.face).2);simp;omega
def js (b:Br Tm):Prop:=b.kids=[bN b,k1 b]/\Fm (bN b)/\Fm (k1 b)/\av b.face/\b.face.length<1073741824
theorem ajR: ∀ {l:LB} {c:Int},(∀b∈l,b.kids=[bN b,k1 b]/\Fm (bN b)/\Fm (k1 b)/\RX true b.face)-> ∀b∈(eA c l).1,js b:=by
 intro l
 induction l with
 |nil=>intro c _ b hb;cases hb
 |cons x l ih=>
  intro c h b hb
  rw [eA] at hb
  obtain ⟨q1,q2,q3,q4⟩:=h x (by simp)
  split at hb
  ·exact ih (fun b hb=>h b (by simp [hb])) b hb
  ·rcases eb.1 hb with rfl|hb
   ·have:=KA (c:=c) q4
    exact ⟨q1,q2,q3,this.1,this.2⟩
   ·exact ih (fun b hb=>h b (by simp [hb])) b hb
def dY (phi:LC) (F:Int->Tm×Int) (c:Int):LB×Int:=
 if phi.length=0 then ([],c) else ([⟨phi,[(F c).1]⟩],(F c).2)
theorem akk: ∀ {l:LB},(∀b∈l,b.kids=[bN b,k1 b])->2*l.length<=aM l:=by
 intro l
 induction l with
 |nil=>intro _;simp
 |cons x l ih=>
  intro h
  have h1:=ih fun b hb=>h b (by simp [hb])
  have h2:=h x (by simp)
  obtain ⟨f,ks⟩:=x
  have h2:ks=[bN ⟨f,ks⟩,k1 ⟨f,ks⟩]:=h2
  rw [aM,jp,dv]
  have:ax ks=aA (bN ⟨f,ks⟩)+(aA (k1 ⟨f,ks⟩)+0):=by rw [h2,ax,ax,ax];rfl
  have p1:=po (bN ⟨f,ks⟩);have p2:=po (k1 ⟨f,ks⟩)
  omega
theorem CC {g:Tm} (fg:Fm g) (hg:g.kind=16):g.sys.length<=10000:=by
 have h:=akk fun b hb=>((fg.gl hg).1 b hb).1
 have:=fg.siz
 cases g with
 |mk a b c d e f=>rw [aA] at this;simp only [Tm.sys] at h ⊢;omega
def GN (x:Tm):Prop:=Fm x/\x.kind=16\/x=noT
theorem GN.es (hk:F3 k) {x:Tm} (h:GN x) (J:LB->OS S):BG k x J=J (gc x):=by
 have hfu:4294968296<=k:=hk
 simp only [BG,ap hk.fu,F_,JB]
 rcases h with ⟨h1,h2⟩|rfl
 ·obtain ⟨hx,hl,_⟩:=h1.gl h2
  exact M0 hk J (fun b hb=>(hx b hb).1) hl x.sys [] [] k rfl (by omega) (by simpa using hl)
 ·exact M0 (l:=[]) hk J (fun b hb=>by cases hb) (by simp) [] [] [] k rfl (by simp;omega) (by simp)
theorem GN.un {x a:Tm} (h:GN x) (ha:Fm a):Sm 40002 (lM a (gc x))/\ah (lM a (gc x))<=201:=by
 have:=ha.dep;have:=ha.siz
 rcases h with ⟨h1,h2⟩|rfl
 ·obtain ⟨e1,e2,e3,e4,_,_⟩:=abx h1 h2
  have d:=h1.dep;have z:=h1.siz
  have e5:aN x.sys+1<=ah x:=by cases x;rw [ah];simp only [Tm.sys];omega
  have e6:aM x.sys+1<=aA x:=by cases x;rw [aA];simp only [Tm.sys];omega
  have e7:=CC h1 h2
  have d1:ah (lM a (gc x))<=201:=by rw [ah,az,az];omega
  refine ⟨⟨?_, ?_,by omega⟩,d1⟩
  ·rw [OkT,aU,aU];exact ⟨⟨by unfold aR;omega,by unfold aR;omega,by decide,(fun c hc=>by cases hc),by simp,by simp,by omega⟩,⟨ha.ok,trivial⟩,e1⟩
  ·rw [aA,ax,ax];omega
 ·have d1:ah (lM a (gc noT))<=201:=by rw [ah,az,az];show max _ (aN [])+1<=_;rw [aN];omega
  refine ⟨⟨?_, ?_,by omega⟩,d1⟩
  ·rw [OkT,aU,aU];refine ⟨⟨by unfold aR;omega,by unfold aR;omega,by decide,(fun c hc=>by cases hc),by simp,by simp,by simp [gc,noT,Tm.sys]⟩,⟨ha.ok,trivial⟩, ?_⟩
   show a_ [];rw [a_];trivial
  ·rw [aA,ax,ax];show _+aM []<=_;rw [aM];omega
theorem uc {c:Int} {r:LC} {g:Tm} (fg:Fm g) (hg:g.kind=16) (hr:RF r) (hl:a7 r 24=true):GN (mM c (aP 0 r g)).1:=by
 unfold mM
 split
 ·cases hx:aP 0 r g with
  |error e=>exact .inr rfl
  |ok y=>
   obtain ⟨h1,h2⟩:=pz fg.ok hx
   exact .inl ⟨Eg fg hr hl h2,(zh h2).trans hg⟩
 ·exact .inr rfl
def nY (phi:LC) (a:Tm) (c:Int) (b:Br Tm):Br Tm×Int:=
 (⟨b.face,[aF 6 [aF 9 [k1 b],(mM c (fz (bN b) phi a ⟨0,1⟩ [⟨3,0⟩])).1]]⟩,(mM c (fz (bN b) phi a ⟨0,1⟩ [⟨3,0⟩])).2)
def lf (g:Tm):Tm:=g.kids.headD noT
structure BegR where
 st:LB
 a1:Tm
 c:Int
def oh (phi:LC) (a a0:Tm) (st:LB) (c:Int):LB×Int:=
 ((dY phi (fun c=>mM c (bU 0 1 a0)) c).1++(cM (nY phi a) (dY phi (fun c=>mM c (bU 0 1 a0)) c).2 st).1,(cM (nY phi a) (dY phi (fun c=>mM c (bU 0 1 a0)) c).2 st).2)
def jY (g:Tm) (phi:LC) (a a0:Tm) (st:LB) (c:Int):Tm×Int:=
 mM (oh phi a a0 st c).2 (ej [lf g,a0,dR (oh phi a a0 st c).1] (iD (lf g) a0 (oh phi a a0 st c).1))
def kc (g:Tm) (phi:LC) (a:Tm):BegR:=
 let T:=mM 0 (aP 0 [] g)
 let st:=eA T.2 g.sys
 let C:=jY g phi a (lM a (gc T.1)) st.1 st.2
 ⟨st.1,C.1,C.2⟩
section
variable {phi:LC} {x1 x2:Int} {x3:BA} {x4:LC} {x5:LT} {x6 st0:LB} {y1 y2:Int} {y3:BA} {y4:LC} {y5:LT} {y6:LB} {z1 z2:Int} {z3:BA} {z4:LC} {z5:LT} {z6:LB}
theorem ai8 (hk:F3 k) (fa:Fm (Tm.mk x1 x2 x3 x4 x5 x6)) (hp:RX true phi) {st:LB} (hs: ∀b∈st,js b) (hl:st.length<=10000) (c:Int) (J:LB×Int->OS S):
  w5 k st c phi x1 x2 x3 x4 x5 x6 st0 y1 y2 y3 y4 y5 y6 z1 z2 z3 z4 z5 z6 J=J (cM (nY phi (Tm.mk x1 x2 x3 x4 x5 x6)) c st):=by
 have hfu:4294968296<=k:=hk
 simp only [w5,Jz]
 have:=GE (S:=S) (l:=st) (L:=fun m c i acc=>uz k J phi y2 y3 y4 y5 y6 z1 z2 z3 z4 z5 x1 z6 x2 x3 x4 x5 x6 st0 y1 st m c i acc) (F:=nY phi (Tm.mk x1 x2 x3 x4 x5 x6)) (J:=J)
  (fun m c acc ha=>by
   have:=eP (l:=st) (p:=st) (by simp)
   simp only [uz,Ah,this,ae])
  (fun m c x p r acc h ha=>by
   obtain ⟨e1,e2,e3,_⟩:=bM h (by omega)
   have hlen:p.length<st.length:=by rw [h];simp
   obtain ⟨q1,q2,q3,q4⟩:=hs x (by rw [h];simp)
   have g0:ao x.kids 0=some (bN x):=ld (n:=0) rfl (by rw [q1];rfl)
   have g1:ao x.kids 1=some (k1 x):=ld (n:=1) rfl (by rw [q1];rfl)
   simp only [uz,Ah,e1,al,e2,aV,ap hk.fu,F8,g0,g1,aO,rG,d8,eV,e3]
   rw [So hk (q2.isIn hk) (fa.isIn hk) (fj hp),cX (by simp;omega)]
   rfl)
  st [] [] k c rfl (by omega) rfl
 rw [fq] at this
 exact this
theorem ajd (hk:F3 k) {st:LB} {a0:Tm} (ha:In k a0) (c:Int) (J:LB×Int->OS S):
  wZ k c phi x1 x2 x3 x4 x5 x6 st y1 y2 y3 y4 y5 y6 z1 z2 z3 z4 z5 z6 a0 J=J (dY phi (fun c=>mM c (bU 0 1 a0)) c):=by
 simp only [wZ,ap hk.fu,aO,tJ,eV]
 rw [lE hk (fun _=>ha) (by omega) (by omega)]
 unfold dY
 by_cases h:phi.length=0
 ·rw [if_pos h,h,show (((0:Nat):Int)==0)=true from rfl,al]
 ·rw [if_neg h,beq_false_of_ne (by omega),ae]
theorem zn {F:Int->Tm×Int} (hp:RX true phi) {n:Nat} (hF: ∀c,Sm n (F c).1/\ah (F c).1<=290) (c:Int):j8 n (dY phi F c).1/\(dY phi F c).1.length<=1:=by
 unfold dY
 split
 ·exact ⟨tw n,by simp⟩
 ·exact ⟨AS (fj hp) (hF c).1 (by have:=(hF c).2;omega) (tw n),by simp⟩
theorem ah_ (hk:F3 k) {a:Tm} (fa:Fm a) (hp:RX true phi) {st:LB} (hs: ∀b∈st,js b) (c:Int):j8 400000 (cM (nY phi a) c st).1:=by
 intro y hy
 refine xA (Q:=fun y=> ∃t,y.kids=[t]/\Sm 400000 t/\ah t<=299/\av y.face/\y.face.length<1073741824) (F:=nY phi a) (l:=st) (c:=c) (fun x hx c=> ?_) y hy
 obtain ⟨q1,q2,q3,q4,q5⟩:=hs x hx
 have a9:=I7 (kd:=9) (by omega) (.inl q3)
 have qR:Q2 (mM c (fz (bN x) phi a ⟨0,1⟩ [⟨3,0⟩])).1:=kz fun t h=>Fi hk q2.ok fa.ok hp.1 yA yV h
 have h6:=vv (kd:=6) (by omega) (n:=80001) (ks:=[aF 9 [k1 x],(mM c (fz (bN x) phi a ⟨0,1⟩ [⟨3,0⟩])).1]) (fun x hx=>by
  simp at hx
  rcases hx with rfl|rfl
  ·exact ⟨a9.1,by have:=a9.2;omega⟩
  ·exact ⟨qR.1.mono (by omega),by have:=qR.2;omega⟩) (by simp)
 exact ⟨_,rfl,h6.1.mono (by omega),by have:=h6.2;omega,q4,q5⟩
theorem Ft (hk:F3 k) {a a0:Tm} (fa:Fm a) (o0:OkT a0) (hp:RX true phi) {st:LB} (hs: ∀b∈st,js b) (hl:st.length<=10000) (c:Int):In k (dR (oh phi a a0 st c).1):=by
 have fU: ∀c,FN (mM c (bU 0 1 a0)).1:=fun c=>pZ fun t h=>pA (by omega) (lN o0 h).1 (lN o0 h).2
 obtain ⟨w1,w2⟩:=zn (F:=fun c=>mM c (bU 0 1 a0)) hp (n:=400000) (fun c=>⟨(fU c).sm.1.mono (by omega),by have:=(fU c).sm.2;omega⟩) c
 have hb:j8 400000 (oh phi a a0 st c).1:=AR w1 (ah_ hk fa hp hs _)
 obtain ⟨b1,b2⟩:=FE hb
 refine Tk hk (by omega) b1 ?_ b2
 unfold oh
 rw [List.length_append,pX];omega
theorem aiq (hk:F3 k) {g a0:Tm} (fg:Fm g) (hg:g.kind=16) (fa:Fm (Tm.mk x1 x2 x3 x4 x5 x6)) (ia:In k a0) (hp:RX true phi) {st:LB} (hs: ∀b∈st,js b) (hl:st.length<=10000) (c:Int) (J:Int×LB×Int×Int×BA×LC×LT×LB->OS S):
  (wZ k c phi x1 x2 x3 x4 x5 x6 st y1 y2 y3 y4 y5 y6 z1 z2 z3 z4 z5 z6 a0 fun r8=>w5 k st r8.2 phi x1 x2 x3 x4 x5 x6 st y1 y2 y3 y4 y5 y6 z1 z2 z3 z4 z5 z6 fun r9=>ag (bQ 1099511627776 r8.1.length r9.1.length) fun x10=>ag (ao g.kids 0) fun x11=>rI k x11 a0 (r8.1++r9.1) r9.2 fun r12=>J (r12.2,st,r12.1.kind,r12.1.n,r12.1.name,r12.1.r,r12.1.kids,r12.1.sys))=
   J ((jY g phi (Tm.mk x1 x2 x3 x4 x5 x6) a0 st c).2,st,(jY g phi (Tm.mk x1 x2 x3 x4 x5 x6) a0 st c).1.kind,(jY g phi (Tm.mk x1 x2 x3 x4 x5 x6) a0 st c).1.n,(jY g phi (Tm.mk x1 x2 x3 x4 x5 x6) a0 st c).1.name,(jY g phi (Tm.mk x1 x2 x3 x4 x5 x6) a0 st c).1.r,(jY g phi (Tm.mk x1 x2 x3 x4 x5 x6) a0 st c).1.kids,(jY g phi (Tm.mk x1 x2 x3 x4 x5 x6) a0 st c).1.sys):=by
 obtain ⟨_,_,b,hb,fb⟩:=fg.gl hg
 have gb:ao g.kids 0=some b:=ld (n:=0) rfl (by rw [hb];rfl)
 have hd:lf g=b:=by unfold lf;rw [hb];rfl
 have hw:=(zn (F:=fun c=>mM c (bU 0 1 a0)) hp (n:=20000) (fun c=>by
  have fU:FN (mM c (bU 0 1 a0)).1:=pZ fun t h=>pA (by omega) (lN ia.1 h).1 (lN ia.1 h).2
  exact ⟨fU.sm.1,by have:=fU.sm.2;omega⟩) c).2
 rw [ajd hk ia,ai8 hk fa hp hs hl,cX (by rw [pX];omega),gb,aV]
 have hin:=Ft hk fa ia.1 hp hs hl c
 unfold oh at hin
 rw [IZ hk (fun _=>⟨fb.isIn hk,ia,hin⟩) (fun e h=>D6 (fun e h=>wJ h) h)]
 unfold jY oh
 rw [hd]
theorem adI (hk:F3 k) {g a0:Tm} (fg:Fm g) (hg:g.kind=16) (fa:Fm (Tm.mk x1 x2 x3 x4 x5 x6)) {es:LB} (e0:Tm.mk 18 0 au [] [Tm.mk x1 x2 x3 x4 x5 x6] es=a0) (ia:In k a0) (hp:RX true phi) (J:Int×LB×Int×Int×BA×LC×LT×LB->OS S):
  ∀ (r p st:LB) (m:Nat) (c:Int),g.sys=p++r->r.length<m->(∀b∈st,js b)->st.length+r.length<=10000->
   uy k J phi y2 y3 y4 y5 y6 z1 z2 z3 z4 z5 x1 z6 x2 x3 x4 x5 x6 y1 g (18,0,au,[Tm.mk x1 x2 x3 x4 x5 x6],es) m c st (p.length:Int)=
    (fun C:Tm×Int=>J (C.2,st++(eA c r).1,C.1.kind,C.1.n,C.1.name,C.1.r,C.1.kids,C.1.sys)) (jY g phi (Tm.mk x1 x2 x3 x4 x5 x6) a0 (st++(eA c r).1) (eA c r).2):=by
 obtain ⟨hx,hl,_⟩:=fg.gl hg
 intro r
 induction r with
 |nil=>
  intro p st m c h hm hs ha
  obtain ⟨m,rfl,hm'⟩:=aw hm
  simp only [uy,Ag,eP h,ae,ap hk.fu,aO,eA,eZ,e0]
  exact aiq hk fg hg fa ia hp hs (by simpa using ha) c J
 |cons x r ih=>
  intro p st m c h hm hs ha
  obtain ⟨m,rfl,hm'⟩:=aw hm
  obtain ⟨e1,e2,e3,e4⟩:=bM h (by omega)
  rw [dv] at ha
  obtain ⟨q1,q2,q3,q4⟩:=hx x (by rw [h];simp)
  simp only [uy,Ag,e1,al,e2,aV,ap hk.fu,e3,eV]
  rw [aiR hk q4,eA]
  by_cases h0:(gj c x.face).1.length=0
  ·rw [if_pos h0,decide_eq_false (by omega),ae]
   exact ih (p++[x]) st m _ e4 hm' hs (by omega)
  ·rw [if_neg h0,decide_eq_true (by omega),al,cX (by simp;omega)]
   have:=KA (c:=c) q4
   have hb:js ⟨(gj c x.face).1,x.kids⟩:=⟨q1,q2,q3,this.1,this.2⟩
   have i:=ih (p++[x]) (st++[⟨(gj c x.face).1,x.kids⟩]) m (gj c x.face).2 e4 hm' (fun b hb'=>by
    rcases er.1 hb' with hb'|hb'
    ·exact hs b hb'
    ·rw [ju] at hb';rw [hb'];exact hb) (by simp;omega)
   rw [i,List.append_assoc];rfl
theorem aip (hk:F3 k) {g:Tm} (fg:Fm g) (hg:g.kind=16) (fa:Fm (Tm.mk x1 x2 x3 x4 x5 x6)) (hp:RX true phi) (J:Int×LB×Int×Int×BA×LC×LT×LB->OS S):
  BC k g 0 phi x1 x2 x3 x4 x5 x6 y1 y2 y3 y4 y5 y6 z1 z2 z3 z4 z5 z6 J=(fun B:BegR=>J (B.c,B.st,B.a1.kind,B.a1.n,B.a1.name,B.a1.r,B.a1.kids,B.a1.sys)) (kc g phi (Tm.mk x1 x2 x3 x4 x5 x6)):=by
 have hfu:4294968296<=k:=hk
 simp only [BC,Jy,ap hk.fu,aO]
 rw [za hk (fun _=>fg.isIn hk) DS]
 have gT:GN (mM 0 (aP 0 [] g)).1:=uc fg hg ja (nO (by decide))
 rw [gT.es hk]
 simp only [Ga,ap hk.fu,ny,aO]
 have hu:=gT.un fa
 have ia:=hu.1.isIn hk (by omega)
 have hlen:=CC fg hg
 refine (adI hk fg hg fa rfl ia hp J g.sys [] [] k _ rfl (by omega) (fun b hb=>by cases hb) (by simpa using hlen)).trans ?_
 rw [fq];rfl
end
def HS (w z:Tm):Tm:=aF 8 [w,aF 12 [z]]
def C_ (u w z:Tm):Tm:=pc [⟨1,0⟩] (aF 6 [aF 10 [u],HS w z]) (aF 9 [u]) (HS w z)
def i8 (a1 cen x:Tm) (c:Int):Tm×Int:=
 let u:=mM c (bU 0 1 cen)
 let w:=mM u.2 (bU 0 1 x)
 let z:=mM w.2 (bU 0 2 a1)
 (C_ u.1 w.1 z.1,z.2)
def iV (e a1:Tm):Tm:=aF 6 [aF 10 [e],a1]
def nH (phi:LC) (a a1 cen:Tm) (c:Int) (b:Br Tm):Br Tm×Int:=
 (⟨b.face,[(i8 a1 cen (dE phi (bN b) a) c).1]⟩,(i8 a1 cen (dE phi (bN b) a) c).2)
def xF (phi:LC) (a a1 cen:Tm) (st:LB) (c:Int):LB×Int:=
 ((dY phi (i8 a1 cen a) c).1++(cM (nH phi a a1 cen) (dY phi (i8 a1 cen a) c).2 st).1,(cM (nH phi a a1 cen) (dY phi (i8 a1 cen a) c).2 st).2)
def rP (phi:LC) (a a1 t1:Tm) (st:LB) (t e:Tm) (c:Int):Tm×Int:=
 let f:=mM c (ej [t,t1,aF 9 [e],a1] (ie t t1 (aF 9 [e]) a1))
 let s:=xF phi a a1 (iV e a1) st f.2
 (.mk 15 0 au [] [f.1,aF 9 [iV e a1]] s.1,s.2)
theorem D4 {kd:Int} (hkd:0<=kd/\kd<=28) {n m d:Nat} {x y:Tm} (hx:Sm n x/\ah x<=d) (hy:Sm m y/\ah y<=d) (hd:d<=290):Sm (n+m+1) (aF kd [x,y])/\ah (aF kd [x,y])<=d+1:=by
 unfold aF
 refine ⟨(n1 (kd:=kd) hkd (r:=[]) ⟨(fun c hc=>by cases hc),by simp⟩ (ks:=[x,y]) (sys:=[]) (n:=n+m) (m:=0) (fun z hz=>by
  simp at hz
  rcases hz with rfl|rfl
  ·exact ⟨hx.1.ok,by have:=hx.2;omega⟩
  ·exact ⟨hy.1.ok,by have:=hy.2;omega⟩) (by simp) (by rw [ax,ax,ax];have:=hx.1.siz;have:=hy.1.siz;omega) (by rw [a_];trivial) (by simp) (by rw [aN];omega) (by rw [aM];omega)).mono (by omega), ?_⟩
 rw [ah,az,az,az,aN];have:=hx.2;have:=hy.2;omega
theorem mi {kd:Int} (hkd:0<=kd/\kd<=28) {n d:Nat} {x:Tm} (hx:Sm n x/\ah x<=d) (hd:d<=290):Sm (n+1) (aF kd [x])/\ah (aF kd [x])<=d+1:=by
 unfold aF
 refine ⟨(n1 (kd:=kd) hkd (r:=[]) ⟨(fun c hc=>by cases hc),by simp⟩ (ks:=[x]) (sys:=[]) (n:=n) (m:=0) (fun z hz=>by
  simp at hz;subst hz
  exact ⟨hx.1.ok,by have:=hx.2;omega⟩) (by simp) (by rw [ax,ax];have:=hx.1.siz;omega) (by rw [a_];trivial) (by simp) (by rw [aN];omega) (by rw [aM];omega)).mono (by omega), ?_⟩
 rw [ah,az,az,aN];have:=hx.2;omega
theorem SC {r:LC} (hr:av r/\r.length<1073741824) {n m j d:Nat} {x y z:Tm} (hx:Sm n x/\ah x<=d) (hy:Sm m y/\ah y<=d) (hz:Sm j z/\ah z<=d) (hd:d<=290):Sm (n+m+j+1) (pc r x y z)/\ah (pc r x y z)<=d+1:=by
 refine ⟨(n1 (kd:=13) (by omega) hr (ks:=[x,y,z]) (sys:=[]) (n:=n+m+j) (m:=0) (fun w hw=>by
  simp at hw
  rcases hw with rfl|rfl|rfl
  ·exact ⟨hx.1.ok,by have:=hx.2;omega⟩
  ·exact ⟨hy.1.ok,by have:=hy.2;omega⟩
  ·exact ⟨hz.1.ok,by have:=hz.2;omega⟩) (by simp) (by rw [ax,ax,ax,ax];have:=hx.1.siz;have:=hy.1.siz;have:=hz.1.siz;omega) (by rw [a_];trivial) (by simp) (by rw [aN];omega) (by rw [aM];omega)).mono (by omega), ?_⟩
 rw [ah,az,az,az,az,aN];have:=hx.2;have:=hy.2;have:=hz.2;omega
theorem p6 {c a b:Int} (ha:0<=a/\a<=1000) (hb:0<=b/\b<=1000) {t:Tm} (ot:OkT t):FN (mM c (bU a b t)).1:=pZ fun t h=>pA (by omega) (lN ot h).1 (lN ot h).2
theorem ags {u w z:Tm} (hu:FN u) (hw:FN w) (hz:FN z):Sm 200000 (C_ u w z)/\ah (C_ u w z)<=210:=by
 have h12:=mi (kd:=12) (by omega) hz.sm (by omega)
 have h8:=D4 (kd:=8) (by omega) (d:=201) ⟨hw.sm.1,by have:=hw.sm.2;omega⟩ h12 (by omega)
 have h10:=mi (kd:=10) (by omega) hu.sm (by omega)
 have h9:=mi (kd:=9) (by omega) hu.sm (by omega)
 have h6:=D4 (kd:=6) (by omega) (d:=202) ⟨h10.1,by have:=h10.2;omega⟩ ⟨h8.1,by have:=h8.2;omega⟩ (by omega)
 have:=SC (uX (a:=1) (b:=0) (by omega) (by omega)) (d:=203) ⟨h6.1,by have:=h6.2;omega⟩ ⟨h9.1,by have:=h9.2;omega⟩ ⟨h8.1,by have:=h8.2;omega⟩ (by omega)
 exact ⟨this.1.mono (by omega),by have:=this.2;unfold C_ HS;omega⟩
theorem OK {a1 cen x:Tm} {c:Int} (h1:OkT a1) (h2:OkT cen) (h3:OkT x):Sm 200000 (i8 a1 cen x c).1/\ah (i8 a1 cen x c).1<=210:=
 ags (p6 (by omega) (by omega) h2) (p6 (by omega) (by omega) h3) (p6 (by omega) (by omega) h1)
theorem AX {e a1:Tm} (he:FN e) (h1:FN a1):Sm 40002 (iV e a1)/\ah (iV e a1)<=202:=by
 have h10:=mi (kd:=10) (by omega) he.sm (by omega)
 have:=D4 (kd:=6) (by omega) (d:=201) ⟨h10.1,by have:=h10.2;omega⟩ ⟨h1.sm.1,by have:=h1.sm.2;omega⟩ (by omega)
 exact ⟨this.1.mono (by omega),by have:=this.2;unfold iV;omega⟩
section
variable {phi:LC} {x1 x2:Int} {x3:BA} {x4:LC} {x5:LT} {x6 st0:LB} {y1 y2:Int} {y3:BA} {y4:LC} {y5:LT} {y6:LB} {z1 z2:Int} {z3:BA} {z4:LC} {z5:LT} {z6:LB}
theorem Sf (hk:F3 k) {x cen:Tm} (i1:In k (Tm.mk y1 y2 y3 y4 y5 y6)) (i2:In k cen) (i3:In k x) (c:Int) (J:Int×Int×BA×LC×LT×Int->OS S):
  ∃ks,wY k x cen c phi x1 x2 x3 x4 x5 x6 st0 y1 y2 y3 y4 y5 y6 z1 z2 z3 z4 z5 z6 J=J (13,0,au,[⟨1,0⟩],ks,(i8 (Tm.mk y1 y2 y3 y4 y5 y6) cen x c).2)/\Tm.mk 13 0 au [⟨1,0⟩] ks []=(i8 (Tm.mk y1 y2 y3 y4 y5 y6) cen x c).1:=by
 refine ⟨_, ?_,rfl⟩
 simp only [wY,ap hk.fu,aO,d8,iF]
 rw [lE hk (fun _=>i2) (by omega) (by omega),lE hk (fun _=>i3) (by omega) (by omega),lE hk (fun _=>i1) (by omega) (by omega)]
 rfl
theorem aje (hk:F3 k) {cen:Tm} (i1:In k (Tm.mk y1 y2 y3 y4 y5 y6)) (i2:In k cen) (i3:In k (Tm.mk x1 x2 x3 x4 x5 x6)) (c:Int) (J:LB×Int->OS S):
  BE k c phi x1 x2 x3 x4 x5 x6 st0 y1 y2 y3 y4 y5 y6 z1 z2 z3 z4 z5 z6 cen J=J (dY phi (i8 (Tm.mk y1 y2 y3 y4 y5 y6) cen (Tm.mk x1 x2 x3 x4 x5 x6)) c):=by
 simp only [BE,ap hk.fu,aO,tK,eV]
 obtain ⟨ks,h1,h2⟩:=Sf (phi:=phi) (x1:=x1) (x2:=x2) (x3:=x3) (x4:=x4) (x5:=x5) (x6:=x6) (st0:=st0) (z1:=z1) (z2:=z2) (z3:=z3) (z4:=z4) (z5:=z5) (z6:=z6) hk i1 i2 i3 c (fun r1=>J ([⟨phi,[Tm.mk r1.1 r1.2.1 r1.2.2.1 r1.2.2.2.1 r1.2.2.2.2.1 []]⟩],r1.2.2.2.2.2))
 rw [h1]
 dsimp only
 rw [h2]
 unfold dY
 by_cases h:phi.length=0
 ·rw [if_pos h,h,show (((0:Nat):Int)==0)=true from rfl,al]
 ·rw [if_neg h,beq_false_of_ne (by omega),ae]
theorem aiK (hk:F3 k) {cen:Tm} (i1:In k (Tm.mk y1 y2 y3 y4 y5 y6)) (i2:In k cen) (fa:Fm (Tm.mk x1 x2 x3 x4 x5 x6)) (hp:RX true phi) {st:LB} (hs: ∀b∈st,js b) (hl:st.length<=10000) (c:Int) (J:LB×Int->OS S):
  BF k st cen c phi x1 x2 x3 x4 x5 x6 st0 y1 y2 y3 y4 y5 y6 z1 z2 z3 z4 z5 z6 J=J (cM (nH phi (Tm.mk x1 x2 x3 x4 x5 x6) (Tm.mk y1 y2 y3 y4 y5 y6) cen) c st):=by
 have hfu:4294968296<=k:=hk
 simp only [BF,JC]
 have:=GE (S:=S) (l:=st) (L:=fun m c i acc=>rW k J cen phi y2 y3 y4 y5 y6 z1 z2 z3 z4 z5 x1 z6 x2 x3 x4 x5 x6 st0 y1 st m c i acc) (F:=nH phi (Tm.mk x1 x2 x3 x4 x5 x6) (Tm.mk y1 y2 y3 y4 y5 y6) cen) (J:=J)
  (fun m c acc ha=>by
   have:=eP (l:=st) (p:=st) (by simp)
   simp only [rW,Ak,this,ae])
  (fun m c x p r acc h ha=>by
   obtain ⟨e1,e2,e3,_⟩:=bM h (by omega)
   have hlen:p.length<st.length:=by rw [h];simp
   obtain ⟨q1,q2,q3,q4⟩:=hs x (by rw [h];simp)
   have g0:ao x.kids 0=some (bN x):=ld (n:=0) rfl (by rw [q1];rfl)
   have h14:=(lH (fj hp) q2.sm fa.sm (by have:=q2.dep;omega) (by have:=fa.dep;omega)).isIn hk (by omega)
   simp only [rW,Ak,e1,al,e2,aV,ap hk.fu,F9,g0,aO,iF,eV,e3]
   obtain ⟨ks,h1,h2⟩:=Sf (phi:=phi) (x1:=x1) (x2:=x2) (x3:=x3) (x4:=x4) (x5:=x5) (x6:=x6) (st0:=st0) (z1:=z1) (z2:=z2) (z3:=z3) (z4:=z4) (z5:=z5) (z6:=z6) hk i1 i2 h14 c (fun r3=>ag (bQ 1099511627776 acc.length [(⟨x.face,[Tm.mk r3.1 r3.2.1 r3.2.2.1 r3.2.2.2.1 r3.2.2.2.2.1 []]⟩:Br Tm)].length) fun aln=>rW k J cen phi y2 y3 y4 y5 y6 z1 z2 z3 z4 z5 x1 z6 x2 x3 x4 x5 x6 st0 y1 st m r3.2.2.2.2.2 (((p++[x]).length:Nat):Int) (acc++[⟨x.face,[Tm.mk r3.1 r3.2.1 r3.2.2.1 r3.2.2.2.1 r3.2.2.2.2.1 []]⟩]))
   refine aq ?_ (h1.trans ?_)
   ·rfl
   dsimp only
   rw [cX (by simp;omega),h2]
   rfl)
  st [] [] k c rfl (by omega) rfl
 rw [fq] at this
 exact this
end
theorem L4 {a a1 cen:Tm} (fa:Fm a) (h1:OkT a1) (h2:OkT cen) {phi:LC} (hp:RX true phi) {st:LB} (hs: ∀b∈st,js b) (c:Int):j8 200000 (xF phi a a1 cen st c).1/\(xF phi a a1 cen st c).1.length<=st.length+1:=by
 obtain ⟨w1,w2⟩:=zn (F:=i8 a1 cen a) hp (n:=200000) (fun c=>by
  have:=OK (c:=c) h1 h2 fa.ok
  exact ⟨this.1,by have:=this.2;omega⟩) c
 refine ⟨AR w1 ?_, ?_⟩
 ·intro y hy
  refine xA (Q:=fun y=> ∃t,y.kids=[t]/\Sm 200000 t/\ah t<=299/\av y.face/\y.face.length<1073741824) (F:=nH phi a a1 cen) (l:=st) (c:=(dY phi (i8 a1 cen a) c).2) (fun x hx c=> ?_) y hy
  obtain ⟨q1,q2,q3,q4,q5⟩:=hs x hx
  have h14:=(lH (fj hp) q2.sm fa.sm (by have:=q2.dep;omega) (by have:=fa.dep;omega)).ok
  have:=OK (c:=c) h1 h2 h14
  exact ⟨_,rfl,this.1,by have:=this.2;omega,q4,q5⟩
 ·unfold xF
  rw [List.length_append,pX];omega
theorem ab_ (hk:F3 k) {phi:LC} {a a1 t1 t e:Tm} {st:LB} {c:Int} (fa:Fm a) (f1:FN a1) (ft1:FN t1) (ft:Fm t) (fe:Fm e) (hp:RX true phi) (hs: ∀b∈st,js b) (hl:st.length<=10000):
  FN (mM c (ej [t,t1,aF 9 [e],a1] (ie t t1 (aF 9 [e]) a1))).1->Sm 50000000000 (rP phi a a1 t1 st t e c).1/\ah (rP phi a a1 t1 st t e c).1<=300:=by
 intro hf
 have hc:=AX (.inl fe) f1
 have h9:=mi (kd:=9) (by omega) hc (by omega)
 obtain ⟨b1,b2⟩:=L4 (st:=st) (cen:=iV e a1) fa f1.sm.1.ok hc.1.ok hp hs (mM c (ej [t,t1,aF 9 [e],a1] (ie t t1 (aF 9 [e]) a1))).2
 have:=ajz (n:=50000) (m:=200000) (hf.sm.1.mono (by omega)) (h9.1.mono (by omega)) (by have:=hf.sm.2;omega) (by have:=h9.2;omega) (by omega) b1 (by omega) (by omega)
 exact ⟨this,this.dep⟩
section
variable {phi:LC} {x1 x2:Int} {x3:BA} {x4:LC} {x5:LT} {x6 st0:LB} {y1 y2:Int} {y3:BA} {y4:LC} {y5:LT} {y6:LB} {z1 z2:Int} {z3:BA} {z4:LC} {z5:LT} {z6:LB}
theorem aiU (hk:F3 k) {t a f y:Tm} {c:Int} (ht:In k t) (ha:In k a) (hf:In k f) (hy:In k y) (J:Tm×Int->OS S):BV k t a f y c J=J (mM c (ej [t,a,f,y] (ie t a f y))):=by
 simp only [BV,ap hk.fu,ef,aO,lD]
 exact qm c (fun h g=>aih hk ht ha hf hy g) (fun e h=>D6 (fun e h=>GI h) h) J
theorem aiI (hk:F3 k) {t e:Tm} (ft:Fm t) (fe:Fm e) (fa:Fm (Tm.mk x1 x2 x3 x4 x5 x6)) (f1:FN (Tm.mk y1 y2 y3 y4 y5 y6)) (ft1:FN (Tm.mk z1 z2 z3 z4 z5 z6)) (hp:RX true phi) {st:LB} (hs: ∀b∈st,js b) (hl:st.length<=10000) (c:Int) (J:Int×Int×BA×LT×LB×Int->OS S):
  BD k t e c phi x1 x2 x3 x4 x5 x6 st y1 y2 y3 y4 y5 y6 z1 z2 z3 z4 z5 z6 J=(fun F:Tm×Int=>J (15,0,au,F.1.kids,F.1.sys,F.2)) (rP phi (Tm.mk x1 x2 x3 x4 x5 x6) (Tm.mk y1 y2 y3 y4 y5 y6) (Tm.mk z1 z2 z3 z4 z5 z6) st t e c):=by
 have i1:=f1.sm.1.isIn hk (by omega)
 have i2:=(AX (.inl fe) f1).1.isIn hk (by omega)
 have i9:=(mi (kd:=9) (by omega) (FN.sm (.inl fe)) (by omega)).1.isIn hk (by omega)
 simp only [BD,ap hk.fu,aO,d8,rG,ny]
 have e9:Tm.mk 9 0 au [] [e] []=aF 9 [e]:=rfl
 have ec:Tm.mk 6 0 au [] [Tm.mk 10 0 au [] [e] [],Tm.mk y1 y2 y3 y4 y5 y6] []=iV e (Tm.mk y1 y2 y3 y4 y5 y6):=rfl
 rw [e9,ec,aiU hk (ft.isIn hk) (ft1.sm.1.isIn hk (by omega)) i9 i1,aje hk i1 i2 (fa.isIn hk),aiK hk i1 i2 fa hp hs hl]
 have hb:=(L4 (st:=st) (cen:=iV e (Tm.mk y1 y2 y3 y4 y5 y6)) (a1:=Tm.mk y1 y2 y3 y4 y5 y6) fa f1.sm.1.ok (AX (.inl fe) f1).1.ok hp hs (mM c (ej [t,Tm.mk z1 z2 z3 z4 z5 z6,aF 9 [e],Tm.mk y1 y2 y3 y4 y5 y6] (ie t (Tm.mk z1 z2 z3 z4 z5 z6) (aF 9 [e]) (Tm.mk y1 y2 y3 y4 y5 y6)))).2).2
 unfold xF at hb
 rw [List.length_append] at hb
 rw [cX (by omega)]
 rfl
end
theorem aiT (hk:F3 k) {t:Tm} {c:Int} (ot:OkT t) (hd:ah t<=400) (J:Tm×Bool×Int×Int->OS S):hY k t c J=J ((dM c t).1,(dM c t).2==0,(dM c t).2,(dM c t).2):=by
 have h2:Fd k (ah t):=hk.fd (by omega)
 simp only [hY,ap hk.fu,ef,aO,lD,jo ot h2 (by omega)]
 have:OkT (dM c t).1/\Fd k (ah (dM c t).1):=by
  unfold dM
  split
  ·split
   ·exact ⟨ot,h2⟩
   ·exact ⟨(nP hk).1,(nP hk).2.1⟩
  ·exact ⟨(nP hk).1,(nP hk).2.1⟩
 exact pk (dM c t).1 this.1 _ this.2
def io (phi:LC) (a a1 t1:Tm) (st:LB) (c:Int) (b:Br Tm):Tm×Int:=rP phi a a1 t1 st (bN b) (k1 b) c
def jj (a1:Tm) (c:Int) (q:Br Tm×Tm):Br Tm×Int:=
 let x:=mM c (bU 0 1 q.2)
 let lo:=mM x.2 (bU 0 1 a1)
 let e:=mM lo.2 (bU 0 1 (k1 q.1))
 (⟨q.1.face,[pc [⟨1,0⟩] (aF 10 [x.1]) lo.1 (aF 6 [aF 9 [e.1],aF 9 [x.1]])]⟩,e.2)
def ta (q:Br Tm×Tm):Br Tm:=⟨q.1.face,[aF 9 [q.2]]⟩
def fi (l:LT):Tm:=match l with
 |[x]=>x
 |_=>noT
theorem abF (hk:F3 k) {t a f y:Tm} (ht:In k t) (ha:In k a) (hf:In k f) (hy:In k y) (c:Int):FN (mM c (ej [t,a,f,y] (ie t a f y))).1:=pZ fun z h=>by
 obtain ⟨so,ff,hx⟩:=zd h
 have:=pu (l:=[t,a,f,y]) (fun x hx=>by
  simp at hx
  rcases hx with rfl|rfl|rfl|rfl
  ·exact ht.1
  ·exact ha.1
  ·exact hf.1
  ·exact hy.1) so
 exact ⟨((L3 (by omega) (by omega) (this t (by simp)).f2 (this a (by simp)).f2 (this f (by simp)).f2 (this y (by simp)).f2 hx).isIn hk (by omega) (by omega)).1,ff⟩
section
variable {phi:LC} {x1 x2:Int} {x3:BA} {x4:LC} {x5:LT} {x6 st:LB} {y1 y2:Int} {y3:BA} {y4:LC} {y5:LT} {y6:LB} {z1 z2:Int} {z3:BA} {z4:LC} {z5:LT} {z6:LB}
def GB (l:LB):Prop:= ∀b∈l,b.kids=[bN b,k1 b]/\Fm (bN b)/\Fm (k1 b)/\RX true b.face
theorem Kr (hk:F3 k) {a a1 t1:Tm} (fa:Fm a) (f1:FN a1) (ft1:FN t1) (hp:RX true phi) (hs: ∀b∈st,js b) (hl:st.length<=10000) {l:LB} (hg:GB l) {c:Int}: ∀w∈(cM (io phi a a1 t1 st) c l).1,Sm 50000000000 w/\ah w<=300:=
 xA fun b hb c=>by
  obtain ⟨q1,q2,q3,q4⟩:=hg b hb
  exact ab_ hk fa f1 ft1 q2 q3 hp hs hl (abF hk (q2.isIn hk) (ft1.sm.1.isIn hk (by omega)) ((mi (kd:=9) (by omega) (FN.sm (.inl q3)) (by omega)).1.isIn hk (by omega)) (f1.sm.1.isIn hk (by omega)) _)
theorem aji (hk:F3 k) (fa:Fm (Tm.mk x1 x2 x3 x4 x5 x6)) (f1:FN (Tm.mk y1 y2 y3 y4 y5 y6)) (ft1:FN (Tm.mk z1 z2 z3 z4 z5 z6)) (hp:RX true phi) (hs: ∀b∈st,js b) (hl:st.length<=10000) {l:LB} (hg:GB l) (hgl:l.length<=10000) (c:Int) (J:LT×Int->OS S):
  tM k l c phi x1 x2 x3 x4 x5 x6 st y1 y2 y3 y4 y5 y6 z1 z2 z3 z4 z5 z6 J=J (cM (io phi (Tm.mk x1 x2 x3 x4 x5 x6) (Tm.mk y1 y2 y3 y4 y5 y6) (Tm.mk z1 z2 z3 z4 z5 z6) st) c l):=by
 have hfu:4294968296<=k:=hk
 simp only [tM,JA]
 have:=GE (S:=S) (l:=l) (L:=fun m c i acc=>uA k J phi y2 y3 y4 y5 y6 z1 z2 z3 z4 z5 x1 z6 x2 x3 x4 x5 x6 st y1 l m c i acc) (F:=io phi (Tm.mk x1 x2 x3 x4 x5 x6) (Tm.mk y1 y2 y3 y4 y5 y6) (Tm.mk z1 z2 z3 z4 z5 z6) st) (J:=J)
  (fun m c acc ha=>by
   have:=eP (l:=l) (p:=l) (by simp)
   simp only [uA,Ai,this,ae])
  (fun m c x p r acc h ha=>by
   obtain ⟨e1,e2,e3,_⟩:=bM h (by omega)
   have hlen:p.length<l.length:=by rw [h];simp
   obtain ⟨q1,q2,q3,q4⟩:=hg x (by rw [h];simp)
   have g0:ao x.kids 0=some (bN x):=ld (n:=0) rfl (by rw [q1];rfl)
   have g1:ao x.kids 1=some (k1 x):=ld (n:=1) rfl (by rw [q1];rfl)
   simp only [uA,Ai,e1,al,e2,aV,ap hk.fu,F7,g0,g1,aO,e3]
   rw [aiI hk q2 q3 fa f1 ft1 hp hs hl]
   dsimp only
   rw [cX (by simp;omega)]
   rfl)
  l [] [] k c rfl (by omega) rfl
 rw [fq] at this
 exact this
theorem ajf (hk:F3 k) (i1:In k (Tm.mk y1 y2 y3 y4 y5 y6)) (c:Int) (J:LB×Int->OS S):
  tL k c phi x1 x2 x3 x4 x5 x6 st y1 y2 y3 y4 y5 y6 z1 z2 z3 z4 z5 z6 J=J (dY phi (fun c=>mM c (bU 0 1 (Tm.mk y1 y2 y3 y4 y5 y6))) c):=by
 simp only [tL,ap hk.fu,aO,tI,eV]
 rw [lE hk (fun _=>i1) (by omega) (by omega)]
 unfold dY
 by_cases h:phi.length=0
 ·rw [if_pos h,h,show (((0:Nat):Int)==0)=true from rfl,al]
 ·rw [if_neg h,beq_false_of_ne (by omega),ae]
end
def iH (phi:LC) (g a:Tm):Tm×Int:=
 let B:=kc g phi a
 let G:=mM B.c (aP 0 [⟨0,0⟩] g)
 let t1:=fi G.1.kids
 let ws:=cM (io phi a B.a1 t1 B.st) G.2 G.1.sys
 let W:=dY phi (fun c=>mM c (bU 0 1 B.a1)) ws.2
 let Z:=cM (jj B.a1) W.2 (G.1.sys.zip ws.1)
 (.mk 17 0 au [] [.mk 15 0 au [] [t1,B.a1] (W.1++Z.1)] ((G.1.sys.zip ws.1).map ta),Z.2)
def xK (t:Tm):Tm×Bool×Int:=
 if ck t≠0 then (noT,false,ck t) else
 if t.kind=14/\(t.kids.getD 0 noT).kind=16 then
  (fun q:Tm×Int=>((dM q.2 q.1).1,(dM q.2 q.1).2==0,(dM q.2 q.1).2)) (iH t.r (t.kids.getD 0 noT) (t.kids.getD 1 noT))
 else (noT,false,0)
theorem AM (hk:F3 k) {g a:Tm} {phi:LC} (fg:Fm g) (hg:g.kind=16) (fa:Fm a) (hp:RX true phi):FN (kc g phi a).a1/\(∀b∈(kc g phi a).st,js b)/\(kc g phi a).st.length<=10000:=by
 obtain ⟨hx,_,b,hb,fb⟩:=fg.gl hg
 have hlen:=CC fg hg
 have gT:GN (mM 0 (aP 0 [] g)).1:=uc fg hg ja (nO (by decide))
 have hs:=ajR (l:=g.sys) (c:=(mM 0 (aP 0 [] g)).2) hx
 have hl:=ajQ (l:=g.sys) (c:=(mM 0 (aP 0 [] g)).2)
 have hd:lf g=b:=by unfold lf;rw [hb];rfl
 have ia:=(gT.un fa).1.isIn hk (by omega)
 refine ⟨?_,hs,fN hl hlen⟩
 show FN (jY g phi a _ _ _).1
 unfold jY
 rw [hd]
 exact L9 hk (fb.isIn hk) ia (Ft hk fa ia.1 hp hs (fN hl hlen) _) _
theorem CD {x:Tm} (h:GN x):FN (fi x.kids)/\GB x.sys/\x.sys.length<=10000/\(x.kids.length=1/\x.kids=[fi x.kids]\/x.kids.length=0/\fi x.kids=noT):=by
 rcases h with ⟨h1,h2⟩|rfl
 ·obtain ⟨hx,_,b,hb,fb⟩:=h1.gl h2
  rw [hb]
  exact ⟨.inl fb,hx,CC h1 h2,.inl ⟨rfl,rfl⟩⟩
 ·exact ⟨.inr rfl,(fun b hb=>by cases hb),by simp [noT,Tm.sys],.inr ⟨rfl,rfl⟩⟩
section
variable {z1 z2:Int} {z3:BA} {z4:LC} {z5:LT} {z6:LB}
theorem aed (hk:F3 k) (J:Tm×Bool×Int->OS S) {r3 x4:Tm} {r6:Int×LB×Int×Int×BA×LC×LT×LB} {r8:Tm×Int} {a1:Tm} (e1:Tm.mk r6.2.2.1 r6.2.2.2.1 r6.2.2.2.2.1 r6.2.2.2.2.2.1 r6.2.2.2.2.2.2.1 r6.2.2.2.2.2.2.2=a1) (o1:OkT a1) (i1:In k a1) (hg:GB r8.1.sys) (hgl:r8.1.sys.length<=10000) {ws:LT} (hw: ∀w∈ws,In k w) (hwl:ws.length=r8.1.sys.length) {END:LB->LB->Int->OS S}
  (hend: ∀ (m:Nat) (c:Int) (pa sy:LB),qj k J r3 r6 x4 r8 (m+1) c z1 z2 z3 z4 z5 z6 pa (r8.1.sys.length:Int) ws sy=END pa sy c):
  ∀ (r p:LB) (rw pw:LT) (pa sy:LB) (m:Nat) (c:Int),r8.1.sys=p++r->ws=pw++rw->pw.length=p.length->r.length<m->pa.length=p.length->sy.length<=p.length+1->
   qj k J r3 r6 x4 r8 m c z1 z2 z3 z4 z5 z6 pa (p.length:Int) ws sy=END (pa++(r.zip rw).map ta) (sy++(cM (jj a1) c (r.zip rw)).1) (cM (jj a1) c (r.zip rw)).2:=by
 intro r
 induction r with
 |nil=>
  intro p rw' pw pa sy m c h h' hpw hm hpa hsy
  obtain ⟨m,rfl,hm'⟩:=aw hm
  rw [eZ] at h
  rw [show (p.length:Int)=(r8.1.sys.length:Int) by rw [h],hend,List.zip_nil_left,List.map_nil,eZ,cM,eZ]
 |cons x r ih=>
  intro p rw' pw pa sy m c h h' hpw hm hpa hsy
  obtain ⟨m,rfl,hm'⟩:=aw hm
  obtain ⟨e1',e2,e3,e4⟩:=bM h (by omega)
  have hlen:p.length<r8.1.sys.length:=by rw [h];simp
  cases rw' with
  |nil=>rw [eZ] at h';rw [h'] at hwl;omega
  |cons w rw'=>
  have gw:ao ws (p.length:Int)=some w:=by
   rw [h',<-hpw]
   exact ld (n:=pw.length) rfl (by simp)
  obtain ⟨q1,q2,q3,q4⟩:=hg x (by rw [h];simp)
  have g1:ao x.kids 1=some (k1 x):=ld (n:=1) rfl (by rw [q1];rfl)
  have iw:=hw w (by rw [h'];simp)
  simp only [qj,Af,e1',al,e2,aV,gw,ap hk.fu,aO,e1,g1,rG,d8,iF,eV,e3]
  rw [lE hk (fun _=>iw) (by omega) (by omega),lE hk (fun _=>i1) (by omega) (by omega),lE hk (fun _=>q3.isIn hk) (by omega) (by omega),cX (by simp;omega),cX (by simp;omega)]
  refine aq (ih (p++[x]) rw' (pw++[w]) _ _ m _ e4 (by rw [h',List.append_assoc];rfl) (by simp [hpw]) hm' (by simp [hpa]) (by simp;omega)) ?_
  rw [List.zip_cons_cons,jc,cM,List.append_assoc,List.append_assoc]
  rfl
end
theorem Ea {n:Nat}: ∀ {l:LB},(∀x∈l,∃t,x.kids=[t]/\OkT t/\ah t<=n/\av x.face/\x.face.length<1073741824)->a_ l/\aN l<=n+2:=by
 intro l
 induction l with
 |nil=>intro _;exact ⟨by rw [a_];trivial,by rw [aN];omega⟩
 |cons x l ih=>
  intro h
  obtain ⟨h1,h2⟩:=ih fun y hy=>h y (by simp [hy])
  obtain ⟨t,q1,q2,q3,q4,q5⟩:=h x (by simp)
  obtain ⟨f,ks⟩:=x
  have q1:ks=[t]:=q1
  subst q1
  refine ⟨by rw [a_,gM,aU,aU];exact ⟨⟨⟨q4,q5,by simp⟩,q2,trivial⟩,h1⟩, ?_⟩
  rw [aN,ji,az,az];omega
theorem L8 {a1:Tm} (o1:OkT a1) {q:Br Tm×Tm} (ow:OkT q.2) (oe:OkT (k1 q.1)) (hf:av q.1.face/\q.1.face.length<1073741824) (c:Int):
  ∃t,(jj a1 c q).1.kids=[t]/\OkT t/\ah t<=299/\av (jj a1 c q).1.face/\(jj a1 c q).1.face.length<1073741824:=by
 have fx:=p6 (c:=c) (a:=0) (b:=1) (by omega) (by omega) ow
 have fl:=p6 (c:=(mM c (bU 0 1 q.2)).2) (a:=0) (b:=1) (by omega) (by omega) o1
 have fe:=p6 (c:=(mM (mM c (bU 0 1 q.2)).2 (bU 0 1 a1)).2) (a:=0) (b:=1) (by omega) (by omega) oe
 have h10:=mi (kd:=10) (by omega) fx.sm (by omega)
 have h9:=mi (kd:=9) (by omega) fx.sm (by omega)
 have h9':=mi (kd:=9) (by omega) fe.sm (by omega)
 have h6:=D4 (kd:=6) (by omega) (d:=201) h9' h9 (by omega)
 have:=SC (uX (a:=1) (b:=0) (by omega) (by omega)) (d:=202) ⟨h10.1,by have:=h10.2;omega⟩ ⟨fl.sm.1,by have:=fl.sm.2;omega⟩ ⟨h6.1,by have:=h6.2;omega⟩ (by omega)
 exact ⟨_,rfl,this.1.ok,by have:=this.2;omega,hf.1,hf.2⟩
theorem pj (a b:Int) (c:BA) (d:LC) (e:LT) (f:LB):(Tm.mk a b c d e f).kind=a/\(Tm.mk a b c d e f).n=b/\(Tm.mk a b c d e f).name=c/\(Tm.mk a b c d e f).r=d/\(Tm.mk a b c d e f).kids=e/\(Tm.mk a b c d e f).sys=f:=⟨rfl,rfl,rfl,rfl,rfl,rfl⟩
theorem aiL (hk:F3 k) {t:Tm} (ht:In k t) (J:Tm×Bool×Int->OS S):BB k t J=J (xK t):=by
 have hfu:4294968296<=k:=hk
 simp only [BB,Jx,ap hk.fu,aO,jo ht.1 ht.2.1 ht.dep]
 unfold xK
 by_cases h0:ck t=0
 case neg=>rw [fZ h0,dr,al,if_pos h0];rfl
 rw [h0,show (!((0:Int)==0))=false from rfl,ae,if_neg (by simp)]
 have ft:Fm t:=⟨ht.1,h0⟩
 by_cases h14:t.kind=14
 case neg=>rw [beq_false_of_ne h14,dr,al,if_neg (fun h=>h14 h.1)];rfl
 rw [h14,show (!((14:Int)==14))=false from rfl,ae]
 obtain ⟨g,a,hkd⟩:=kJ (gh ft h14 (n:=2) rfl)
 obtain ⟨g0,g1⟩:=p9 hkd
 obtain ⟨d0,d1⟩:=lc hkd
 have fg:Fm g:=ft.kid (by rw [hkd];simp)
 have fa:Fm a:=ft.kid (by rw [hkd];simp)
 have hp:=ft.r14 h14
 rw [g0,aV,d0,d1]
 by_cases h16:g.kind=16
 case neg=>rw [beq_false_of_ne h16,dr,al,if_neg (fun h=>h16 h.2)];rfl
 rw [h16,show (!((16:Int)==16))=false from rfl,ae,pk t ht.1 _ ht.2.1,if_pos ⟨rfl,rfl⟩]
 simp only [g0,g1,aV]
 generalize hphi:t.r=phi at hp
 obtain ⟨x1,x2,x3,x4,x5,x6⟩:=a
 simp only [pj x1 x2 x3 x4 x5 x6]
 rw [aip hk fg h16 fa hp]
 unfold iH
 dsimp only
 obtain ⟨fB,sB,lB⟩:=AM hk fg h16 fa hp
 generalize kc g phi (Tm.mk x1 x2 x3 x4 x5 x6)=B at fB sB lB ⊢
 obtain ⟨st,⟨y1,y2,y3,y4,y5,y6⟩,c0⟩:=B
 dsimp only at fB sB lB ⊢
 simp only [pj y1 y2 y3 y4 y5 y6]
 rw [Sb hk (fun _=>fg.isIn hk)]
 have gG:GN (mM c0 (aP 0 [⟨0,0⟩] g)).1:=uc fg h16 nW (xX (by decide))
 generalize mM c0 (aP 0 [⟨0,0⟩] g)=G at gG ⊢
 obtain ⟨f1,hG,lG,hone⟩:=CD gG
 have i1:=fB.sm.1.isIn hk (by omega)
 have main: ∀ {z1 z2:Int} {z3:BA} {z4:LC} {z5:LT} {z6:LB},Tm.mk z1 z2 z3 z4 z5 z6=fi G.1.kids->
   (tM k G.1.sys G.2 phi x1 x2 x3 x4 x5 x6 st y1 y2 y3 y4 y5 y6 z1 z2 z3 z4 z5 z6 fun r10=>tL k r10.2 phi x1 x2 x3 x4 x5 x6 st y1 y2 y3 y4 y5 y6 z1 z2 z3 z4 z5 z6 fun r11=>qj k J t (c0,st,y1,y2,y3,y4,y5,y6) (Tm.mk x1 x2 x3 x4 x5 x6) G k r11.2 z1 z2 z3 z4 z5 z6 [] 0 r10.1 r11.1)=
    (fun q:Tm×Int=>J ((dM q.2 q.1).1,(dM q.2 q.1).2==0,(dM q.2 q.1).2)) (.mk 17 0 au [] [.mk 15 0 au [] [fi G.1.kids,Tm.mk y1 y2 y3 y4 y5 y6] ((dY phi (fun c=>mM c (bU 0 1 (Tm.mk y1 y2 y3 y4 y5 y6))) (cM (io phi (Tm.mk x1 x2 x3 x4 x5 x6) (Tm.mk y1 y2 y3 y4 y5 y6) (fi G.1.kids) st) G.2 G.1.sys).2).1++(cM (jj (Tm.mk y1 y2 y3 y4 y5 y6)) (dY phi (fun c=>mM c (bU 0 1 (Tm.mk y1 y2 y3 y4 y5 y6))) (cM (io phi (Tm.mk x1 x2 x3 x4 x5 x6) (Tm.mk y1 y2 y3 y4 y5 y6) (fi G.1.kids) st) G.2 G.1.sys).2).2 (G.1.sys.zip (cM (io phi (Tm.mk x1 x2 x3 x4 x5 x6) (Tm.mk y1 y2 y3 y4 y5 y6) (fi G.1.kids) st) G.2 G.1.sys).1)).1)] ((G.1.sys.zip (cM (io phi (Tm.mk x1 x2 x3 x4 x5 x6) (Tm.mk y1 y2 y3 y4 y5 y6) (fi G.1.kids) st) G.2 G.1.sys).1).map ta),(cM (jj (Tm.mk y1 y2 y3 y4 y5 y6)) (dY phi (fun c=>mM c (bU 0 1 (Tm.mk y1 y2 y3 y4 y5 y6))) (cM (io phi (Tm.mk x1 x2 x3 x4 x5 x6) (Tm.mk y1 y2 y3 y4 y5 y6) (fi G.1.kids) st) G.2 G.1.sys).2).2 (G.1.sys.zip (cM (io phi (Tm.mk x1 x2 x3 x4 x5 x6) (Tm.mk y1 y2 y3 y4 y5 y6) (fi G.1.kids) st) G.2 G.1.sys).1)).2):=by
  intro z1 z2 z3 z4 z5 z6 hz
  rw [<-hz] at f1
  rw [aji hk fa fB f1 hp sB lB hG lG,<-hz]
  have hws:=Kr (phi:=phi) (st:=st) (c:=G.2) hk fa fB f1 hp sB lB hG
  have hwl:(cM (io phi (Tm.mk x1 x2 x3 x4 x5 x6) (Tm.mk y1 y2 y3 y4 y5 y6) (Tm.mk z1 z2 z3 z4 z5 z6) st) G.2 G.1.sys).1.length=G.1.sys.length:=pX
  generalize cM (io phi (Tm.mk x1 x2 x3 x4 x5 x6) (Tm.mk y1 y2 y3 y4 y5 y6) (Tm.mk z1 z2 z3 z4 z5 z6) st) G.2 G.1.sys=ws at hws hwl ⊢
  rw [ajf hk i1]
  have fU: ∀c,FN (mM c (bU 0 1 (Tm.mk y1 y2 y3 y4 y5 y6))).1:=fun c=>p6 (by omega) (by omega) fB.sm.1.ok
  obtain ⟨w1,w2⟩:=zn (F:=fun c=>mM c (bU 0 1 (Tm.mk y1 y2 y3 y4 y5 y6))) hp (n:=20000) (fun c=>⟨(fU c).sm.1,by have:=(fU c).sm.2;omega⟩) ws.2
  generalize dY phi (fun c=>mM c (bU 0 1 (Tm.mk y1 y2 y3 y4 y5 y6))) ws.2=W at w1 w2 ⊢
  have hzip: ∀q∈G.1.sys.zip ws.1,q.1∈G.1.sys/\q.2∈ws.1:=fun q hq=>⟨(List.of_mem_zip hq).1,(List.of_mem_zip hq).2⟩
  have key:=aed (z1:=z1) (z2:=z2) (z3:=z3) (z4:=z4) (z5:=z5) (z6:=z6) hk J (r3:=t) (x4:=Tm.mk x1 x2 x3 x4 x5 x6) (r6:=(c0,st,y1,y2,y3,y4,y5,y6)) (r8:=G) (a1:=Tm.mk y1 y2 y3 y4 y5 y6) rfl fB.sm.1.ok i1 hG lG (ws:=ws.1) (fun w hw=>(hws w hw).1.isIn hk (by omega)) hwl
   (END:=fun pa sy c=>hY k (.mk 17 0 au [] [.mk 15 0 au [] [Tm.mk z1 z2 z3 z4 z5 z6,Tm.mk y1 y2 y3 y4 y5 y6] sy] pa) c fun r33=>J (r33.1,r33.2.1,r33.2.2.1)) (fun m c pa sy=>by
    have:=eP (l:=G.1.sys) (p:=G.1.sys) (by simp)
    simp only [qj,Af,this,ae,ap hk.fu,aO,ny])
   G.1.sys [] ws.1 [] [] W.1 k W.2 rfl rfl rfl (by omega) rfl (by simpa using w2)
  refine aq ?_ (key.trans ?_)
  ·rfl
  rw [fq]
  dsimp only
  generalize hZ:cM (jj (Tm.mk y1 y2 y3 y4 y5 y6)) W.2 (G.1.sys.zip ws.1)=Z
  have zq: ∀y∈Z.1,∃t,y.kids=[t]/\OkT t/\ah t<=299/\av y.face/\y.face.length<1073741824:=by
   rw [<-hZ]
   exact xA fun q hq c=>L8 fB.sm.1.ok (hws q.2 (hzip q hq).2).1.ok (hG q.1 (hzip q hq).1).2.2.1.ok (fj (hG q.1 (hzip q hq).1).2.2.2) c
  have zl:Z.1.length=(G.1.sys.zip ws.1).length:=by rw [<-hZ];exact pX
  have pq: ∀y∈(G.1.sys.zip ws.1).map ta,∃t,y.kids=[t]/\OkT t/\ah t<=301/\av y.face/\y.face.length<1073741824:=fun y hy=>by
   obtain ⟨q,hq,rfl⟩:=dI.1 hy
   obtain ⟨h1,h2⟩:=hws q.2 (hzip q hq).2
   have r:=fj (hG q.1 (hzip q hq).1).2.2.2
   refine ⟨_,rfl, ?_, ?_,r.1,r.2⟩
   ·unfold aF;rw [OkT,aU,aU,a_];exact ⟨⟨by unfold aR;omega,by unfold aR;omega,by decide,(fun c hc=>by cases hc),by simp,by simp,by simp⟩,⟨h1.ok,trivial⟩,trivial⟩
   ·unfold aF;rw [ah,az,az,aN];omega
  obtain ⟨o1,o2⟩:=Ea (l:=W.1++Z.1) (n:=299) fun y hy=>by
   rcases er.1 hy with hy|hy
   ·obtain ⟨t,q1,q2,q3,q4,q5⟩:=w1 y hy;exact ⟨t,q1,q2.ok,q3,q4,q5⟩
   ·exact zq y hy
  obtain ⟨o3,o4⟩:=Ea pq
  have hzl:(G.1.sys.zip ws.1).length<=10000:=by rw [List.length_zip];omega
  have b1:=f1.sm;have b2:=fB.sm
  refine aiT hk ?_ ?_ _
  ·rw [OkT,aU,aU,OkT,aU,aU,aU]
   exact ⟨⟨by unfold aR;omega,by unfold aR;omega,by decide,(fun c hc=>by cases hc),by simp,by simp,by rw [List.length_map];omega⟩,⟨⟨⟨by unfold aR;omega,by unfold aR;omega,by decide,(fun c hc=>by cases hc),by simp,by simp,by rw [List.length_append];omega⟩,⟨b1.1.ok,b2.1.ok,trivial⟩,o1⟩,trivial⟩,o3⟩
  ·rw [ah,az,az,ah,az,az,az];have:=b1.2;have:=b2.2;omega
 rcases hone with ⟨e1,e2⟩|⟨e1,e2⟩
 ·have gk:ao G.1.kids 0=some (fi G.1.kids):=by rw [e2];rfl
  rw [e1,show ((((1:Nat):Int))==1)=true from rfl,al,gk,aV]
  generalize hz:fi G.1.kids=z at main ⊢
  obtain ⟨z1,z2,z3,z4,z5,z6⟩:=z
  simp only [pj z1 z2 z3 z4 z5 z6]
  exact main rfl
 ·rw [e1,show ((((0:Nat):Int))==1)=false from rfl,ae]
  exact main e2.symm
theorem MY {t:Tm} (h:t.kids.length=3): ∃a b c,t.kids=[a,b,c]:=by
 match hk:t.kids,h with
 |[a,b,c],_=>exact ⟨a,b,c,rfl⟩
def nD (q:Tm×Int):Tm×Bool×Int:=((dM q.2 q.1).1,(dM q.2 q.1).2==0,(dM q.2 q.1).2)
def Ek (t:Tm):Tm×Bool×Int:=
 if ck t≠0 then (noT,false,ck t) else
 if t.kind≠14 then (noT,false,0) else
 let l:=t.kids.getD 0 noT
 let a:=t.kids.getD 1 noT
 let k0:=l.kids.getD 0 noT
 let k1:=l.kids.getD 1 noT
 if l.kind=3\/l.kind=19 then nD (a,0) else
 if l.kind=4 then nD (m8 t.r k0 k1 a) else
 if l.kind=7 then nD (m9 t.r k0 k1 a) else
 if l.kind=11 then nD (m7 t.r k0 k1 (l.kids.getD 2 noT) a) else
 if l.kind=23 then wI t else
 if l.kind=16 then xK t else (noT,false,0)
theorem ajb (hk4:F4 k) {t:Tm} (ht:In k t) (J:Tm×Bool×Int->OS S):tU k t J=J (Ek t):=by
 have hk:=hk4.f3
 have hfu:4294968296<=k:=hk
 simp only [tU,ap hk.fu,aO,jo ht.1 ht.2.1 ht.dep]
 unfold Ek
 by_cases h0:ck t=0
 case neg=>rw [fZ h0,dr,al,if_pos h0];rfl
 rw [h0,show (!((0:Int)==0))=false from rfl,ae,if_neg (by simp)]
 have ft:Fm t:=⟨ht.1,h0⟩
 by_cases h14:t.kind=14
 case neg=>rw [beq_false_of_ne h14,dr,al,if_pos h14];rfl
 rw [h14,show (!((14:Int)==14))=false from rfl,ae,if_neg (by simp)]
 obtain ⟨l,a,hkd⟩:=kJ (gh ft h14 (n:=2) rfl)
 obtain ⟨g0,g1⟩:=p9 hkd
 obtain ⟨d0,d1⟩:=lc hkd
 have fl:Fm l:=ft.kid (by rw [hkd];simp)
 have fa:Fm a:=ft.kid (by rw [hkd];simp)
 have hp:=ft.r14 h14
 rw [pk t ht.1 _ ht.2.1]
 simp only [g0,g1,aV,d0,d1]
 have dn:=fun {x:Tm} {c:Int} (hx:In k x) (g:Tm×Bool×Int->OS S)=>I0 hk (c:=c) hx (fun r=>g (r.1,r.2.1,r.2.2.1))
 generalize hphi:t.r=phi at hp
 obtain ⟨x1,x2,x3,x4,x5,x6⟩:=a
 simp only [pj x1 x2 x3 x4 x5 x6]
 by_cases h3:l.kind=3
 ·rw [h3,show ((3:Int)==3)=true from rfl,al,if_pos (.inl rfl),dn (fa.isIn hk)];rfl
 rw [beq_false_of_ne h3,ae]
 by_cases h19:l.kind=19
 ·rw [h19,show ((19:Int)==19)=true from rfl,al,if_pos (.inr rfl),dn (fa.isIn hk)];rfl
 rw [beq_false_of_ne h19,ae,if_neg (fun h=>h.elim h3 h19)]
 by_cases h4:l.kind=4
 ·obtain ⟨k0,k1',hb⟩:=kJ (gh fl h4 (n:=2) rfl)
  obtain ⟨e0,e1⟩:=lc hb
  rw [h4,show ((4:Int)==4)=true from rfl,al,if_pos rfl,e0,e1]
  obtain ⟨ks,c,q1,q2,q3⟩:=Sl (phi:=phi) hk4 hb (fl.kid (by rw [hb];simp)) (fl.kid (by rw [hb];simp)) fa hp (fun r7=>hY k (Tm.mk r7.1 r7.2.1 r7.2.2.1 [] r7.2.2.2.1 []) r7.2.2.2.2 fun r8=>J (r8.1,r8.2.1,r8.2.2.1))
  rw [q1,<-q2]
  exact dn q3 J
 rw [beq_false_of_ne h4,ae,if_neg h4]
 by_cases h7:l.kind=7
 ·obtain ⟨k0,k1',hb⟩:=kJ (gh fl h7 (n:=2) rfl)
  obtain ⟨e0,e1⟩:=lc hb
  rw [h7,show ((7:Int)==7)=true from rfl,al,if_pos rfl,e0,e1]
  obtain ⟨ks,c,q1,q2,q3⟩:=Sp (phi:=phi) hk4 hb (fl.kid (by rw [hb];simp)) (fl.kid (by rw [hb];simp)) fa hp (fun r7=>hY k (Tm.mk r7.1 r7.2.1 r7.2.2.1 [] r7.2.2.2.1 []) r7.2.2.2.2 fun r8=>J (r8.1,r8.2.1,r8.2.2.1))
  rw [q1,<-q2]
  exact dn q3 J
 rw [beq_false_of_ne h7,ae,if_neg h7]
 by_cases h11:l.kind=11
 ·obtain ⟨k0,kl,kr,hb⟩:=MY (gh fl h11 (n:=3) rfl)
  have e0:l.kids.getD 0 noT=k0:=by rw [hb];rfl
  have e1:l.kids.getD 1 noT=kl:=by rw [hb];rfl
  have e2:l.kids.getD 2 noT=kr:=by rw [hb];rfl
  rw [h11,show ((11:Int)==11)=true from rfl,al,if_pos rfl,e0,e1,e2]
  obtain ⟨ks,c,q1,q2,q3⟩:=Sk (phi:=phi) hk hb (fl.kid (by rw [hb];simp)) (fl.kid (by rw [hb];simp)) (fl.kid (by rw [hb];simp)) fa hp (fun r7=>hY k (Tm.mk r7.1 r7.2.1 r7.2.2.1 [] r7.2.2.2.1 []) r7.2.2.2.2 fun r8=>J (r8.1,r8.2.1,r8.2.2.1))
  rw [q1,<-q2]
  exact dn q3 J
 rw [beq_false_of_ne h11,ae,if_neg h11]
 by_cases h23:l.kind=23
 ·rw [h23,show ((23:Int)==23)=true from rfl,al,if_pos rfl,aiN hk ht]
 rw [beq_false_of_ne h23,ae,if_neg h23]
 by_cases h16:l.kind=16
 ·rw [h16,show ((16:Int)==16)=true from rfl,al,if_pos rfl,aiL hk ht]
 rw [beq_false_of_ne h16,ae,if_neg h16]
 rfl

structure ElimP (k:Nat) (t:Tm) (f b line:Tm) (l:LB) (y:Tm):Prop where
 so:eo [(mJ t).kids.getD 0 noT,(mJ t).kids.getD 1 noT,dR (mJ t).sys]=0
 fill:abJ ((mJ t).kids.getD 0 noT) ((mJ t).kids.getD 1 noT) (mJ t).sys= .ok f
 up:ep 0 1 (t.kids.getD 0 noT)= .ok b
 plug:ls 0 b f= .ok line
 brs:LU t.kind b (C2 t) (mJ t).sys= .ok l
 so2:eo [line,Cm t.kind (t.kids.getD 0 noT) (C2 t) ((mJ t).kids.getD 1 noT),dR l]=0
 comp:iD line (Cm t.kind (t.kids.getD 0 noT) (C2 t) ((mJ t).kids.getD 1 noT)) l= .ok y
 fy:ck y=0
 ff:Fm f
 fb:Fm b
 fl:Fm line
 fa:Fm (Cm t.kind (t.kids.getD 0 noT) (C2 t) ((mJ t).kids.getD 1 noT))
 fw:Fm (dR l)
 bs:l.map (·.face)=(mJ t).sys.map (·.face)
 yin:In k y
end Go.Proofs.YtgajalidbabccaaGreatDoor
namespace Go.Proofs.YtgajalidbabccaaGreatDoor
open Go PI
set_option maxRecDepth 20000
section
variable {n kd:Int} {u:Tm}
abbrev zu (n:Int) (u x:Tm):Prop:= ∀ {v d:Int} {o:Tm},fS n u v d x= .ok o->aZ o<=aZ x+aZ u
theorem YF: ∀ {l l':LT} {i:Nat} {v d:Int},(∀x∈l,zu n u x)->iN n u v d kd i l= .ok l'->dA kd i l'<=dA kd i l+aZ u:=by
 intro l
 induction l with
 |nil=>intro l' i v d _ h;rw [iN] at h;injection h with h;subst h;rw [dA];have:=mt u;omega
 |cons t l ih=>
  intro l' i v d h hl
  rw [iN] at hl
  obtain ⟨t',e1,hl⟩:=ar hl
  obtain ⟨m,e2,hl⟩:=ar hl
  injection hl with hl;subst hl
  rw [dA,dA]
  have:=h t (by simp) e1
  have:=ih (fun x hx=>h x (by simp [hx])) e2
  omega
theorem YG: ∀ {l l':LT} {v d:Int},(∀x∈l,zu n u x)->i_ n u v d kd l= .ok l'->ei l'<=ei l+aZ u:=by
 intro l
 induction l with
 |nil=>intro l' v d _ h;rw [i_] at h;injection h with h;subst h;rw [ei];have:=mt u;omega
 |cons t l ih=>
  intro l' v d h hl
  rw [i_] at hl
  obtain ⟨t',e1,hl⟩:=ar hl
  obtain ⟨m,e2,hl⟩:=ar hl
  injection hl with hl;subst hl
  rw [ei,ei]
  have:=h t (by simp) e1
  have:=ih (fun x hx=>h x (by simp [hx])) e2
  omega
theorem YH: ∀ {l l':LB} {v d:Int},(∀b∈l,∀x∈b.kids,zu n u x)->gF n u v d kd l= .ok l'->dO l'<=dO l+aZ u:=by
 intro l
 induction l with
 |nil=>intro l' v d _ h;rw [gF] at h;injection h with h;subst h;rw [dO];have:=mt u;omega
 |cons b l ih=>
  intro l' v d h hl
  rw [gF] at hl
  obtain ⟨b',e1,hl⟩:=ar hl
  obtain ⟨m,e2,hl⟩:=ar hl
  injection hl with hl;subst hl
  obtain ⟨f,ks⟩:=b
  rw [yE] at e1
  obtain ⟨ks',e3,e1⟩:=ar e1
  injection e1 with e1;subst e1
  rw [dO,dO,lP,lP]
  have:=YG (l:=ks) (h ⟨f,ks⟩ (by simp)) e3
  have:=ih (fun b hb=>h b (by simp [hb])) e2
  have e:(Br.mk f ks).kids=ks:=rfl
  rw [e] at*
  omega
theorem Yk (t:Tm):zu n u t:=by
 induction t using gi with
 |h kd m nm r ks sys ih1 ih2=>
  intro v d o h
  rw [fS] at h
  split at h
  ·rw [tu h]
   have:=mt (.mk kd m nm r ks sys)
   omega
  ·obtain ⟨ks',e2,h⟩:=ar h
   obtain ⟨sys',e3,h⟩:=ar h
   injection h with h;subst h
   rw [aZ,aZ]
   have:=YF ih1 e2
   have:=YH ih2 e3
   omega
theorem Yl {t u o:Tm} (h:ls 0 t u= .ok o):aZ o<=aZ t+aZ u:=by
 unfold ls at h
 split at h
 ·cases h
 obtain ⟨o',h1,h⟩:=ar h
 split at h
 ·cases h
 injection h with h;subst h
 exact Yk t h1
end
section
variable {f g:Int->LC->Except Int (LC)} {kd:Int}
theorem YM: ∀ {l l':LT} {i:Nat} {n:Int},(∀x∈l,∀ {n:Int} {t':Tm},b7 f g n x= .ok t'->aZ t'<=aZ x)->dq f g n kd i l= .ok l'->dA kd i l'<=dA kd i l:=by
 intro l
 induction l with
 |nil=>intro l' i n _ h;rw [dq] at h;injection h with h;subst h;exact eD _
 |cons t l ih=>
  intro l' i n h hl
  rw [dq] at hl
  obtain ⟨t',e1,hl⟩:=ar hl
  obtain ⟨m,e2,hl⟩:=ar hl
  injection hl with hl;subst hl
  rw [dA,dA]
  have:=h t (by simp) e1
  have:=ih (fun x hx=>h x (by simp [hx])) e2
  omega
theorem YN: ∀ {l l':LT} {n:Int},(∀x∈l,∀ {n:Int} {t':Tm},b7 f g n x= .ok t'->aZ t'<=aZ x)->dB f g n kd l= .ok l'->ei l'<=ei l:=by
 intro l
 induction l with
 |nil=>intro l' n _ h;rw [dB] at h;injection h with h;subst h;exact eD _
 |cons t l ih=>
  intro l' n h hl
  rw [dB] at hl
  obtain ⟨t',e1,hl⟩:=ar hl
  obtain ⟨m,e2,hl⟩:=ar hl
  injection hl with hl;subst hl
  rw [ei,ei]
  have:=h t (by simp) e1
  have:=ih (fun x hx=>h x (by simp [hx])) e2
  omega
theorem YO: ∀ {l l':LB} {n:Int},(∀b∈l,∀x∈b.kids,∀ {n:Int} {t':Tm},b7 f g n x= .ok t'->aZ t'<=aZ x)->cr f g n kd l= .ok l'->dO l'<=dO l:=by
 intro l
 induction l with
 |nil=>intro l' n _ h;rw [cr] at h;injection h with h;subst h;exact eD _
 |cons b l ih=>
  intro l' n h hl
  rw [cr] at hl
  obtain ⟨o,e1,hl⟩:=ar hl
  obtain ⟨m,e2,hl⟩:=ar hl
  injection hl with hl;subst hl
  obtain ⟨r,ks⟩:=b
  rw [jP] at e1
  obtain ⟨r',e3,e1⟩:=ar e1
  have hi:=ih (fun b hb=>h b (by simp [hb])) e2
  split at e1
  ·injection e1 with e1;subst e1
   rw [dO]
   show dO m<=_
   omega
  ·obtain ⟨ks',e4,e1⟩:=ar e1
   injection e1 with e1;subst e1
   have:=YN (kd:=kd) (l:=ks) (h ⟨r,ks⟩ (by simp)) e4
   show dO (⟨r',ks'⟩::m)<=_
   rw [dO,dO,lP,lP]
   omega
theorem Yo (t:Tm): ∀ {n:Int} {t':Tm},b7 f g n t= .ok t'->aZ t'<=aZ t:=by
 induction t using gi with
 |h kd m nm r ks sys ih1 ih2=>
  intro n t' h
  rw [b7] at h
  obtain ⟨r1,e1,h⟩:=ar h
  obtain ⟨ks1,e2,h⟩:=ar h
  obtain ⟨sys1,e3,h⟩:=ar h
  injection h with h;subst h
  rw [aZ,aZ]
  have:=YM ih1 e2
  have:=YO ih2 e3
  omega
end
theorem Fs {i:Int} {r:LC} {t t':Tm} (h:dQ i r t= .ok t'):aZ t'<=aZ t:=by
 unfold dQ at h
 obtain ⟨s,e1,h⟩:=ar h
 exact Yo t h
mutual
def eO:Tm->Int
 | .mk kd _ _ _ ks sys=>f7 kd 0 ks+gR sys
def f7 (kd:Int) (i:Nat):LT->Int
 |[]=>0
 |t::l=>bL kd i+eO t+f7 kd (i+1) l
def gR:LB->Int
 |[]=>0
 |b::l=>AO b+gR l
def AO:Br Tm->Int
 | .mk _ ks=>jx ks
def jx:LT->Int
 |[]=>0
 |t::l=>1+eO t+jx l
end
theorem AP (t:Tm):aZ t<=eO t/\eO t+1<=(aA t:Int)*2:=by
 induction t using gi with
 |h kd n nm r ks sys ih1 ih2=>
  have hk: ∀ {l:LT} {i:Nat},(∀x∈l,aZ x<=eO x/\eO x+1<=(aA x:Int)*2)->0<=f7 kd i l/\dA kd i l<=f7 kd i l/\f7 kd i l<=(ax l:Int)*2:=by
   intro l
   induction l with
   |nil=>intro i _;rw [f7,dA,ax];omega
   |cons t l ih=>
    intro i h
    rw [f7,dA,ax]
    have h1:=h t (by simp)
    have h2:=ih (i:=i+1) fun x hx=>h x (by simp [hx])
    have h3:=iz kd i
    have h4:=mt t
    omega
  have hm: ∀ {l:LT},(∀x∈l,aZ x<=eO x/\eO x+1<=(aA x:Int)*2)->0<=jx l/\ei l<=jx l/\jx l<=(ax l:Int)*2:=by
   intro l
   induction l with
   |nil=>intro _;rw [jx,ei,ax];omega
   |cons t l ih=>
    intro h
    rw [jx,ei,ax]
    have h1:=h t (by simp)
    have h2:=ih fun x hx=>h x (by simp [hx])
    have h4:=mt t
    omega
  have hs: ∀ {l:LB},(∀b∈l,∀x∈b.kids,aZ x<=eO x/\eO x+1<=(aA x:Int)*2)->0<=gR l/\dO l<=gR l/\gR l<=(aM l:Int)*2:=by
   intro l
   induction l with
   |nil=>intro _;rw [gR,dO,aM];omega
   |cons b l ih=>
    intro h
    obtain ⟨f,ks⟩:=b
    have h1:=hm (h ⟨f,ks⟩ (by simp))
    have h2:=ih fun b hb=>h b (by simp [hb])
    rw [gR,dO,aM,AO,lP,jp]
    have e:(Br.mk f ks).kids=ks:=rfl
    rw [e] at h1
    omega
  have h1:=hk (i:=0) ih1
  have h2:=hs ih2
  rw [aZ,eO,aA]
  omega
theorem ry (t:Tm):0<=eO t:=by have:=AP t;have:=mt t;omega
theorem Fy (kd:Int): ∀ (l:LT) (i:Nat),0<=f7 kd i l:=by
 intro l
 induction l with
 |nil=>intro i;rw [f7];omega
 |cons t l ih=>intro i;rw [f7];have:=ih (i+1);have:=ry t;have:=iz kd i;omega
theorem Fz: ∀ (l:LT),0<=jx l:=by
 intro l
 induction l with
 |nil=>rw [jx];omega
 |cons t l ih=>rw [jx];have:=ry t;omega
theorem FA: ∀ (l:LB),0<=gR l:=by
 intro l
 induction l with
 |nil=>rw [gR];omega
 |cons b l ih=>obtain ⟨f,ks⟩:=b;rw [gR,AO];have:=Fz ks;omega
theorem YC {kd:Int} {x y:Tm}: ∀ {l:LT} {i:Nat},(∃p q:LT,l=p++q/\x∈p/\y∈q)->eO x+eO y<=f7 kd i l:=by
 have pb: ∀ {l:LT} {i:Nat} {z:Tm},z∈l->eO z<=f7 kd i l:=by
  intro l
  induction l with
  |nil=>intro i z h;cases h
  |cons t l ih=>
   intro i z h
   rw [f7]
   have:=iz kd i;have:=ry t;have:=Fy kd l (i+1)
   rcases eb.1 h with rfl|h
   ·omega
   ·have:=ih (i:=i+1) h;omega
 intro l
 induction l with
 |nil=>rintro i ⟨p,q,h,hx,_⟩;rw [List.nil_eq_append_iff] at h;rw [h.1] at hx;cases hx
 |cons t l ih=>
  rintro i ⟨p,q,h,hx,hy⟩
  rw [f7]
  have:=iz kd i;have:=ry t;have:=Fy kd l (i+1)
  cases p with
  |nil=>cases hx
  |cons u p=>
   rw [List.cons_append] at h
   injection h with h1 h2
   subst h1
   rcases eb.1 hx with rfl|hx
   ·have:=pb (i:=i+1) (show y∈l by rw [h2];exact List.mem_append_right _ hy);omega
   ·have:=ih (i:=i+1) ⟨p,q,h2,hx,hy⟩;omega
variable {S:Type} {k:Nat}
theorem DX {V D:Int} {t:Tm} (h:d5 V D t):bO true V D t.kind 0 t.kids=true/\aY true V D t.kind t.sys=true/\dL V D t=true:=by
 obtain ⟨kd,n,nm,r,ks,sys⟩:=t
 unfold d5 at h
 rw [aE,ak,ak,ak] at h
 exact ⟨h.2.2.1,h.2.2.2,h.2.1⟩
theorem ajl {V D:Int} {x:Tm} (h:d5 V D x) (hk:x.kind=15):x.sys.all (bR 15 D)=true/\aY true V D 15 x.sys=true/\ ∀ {u a:Tm},x.kids=[u,a]->d5 V D u/\d5 V D a:=by
 obtain ⟨h1,h2,h3⟩:=DX h
 rw [hk] at h1 h2
 refine ⟨?_,h2,fun hx=> ?_⟩
 ·obtain ⟨kd,n,nm,r,ks,sys⟩:=x
  have hk:kd=15:=hk
  subst hk
  have:(_&&(sys.all (bR 15 D)&&_))=true:=h3
  simp only [ak] at this
  exact this.2.1
 ·rw [hx,zE] at h1
  have e1:b8 15 ((0:Nat):Int)=0:=rfl
  have e2:bL 15 ((0:Nat):Int)=0:=rfl
  have e3:b8 15 ((0+1:Nat):Int)=0:=rfl
  have e4:bL 15 ((0+1:Nat):Int)=0:=rfl
  rw [e1,e2,e3,e4,gH,dH] at h1
  exact h1
theorem ajm {V D:Int} {r:LC} {a:Tm} (hr:dF r=true) (hlow:a7 r D=true) (hD:D<=24) (ha:d5 V D a):d5 V D (.mk 26 0 au r [a] []):=by
 unfold d5
 rw [aE,aY]
 simp only [Bool.true_and,ak,j9,decide_eq_false_iff_not,Bool.and_true]
 refine ⟨by omega, ?_, ?_⟩
 ·show (true&&(dF r&&a7 r D))=true
  rw [hr,hlow];rfl
 ·rw [zD]
  show aE true (cq V 0) (D+0) a=true
  rw [gH,dH];exact ha
theorem Ss {V D:Int} {t:Tm} (h:d5 V D t) (hk:t.kind=14) {l a:Tm} (hkd:t.kids=[l,a]):bV t.r=true/\a7 t.r D=true/\d5 V (D+1) l/\d5 V D a:=by
 obtain ⟨h1,h2,h3⟩:=DX h
 rw [hk,hkd,zE] at h1
 have e1:b8 14 ((0:Nat):Int)=0:=rfl
 have e2:bL 14 ((0:Nat):Int)=1:=rfl
 have e3:b8 14 ((0+1:Nat):Int)=0:=rfl
 have e4:bL 14 ((0+1:Nat):Int)=0:=rfl
 rw [e1,e2,e3,e4,gH,dH] at h1
 obtain ⟨kd,n,nm,r,ks,sys⟩:=t
 have hk:kd=14:=hk
 subst hk
 have:(_&&(bV r&&a7 r D))=true:=h3
 simp only [ak] at this
 exact ⟨this.2.1,this.2.2,h1⟩
theorem YZ (hk:F3 k) {t y:Tm} {V D:Int} (ft:Fm t) (h14:t.kind=14) (h23:(t.kids.getD 0 noT).kind=23) (hx:(t.kids.getD 1 noT).kind=24\/(t.kids.getD 1 noT).kind=25\/(t.kids.getD 1 noT).kind=26\/(t.kids.getD 1 noT).kind=15) (hV:0<=V) (hD:0<=D/\D<=8) (hb:eO t<=4) (hs:d5 V D t) (h:mu t.r (t.kids.getD 0 noT) (t.kids.getD 1 noT)= .ok y):
  d5 V D y/\y.kind=(t.kids.getD 1 noT).kind/\((t.kids.getD 1 noT).kind=15->y.sys.map (·.face)=(t.kids.getD 1 noT).sys.map (·.face)):=by
 obtain ⟨line,x,hkd⟩:=kJ (gh ft h14 (n:=2) rfl)
 obtain ⟨d0,d1⟩:=lc hkd
 rw [d0,d1] at h
 rw [d1] at hx ⊢
 rw [d0] at h23
 have fl:Fm line:=ft.kid (by rw [hkd];simp)
 have fx:Fm x:=ft.kid (by rw [hkd];simp)
 have hr:=ft.r14 h14
 obtain ⟨r1,r2,sl,sx⟩:=Ss hs h14 hkd
 have hbl:aZ line<=4:=by
  have h1:=YC (kd:=t.kind) (i:=0) (x:=line) (y:=x) (l:=t.kids) ⟨[line],[x],by rw [hkd];rfl,by simp,by simp⟩
  have h2:=ry x
  have h3:=AP line
  have h4:=FA t.sys
  have h5:eO t=f7 t.kind 0 t.kids+gR t.sys:=by cases t;rw [eO];rfl
  omega
 unfold mu at h
 split at h
 ·injection h with h;subst h
  exact ⟨sx,rfl,fun h=>by omega⟩
 split at h
 ·rename_i h26
  injection h with h;subst h
  obtain ⟨w,hw⟩:=sZ (gh fx h26 (n:=1) rfl)
  obtain ⟨z,hz⟩:=sZ (gh fl h23 (n:=1) rfl)
  rw [hw,hz,show [z].getD 0 noT=z from rfl,show [w].getD 0 noT=w from rfl]
  obtain ⟨k1,_,k3⟩:=DX sx
  obtain ⟨q1,_,_⟩:=DX sl
  rw [hw,h26,zD] at k1
  rw [hz,h23,zD] at q1
  have e1:b8 26 ((0:Nat):Int)=0:=rfl
  have e2:bL 26 ((0:Nat):Int)=0:=rfl
  have e3:b8 23 ((0:Nat):Int)=0:=rfl
  have e4:bL 23 ((0:Nat):Int)=0:=rfl
  rw [e1,e2,gH,dH] at k1
  rw [e3,e4,gH,dH] at q1
  have k4:dF x.r=true/\a7 x.r D=true:=by
   obtain ⟨kd,n,nm,r,ks,sys⟩:=x
   have h26:kd=26:=h26
   subst h26
   have:(_&&(dF r&&a7 r D))=true:=k3
   simp only [ak] at this
   exact this.2
  exact ⟨ajm k4.1 k4.2 (by omega) (I3 r1 r2 (by omega) q1 k1),h26.symm,fun h=>by omega⟩
 have h15:x.kind=15:=by omega
 obtain ⟨u,a,hxk⟩:=kJ (gh fx h15 (n:=2) rfl)
 obtain ⟨dx0,dx1⟩:=lc hxk
 obtain ⟨sy,syl⟩:=fx.sy h15
 obtain ⟨x1,x2,x3⟩:=ajl sx h15
 obtain ⟨su,sa⟩:=x3 hxk
 rw [dx1] at h
 obtain ⟨e,h1,h⟩:=ar h
 obtain ⟨l,h2,h⟩:=ar h
 injection h with h;subst h
 have key: ∀ {r l:LB},(∀b∈r,b.kids=[bN b])->r.all (bR 15 D)=true->aY true V D 15 r=true->kf t.r line r= .ok l->l.all (bR 15 D)=true/\aY true V D 15 l=true/\l.map (·.face)=r.map (·.face):=by
  intro r
  induction r with
  |nil=>intro l _ _ _ h;rw [kf] at h;injection h with h;subst h;exact ⟨rfl,by rw [aY],rfl⟩
  |cons z r ih=>
   intro l hk h1 h2 h
   rw [kf] at h
   obtain ⟨phi,q0,h⟩:=ar h
   obtain ⟨ln,q1,h⟩:=ar h
   obtain ⟨m,q2,h⟩:=ar h
   injection h with h;subst h
   obtain ⟨p0,rfl⟩:=j7 q0
   rw [iO,ak] at h1 ⊢
   obtain ⟨hkid,h2r⟩:=adE (hk z (by simp)) h2
   obtain ⟨i1,i2,i3⟩:=ih (fun b hb=>hk b (by simp [hb])) h1.2 h2r q2
   refine ⟨⟨?_,i1⟩, ?_,by rw [jc,jc,i3]⟩
   ·have:=h1.1
    unfold bR at this ⊢
    rw [ak] at this ⊢
    exact ⟨rfl,this.2⟩
   ·rw [aY,ak,iQ,cQ,cQ,Bool.and_true]
    refine ⟨?_,i2⟩
    have s2:=Sv (eD 0) (show (0:Int)<=1 by omega) line (v:=0) (d:=1) (V:=V) (D:=D+1) (by omega) hV fl.ok fl.rows sl (fun _=>by omega) q1
    rw [dH] at s2
    have hlow:a7 (cm t.r 0 1).1 (D+1)=true:=by
     rw [jk (lj p0)]
     exact CX (n:=0) hr.1 p0 (ma ((jk hr.1).1 r2) fun j hj=>by
      have:il 0 1 j=j+1:=by unfold il;rw [if_neg (by omega)]
      rw [this];omega)
    have hright:bV (cm t.r 0 1).1=true:=by
     exact vm (d:=0) (db:=1) (f:=t.r) (by unfold eI;rw [if_neg (by omega),qN p0]) hr.1.2 r1
    have:=I3 (V:=V) (D:=D+1) hright hlow (by omega) s2 hkid
    exact this
 obtain ⟨k1,k2,k3⟩:=key (fun b hb=>(sy b hb).1) x1 x2 h2
 exact ⟨ajk (by omega) (ajr fl hD.1 sl h1) (I3 r1 r2 (by omega) sl sa) k1 k2,h15.symm,fun _=>k3⟩
theorem KS {kd D:Int} {f:LC} {ks:LT} (h:(ks.length:Int)=fQ kd) (h1:bV f=true) (h2:a7 f D=true):bR kd D ⟨f,ks⟩=true:=by
 show (decide ((ks.length:Int)=fQ kd)&&(bV f&&a7 f D))=true
 grind
theorem Yc {kd:Int}: ∀ {l:LT} {i:Nat} {x:Tm},x∈l->aZ x<=dA kd i l:=by
 intro l
 induction l with
 |nil=>simp
 |cons t l ih=>
  intro i x h
  rw [dA]
  have:=(iz kd i).1
  rcases eb.1 h with rfl|h
  ·omega
  ·have:=ih (i:=i+1) h;omega
theorem ni {t x:Tm} (h:x∈t.kids):aZ x<=aZ t:=by
 obtain ⟨kd,n,nm,r,ks,sys⟩:=t
 have:=Yc (kd:=kd) (i:=0) h
 grind [aZ,Tm.kids]
theorem Yn (t:Tm):dO t.sys<=aZ t:=by
 obtain ⟨kd,n,nm,r,ks,sys⟩:=t
 grind [aZ,Tm.sys]
theorem Nc {D:Int} (hD:2<=D):a7 [⟨2,0⟩] D=true:=(jk (jN ⟨⟨by decide,by decide⟩,by decide,by decide⟩)).2 (lits_one.2 fun j hj=>by
 rcases hj with hj|hj
 ·have:=(wG j).2.1.1 hj;omega
 grind [Kv])
section
variable {V D:Int} {a y k0:Tm} {sys:LB}
end
section
variable {V D:Int} {a y:Tm} {sys:LB}
end
theorem gall1 {bd:Bool} {V D kd:Int} {i:Nat} {t:Tm}:bO bd V D kd i [t]=true↔aE bd (cq V (b8 kd i)) (D+bL kd i) t=true:=by
 grind [bO]
theorem gall2 {bd:Bool} {V D kd:Int} {i:Nat} {t u:Tm}:bO bd V D kd i [t,u]=true↔aE bd (cq V (b8 kd i)) (D+bL kd i) t=true/\aE bd (cq V (b8 kd (i+1:Nat))) (D+bL kd (i+1:Nat)) u=true:=by
 grind [bO]
theorem gall3 {bd:Bool} {V D kd:Int} {i:Nat} {t u w:Tm}:bO bd V D kd i [t,u,w]=true↔aE bd (cq V (b8 kd i)) (D+bL kd i) t=true/\aE bd (cq V (b8 kd (i+1:Nat))) (D+bL kd (i+1:Nat)) u=true/\aE bd (cq V (b8 kd (i+1+1:Nat))) (D+bL kd (i+1+1:Nat)) w=true:=by
 grind [bO]
theorem vE {V D kd n:Int} {nm:BA} {r:LC} {ks:LT} {sys:LB} (ho:dL V D (.mk kd n nm r ks sys)=true) (hk:bO false V D kd 0 ks=true) (hs:aY false V D kd sys=true):bW V D (.mk kd n nm r ks sys):=by
 grind [aE]
theorem tn {V D kd:Int} {l:LT} (h1:kd≠1/\kd≠2) (hk:j4 kd=l.length) (ha:bO false V D kd 0 l=true):bW V D (aF kd l):=by
 unfold aF
 refine vE ?_ ha (by rw [aY])
 unfold dL
 simp only [ak,decide_eq_true_eq]
 refine ⟨⟨hk,by simp,by simp,fun _=>rfl⟩, ?_⟩
 rw [if_neg h1.1,if_neg h1.2]
 have hl:a7 [] D=true:=M9 D [] rfl
 split
 ·rfl
 ·split
  all_goals rfl
theorem TE {V D n:Int} (hn:0<=n) (hV:n<V):bW V D (vN n):=by
 unfold vN
 refine vE ?_ (by rw [bO]) (by rw [aY])
 unfold dL
 simp only [ak,decide_eq_true_eq]
 exact ⟨⟨rfl,by simp,by simp,fun _=>rfl⟩,by grind⟩
theorem Eu {bd:Bool} {V D:Int} {t:Tm} (h:aE bd V D t=true):bO bd V D t.kind 0 t.kids=true/\aY bd V D t.kind t.sys=true/\dL V D t=true:=by
 obtain ⟨kd,n,nm,r,ks,sys⟩:=t
 rw [aE,ak,ak,ak] at h
 exact ⟨h.2.2.1,h.2.2.2,h.2.1⟩
theorem zo {V D:Int} {r:LC} {l a:Tm} (hr:bV r=true) (hlow:a7 r D=true) (hl:bW V (D+1) l) (ha:bW V D a):bW V D (dE r l a):=by
 refine vE ?_ ?_ (by rw [aY])
 ·show (true&&(bV r&&a7 r D))=true
  grind
 ·rw [gall2]
  show aE false (cq V 0) (D+1) l=true/\aE false (cq V 0) (D+0) a=true
  grind [gH]
theorem Km {V D:Int} {t:Tm} (h:bW V D t) (hk:t.kind=14) {l a:Tm} (hkd:t.kids=[l,a]):bV t.r=true/\a7 t.r D=true/\bW V (D+1) l/\bW V D a:=by
 obtain ⟨h1,_,h3⟩:=Eu h
 rw [hk,hkd,gall2] at h1
 have e1:b8 14 ((0:Nat):Int)=0:=rfl
 have e2:bL 14 ((0:Nat):Int)=1:=rfl
 have e3:b8 14 ((0+1:Nat):Int)=0:=rfl
 have e4:bL 14 ((0+1:Nat):Int)=0:=rfl
 rw [e1,e2,e3,e4,gH,dH] at h1
 obtain ⟨kd,n,nm,r,ks,sys⟩:=t
 have hk:kd=14:=hk
 subst hk
 have:(_&&(bV r&&a7 r D))=true:=h3
 simp only [ak] at this
 exact ⟨this.2.1,this.2.2,h1.1,h1.2⟩
theorem Tu {V D:Int} {l a:Tm} {sys:LB} (hl:bW V D l) (ha:bW V D a) (hb:sys.all (bR 15 D)=true) (hs:aY false V D 15 sys=true):bW V D (.mk 15 0 au [] [l,a] sys):=by
 refine vE ?_ ?_ hs
 ·show (true&&(sys.all (bR 15 D)&&true))=true
  grind
 ·rw [gall2]
  show aE false (cq V 0) (D+0) l=true/\aE false (cq V 0) (D+0) a=true
  grind [gH]
theorem TD {V D:Int}:bW V D ik:=tn (kd:=3) (l:=[]) (by decide) rfl (by rw [bO])
theorem akV {kd V D:Int} (h:kd=9\/kd=10) {a:Tm} (ha:bW V D a):bW V D (aF kd [a]):=by
 have e1:b8 kd ((0:Nat):Int)=0:=by grind [b8]
 have e2:bL kd ((0:Nat):Int)=0:=by grind [bL]
 refine tn (by omega) (by rcases h with rfl|rfl<;>rfl) (gall1.2 ?_)
 grind [gH]
theorem Tx {kd V D:Int} (h:kd=6\/kd=8) {a b:Tm} (ha:bW V D a) (hb:bW V D b):bW V D (aF kd [a,b]):=by
 have e1:b8 kd ((0:Nat):Int)=0:=by grind [b8]
 have e2:bL kd ((0:Nat):Int)=0:=by grind [bL]
 have e3:b8 kd ((0+1:Nat):Int)=0:=by grind [b8]
 have e4:bL kd ((0+1:Nat):Int)=0:=by rfl
 refine tn (by omega) (by rcases h with rfl|rfl<;>rfl) (gall2.2 ⟨?_, ?_⟩)
 all_goals grind [gH]
theorem ak0 {kd V D:Int} (h:kd=16\/kd=17\/kd=18) {a:Tm} {sys:LB} (ha:bW V D a) (hb:sys.all (bR kd D)=true) (hs:aY false V D kd sys=true):bW V D (.mk kd 0 au [] [a] sys):=by
 have e1:b8 kd ((0:Nat):Int)=0:=by grind [b8]
 have e2:bL kd ((0:Nat):Int)=0:=by grind [bL]
 refine vE ?_ (gall1.2 (by grind [gH])) hs
 rcases h with rfl|rfl|rfl
 ·show (true&&(sys.all (bR 16 D)&&true))=true
  grind
 ·show (true&&(sys.all (bR 17 D)&&true))=true
  grind
 ·show (true&&(sys.all (bR 18 D)&&true))=true
  grind
theorem akW {V D:Int} {r:LC} {u lo hi:Tm} (hr:dF r=true) (hl:a7 r D=true) (h1:bW V D u) (h2:bW V D lo) (h3:bW V D hi):bW V D (pc r u lo hi):=by
 refine vE ?_ ?_ (by rw [aY])
 ·show (true&&(dF r&&a7 r D))=true
  grind
 grind [b8,bL,gall3,gH]
theorem akP {V D:Int} (hV:0<=V) {x:Tm} (h:bW (V+1) D x):bW V D (aF 5 [x]):=by
 refine tn (kd:=5) (by decide) rfl (gall1.2 ?_)
 show bW (cq V 1) (D+0) _
 grind [S8]
theorem akO {V D:Int} {x:Tm} (h:bW V (D+1) x):bW V D (aF 12 [x]):=by
 refine tn (kd:=12) (by decide) rfl (gall1.2 ?_)
 show bW (cq V 0) (D+1) _
 rw [gH];exact h
theorem Kq {V D kd:Int}: ∀ {l:LB},(∀y∈l,bR kd D y=true/\cQ false V D kd y.kids=true)->l.all (bR kd D)=true/\aY false V D kd l=true:=by
 intro l
 induction l with
 |nil=>grind [aY]
 |cons x l ih=>
  intro h
  obtain ⟨q1,q2⟩:=h x (by simp)
  obtain ⟨i1,i2⟩:=ih fun y hy=>h y (by simp [hy])
  obtain ⟨f,ks⟩:=x
  grind [aY,iQ]
theorem Tz {V D kd:Int} {sys:LB} (h1:sys.all (bR kd D)=true) (h2:aY false V D kd sys=true): ∀x∈sys,bV x.face=true/\a7 x.face D=true/\ ∀y∈x.kids,bW V (D+aS kd) y:=fun x hx=>by
 grind [rq,bR]
theorem wM1 {V D kd:Int} {t:Tm}:cQ false V D kd [t]=true↔bW V (D+aS kd) t:=by grind [cQ]
theorem Tv {V D kd:Int} {a b:LB} (ha:a.all (bR kd D)=true/\aY false V D kd a=true) (hb:b.all (bR kd D)=true/\aY false V D kd b=true):(a++b).all (bR kd D)=true/\aY false V D kd (a++b)=true:=by
 grind [rq]
theorem akR {V D kd:Int} {f:LC} {z:Tm} (hp:fQ kd=1) (h1:bV f=true) (h2:a7 f D=true) (h3:bW V (D+aS kd) z):[(⟨f,[z]⟩:Br Tm)].all (bR kd D)=true/\aY false V D kd [⟨f,[z]⟩]=true:=
 Kq fun y hy=>by grind [KS,wM1]
theorem Kp {V D:Int} {r:LC} {t t':Tm} (hf:Fm t) (hD:0<=D) (hV:0<=V) (hr:RF r) (hl:a7 r (D+2)=true) (hs:bW V (D+1) t) (h:jV r t= .ok t'):bW V (D+2) t':=by
 unfold jV at h
 obtain ⟨m,h1,h⟩:=ar h
 have fm:=ku (by omega) hf h1
 have s1:=Ev (eD 0) (by omega) (by omega) hV hf hs h1
 grind [zp]
theorem M_ {D:Int} (hD:0<=D):a7 [⟨1,0⟩,⟨2,0⟩] (D+2)=true:=mO (d:=2) DR (by decide) (by omega)
theorem Rj:RF [⟨0,1⟩,⟨2,0⟩]:=IB
theorem afo {D:Int} (hD:0<=D):a7 [⟨0,1⟩,⟨2,0⟩] (D+2)=true:=mO (d:=2) Rj (by decide) (by omega)
theorem akT {V D:Int} {t t':Tm} (hf:Fm t) (hD:0<=D) (hs:bW V (D+1) t) (h:dQ 0 [⟨0,0⟩] t= .ok t'):bW V D t':=zp hf hD nW (mO (d:=0) nW (by decide) hD) hs h
theorem akS {V D:Int} {line a x:Tm} {sys:LB} (hl:Fm line) (hD:0<=D) (hV:0<=V) (s1:bW V (D+1) line) (s2:bW V D a) (w1:sys.all (bR 15 D)=true) (w2:aY false V D 15 sys=true) (sy: ∀b∈sys,b.kids=[bN b]) (h:iD line a sys= .ok x):bW V D x:=by
 unfold iD at h
 obtain ⟨l1,e1,h⟩:=ar h
 obtain ⟨l,e2,h⟩:=ar h
 injection h with h;subst h
 have m15:aS 15=1:=rfl
 have key: ∀ {r l:LB},(∀x∈r,x∈sys)->kY line r= .ok l->l.all (bR 15 D)=true/\aY false V D 15 l=true:=by
  intro r
  induction r with
  |nil=>grind [kY,aY]
  |cons b r ih=>
   intro l hm h
   rw [kY] at h
   obtain ⟨u,q1,h⟩:=ar h
   obtain ⟨m,q2,h⟩:=ar h
   injection h with h;subst h
   obtain ⟨p1,p2,p3⟩:=Tz w1 w2 b (hm b (by simp))
   have hkid:=p3 (bN b) (by grind)
   have hu:=Kp hl hD hV DR (M_ hD) s1 q1
   rw [m15] at hkid
   exact Tv (akR (kd:=15) rfl p1 p2 (by grind [zo,LY,xY])) (ih (fun x hx=>hm x (by simp [hx])) q2)
 obtain ⟨k1,k2⟩:=key (fun x hx=>hx) e2
 exact Tu (akT hl hD s1 e1) (zo (by decide) (M9 _ _ rfl) s1 s2) k1 k2
theorem akZ {D:Int} {f g:LC} (hf:av f) (h1:bV f=true) (h2:a7 f D=true) (h:eM (cm f 0 1)= .ok g):bV g=true/\a7 g (D+1)=true:=by
 have hr:eI 0 1 f= .ok g:=by grind [eI]
 exact ⟨vm hr hf h1,C0 ((lz hf).1 h1).1 (by decide) (by decide) h2 hr⟩
theorem akQ {V D:Int} {line a x:Tm} {phi r:LC} {en:Cl} (hl:Fm line) (ha:Fm a) (hp:bV phi=true) (hpo:av phi) (hlow:a7 phi D=true) (hen:cO en) (hel:co (fun j=>j=0) [en]) (hr:RF r) (hls:a7 r (D+2)=true) (hD:0<=D) (hV:0<=V) (s1:bW V (D+1) line) (s2:bW V D a) (h:mr line phi a en r= .ok x):bW V (D+1) x:=by
 unfold mr at h
 obtain ⟨f1,e1,h⟩:=ar h
 obtain ⟨f,e2,h⟩:=ar h
 obtain ⟨l,e3,h⟩:=ar h
 obtain ⟨a',e4,h⟩:=ar h
 injection h with h;subst h
 have xp:=(lz hpo).1 hp
 have hr1:eI 0 1 phi= .ok f1:=by grind [eI]
 have r1:=yW xp.1 hr1
 have l1:=C0 xp.1 (by decide) (by decide) hlow hr1
 obtain ⟨h0,rfl⟩:=j7 e2
 have re:av [en]:=fun c hc=>by grind
 have rj:=MA r1.2 re h0
 have u:=vF ha (by omega) (by omega) hV s2 e4
 rw [dH] at u
 refine zo (RFa.right rj) ?_ ?_ u
 ·rw [jk rj.1]
  grind [jk,afj,ma]
 grind [Kp]
theorem akU {V D:Int} {t a f y x:Tm} (ha:Fm a) (hf:Fm f) (hy:Fm y) (hV:0<=V) (s1:bW V D t) (s2:bW V D a) (s3:bW V D f) (s4:bW V D y) (h:ie t a f y= .ok x):bW V D x:=by
 unfold ie at h
 obtain ⟨a',e1,h⟩:=ar h
 obtain ⟨y',e2,h⟩:=ar h
 obtain ⟨f',e3,h⟩:=ar h
 injection h with h;subst h
 have u1:=vF ha (by omega) (by omega) hV s2 e1
 have u2:=vF hy (by omega) (by omega) hV s4 e2
 have u3:=vF hf (by omega) (by omega) hV s3 e3
 rw [dH] at u2 u3
 refine tn (by decide) rfl (gall2.2 ⟨?_, ?_⟩)
 ·show aE false (cq V 0) (D+0) t=true
  grind [gH]
 ·show bW (cq V 1) (D+0) _
  rw [S8 hV,dH]
  refine tn (by decide) rfl (gall3.2 ⟨?_, ?_, ?_⟩)
  ·show aE false (cq (V+1) 0) (D+1) a'=true
   rw [gH];exact u1
  ·show aE false (cq (V+1) 0) (D+0) y'=true
   grind [gH]
  ·show bW (cq (V+1) 0) (D+0) _
   grind [gH,Tx,TE]
theorem Yb {m kd:Int} (hm:0<=m): ∀ {l:LT} {i:Nat},(∀x∈l,aZ x<=m)->dA kd i l<=m+1:=by
 intro l
 induction l with
 |nil=>intro i _;rw [dA];omega
 |cons x l ih=>
  intro i h
  have h1:=h x (by simp)
  have h2:=ih (i:=i+1) fun y hy=>h y (by simp [hy])
  have h3:=iz kd i
  rw [dA];omega
theorem Ye {m:Int} (hm:0<=m): ∀ {l:LT},(∀x∈l,aZ x<=m)->ei l<=m+1:=by
 intro l
 induction l with
 |nil=>intro _;rw [ei];omega
 |cons x l ih=>
  intro h
  have h1:=h x (by simp)
  have h2:=ih fun y hy=>h y (by simp [hy])
  rw [ei];omega
theorem Yg {m:Int} (hm:0<=m): ∀ {l:LB},(∀b∈l,∀x∈b.kids,aZ x<=m)->dO l<=m+1:=by
 intro l
 induction l with
 |nil=>intro _;rw [dO];omega
 |cons b l ih=>
  intro h
  have h1:=Ye hm (h b (by simp))
  have h2:=ih fun y hy=>h y (by simp [hy])
  obtain ⟨f,ks⟩:=b
  have h1:ei ks<=m+1:=h1
  rw [dO,lP];omega
theorem lQ {m kd n:Int} {nm:BA} {r:LC} {ks:LT} {sys:LB} (hm:0<=m) (hk: ∀x∈ks,aZ x<=m) (hs: ∀b∈sys,∀x∈b.kids,aZ x<=m):aZ (.mk kd n nm r ks sys)<=m+1:=by
 have h1:=Yb (kd:=kd) (i:=0) hm hk
 have h2:=Yg hm hs
 rw [aZ];omega
theorem Yd: ∀ {l:LT} {x:Tm},x∈l->aZ x<=ei l:=by
 intro l
 induction l with
 |nil=>intro x h;cases h
 |cons y l ih=>
  intro x h
  rw [ei]
  rcases eb.1 h with rfl|h
  ·omega
  ·have:=ih h;omega
theorem Yf: ∀ {l:LB} {b:Br Tm} {x:Tm},b∈l->x∈b.kids->aZ x<=dO l:=by
 intro l
 induction l with
 |nil=>intro b x h;cases h
 |cons c l ih=>
  intro b x h hx
  rw [dO]
  rcases eb.1 h with rfl|h
  ·obtain ⟨f,ks⟩:=b
   have:=Yd (l:=ks) hx
   rw [lP];omega
  ·have:=ih h hx;omega
theorem KN {t:Tm} {b:Br Tm} {x:Tm} (h:b∈t.sys) (hx:x∈b.kids):aZ x<=aZ t:=by
 have h1:=Yf h hx
 have h2:=Yn t
 omega
def Wb (n V D:Int) (t:Tm):Prop:=bW V D t/\aZ t<=n
theorem Wb.mono {n m V D:Int} {t:Tm} (h:Wb n V D t) (hn:n<=m):Wb m V D t:=⟨h.1,by have:=h.2;omega⟩
def WB (n kd V D:Int) (l:LB):Prop:=(l.all (bR kd D)=true/\aY false V D kd l=true)/\ ∀b∈l,∀x∈b.kids,aZ x<=n
theorem WB.app {n kd V D:Int} {a b:LB} (ha:WB n kd V D a) (hb:WB n kd V D b):WB n kd V D (a++b):=
 ⟨Tv ha.1 hb.1,fun y hy=>(er.1 hy).elim (ha.2 y) (hb.2 y)⟩
theorem WB.nil {n kd V D:Int}:WB n kd V D []:=⟨Kq (fun y hy=>by cases hy),fun y hy=>by cases hy⟩
theorem WB.of {n kd V D:Int} (hp:fQ kd=1) {l:LB} (h: ∀b∈l,∃z,b.kids=[z]/\bV b.face=true/\a7 b.face D=true/\Wb n V (D+aS kd) z):WB n kd V D l:=by
 refine ⟨Kq fun b hb=> ?_,fun b hb x hx=> ?_⟩
 ·obtain ⟨z,q1,q2,q3,q4⟩:=h b hb
  obtain ⟨f,ks⟩:=b
  have q1:ks=[z]:=q1
  subst q1
  exact ⟨KS (by rw [hp];rfl) q2 q3,wM1.2 q4.1⟩
 ·obtain ⟨z,q1,q2,q3,q4⟩:=h b hb
  rw [q1,ju] at hx
  subst hx;exact q4.2
theorem Td {n V D:Int} (hn:0<=n) {l a:Tm} {sys:LB} (hl:Wb n V D l) (ha:Wb n V D a) (hs:WB n 15 V D sys):Wb (n+1) V D (.mk 15 0 au [] [l,a] sys):=
 ⟨Tu hl.1 ha.1 hs.1.1 hs.1.2,lQ hn (fun x hx=>by
  simp at hx
  rcases hx with rfl|rfl
  ·exact hl.2
  ·exact ha.2) hs.2⟩
theorem Ti {n kd V D:Int} (hn:0<=n) (h:kd=16\/kd=17\/kd=18) {a:Tm} {sys:LB} (ha:Wb n V D a) (hs:WB n kd V D sys):Wb (n+1) V D (.mk kd 0 au [] [a] sys):=
 ⟨ak0 h ha.1 hs.1.1 hs.1.2,lQ hn (fun x hx=>by rw [ju] at hx;subst hx;exact ha.2) hs.2⟩
theorem nj {m:Int}: ∀b∈([]:LB),∀x∈b.kids,aZ x<=m:=fun b hb=>by cases hb
theorem mm {n kd V D:Int} (hn:0<=n) (h:kd=9\/kd=10) {a:Tm} (ha:Wb n V D a):Wb (n+1) V D (aF kd [a]):=
 ⟨akV h ha.1,lQ hn (fun x hx=>by rw [ju] at hx;subst hx;exact ha.2) nj⟩
theorem tk {n kd V D:Int} (hn:0<=n) (h:kd=6\/kd=8) {a b:Tm} (ha:Wb n V D a) (hb:Wb n V D b):Wb (n+1) V D (aF kd [a,b]):=
 ⟨Tx h ha.1 hb.1,lQ hn (fun x hx=>by
  simp at hx
  rcases hx with rfl|rfl
  ·exact ha.2
  ·exact hb.2) nj⟩
theorem Kh {n V D:Int} (hn:0<=n) {r:LC} {u lo hi:Tm} (hr:dF r=true) (hl:a7 r D=true) (h1:Wb n V D u) (h2:Wb n V D lo) (h3:Wb n V D hi):Wb (n+1) V D (pc r u lo hi):=
 ⟨akW hr hl h1.1 h2.1 h3.1,lQ hn (fun x hx=>by
  simp at hx
  rcases hx with rfl|rfl|rfl
  ·exact h1.2
  ·exact h2.2
  ·exact h3.2) nj⟩
theorem Tc {n V D:Int} (hn:0<=n) {x:Tm} (h:Wb n V (D+1) x):Wb (n+1) V D (aF 12 [x]):=
 ⟨akO h.1,lQ hn (fun y hy=>by rw [ju] at hy;subst hy;exact h.2) nj⟩
theorem akL {n V D:Int} (hn:0<=n) (hV:0<=V) {x:Tm} (h:Wb n (V+1) D x):Wb (n+1) V D (aF 5 [x]):=
 ⟨akP hV h.1,lQ hn (fun y hy=>by rw [ju] at hy;subst hy;exact h.2) nj⟩
theorem Ep {n V D:Int} (hn:0<=n) {r:LC} {l a:Tm} (hr:bV r=true) (hlow:a7 r D=true) (hl:Wb n V (D+1) l) (ha:Wb n V D a):Wb (n+1) V D (dE r l a):=
 ⟨zo hr hlow hl.1 ha.1,lQ hn (fun x hx=>by
  simp at hx
  rcases hx with rfl|rfl
  ·exact hl.2
  ·exact ha.2) nj⟩
theorem Ki {n V D a b:Int} (ha:0<=a/\a<=1000000000) (hb:0<=b) (hV:0<=V) {t t':Tm} (hf:Fm t) (hs:Wb n V D t) (h:ep a b t= .ok t'):Wb n (V+a) (D+b) t':=
 ⟨vF hf ha hb hV hs.1 h,by rw [tu h];exact hs.2⟩
theorem tl {n V D:Int} {r:LC} {t t':Tm} (hf:Fm t) (hD:0<=D) (hr:RF r) (hl:a7 r D=true) (hs:Wb n V (D+1) t) (h:dQ 0 r t= .ok t'):Wb n V D t':=
 ⟨zp hf hD hr hl hs.1 h,by have:=Fs h;have:=hs.2;omega⟩
theorem Tf {n V D:Int} {r:LC} {t t':Tm} (hf:Fm t) (hD:0<=D) (hV:0<=V) (hr:RF r) (hl:a7 r (D+2)=true) (hs:Wb n V (D+1) t) (h:jV r t= .ok t'):Wb n V (D+2) t':=by
 refine ⟨Kp hf hD hV hr hl hs.1 h, ?_⟩
 unfold jV at h
 obtain ⟨m,h1,h⟩:=ar h
 have:=AL t h1
 have:=Fs h
 have:=hs.2
 omega
theorem Kg {n V D:Int} (hn:0<=n) {line a x:Tm} {phi r:LC} {en:Cl} (hl:Fm line) (ha:Fm a) (hp:bV phi=true) (hpo:av phi) (hlow:a7 phi D=true) (hen:cO en) (hel:co (fun j=>j=0) [en]) (hr:RF r) (hls:a7 r (D+2)=true) (hD:0<=D) (hV:0<=V) (s1:Wb n V (D+1) line) (s2:Wb n V D a) (h:mr line phi a en r= .ok x):Wb (n+1) V (D+1) x:=by
 refine ⟨akQ hl ha hp hpo hlow hen hel hr hls hD hV s1.1 s2.1 h, ?_⟩
 unfold mr at h
 obtain ⟨f1,h1,h⟩:=ar h
 obtain ⟨f,h2,h⟩:=ar h
 obtain ⟨l,h3,h⟩:=ar h
 obtain ⟨a',h4,h⟩:=ar h
 injection h with h;subst h
 have b1:=(Tf hl hD hV hr hls s1 h3).2
 have b2:=tu h4
 exact lQ hn (fun x hx=>by
  simp at hx
  rcases hx with rfl|rfl
  ·exact b1
  ·rw [b2];exact s2.2) nj
theorem Tg {n V D:Int} (hn:0<=n) {line a x:Tm} {sys:LB} (hl:Fm line) (hD:0<=D) (hV:0<=V) (s1:Wb n V (D+1) line) (s2:Wb n V D a) (hs:WB n 15 V D sys) (sy: ∀b∈sys,b.kids=[bN b]) (h:iD line a sys= .ok x):Wb (n+2) V D x:=by
 refine ⟨akS hl hD hV s1.1 s2.1 hs.1.1 hs.1.2 sy h, ?_⟩
 unfold iD at h
 obtain ⟨l1,e1,h⟩:=ar h
 obtain ⟨l,e2,h⟩:=ar h
 injection h with h;subst h
 have b1:=Fs e1
 have key: ∀ {r l:LB},(∀x∈r,x∈sys)->kY line r= .ok l-> ∀b∈l,∀x∈b.kids,aZ x<=n+1:=by
  intro r
  induction r with
  |nil=>intro l _ h;rw [kY] at h;injection h with h;subst h;exact nj
  |cons b r ih=>
   intro l hm h
   rw [kY] at h
   obtain ⟨u,q1,h⟩:=ar h
   obtain ⟨m,q2,h⟩:=ar h
   injection h with h;subst h
   intro y hy x hx
   rcases eb.1 hy with rfl|hy
   ·have hx:x∈[Tm.mk 14 0 au [⟨1,0⟩] [u,bN b] []]:=hx
    rw [ju] at hx
    subst hx
    have bu:=(Tf hl hD hV DR (M_ hD) s1 q1).2
    have bb:=hs.2 b (hm b (by simp)) (bN b) (by rw [sy b (hm b (by simp))];simp)
    exact lQ hn (fun x hx=>by
     simp at hx
     rcases hx with rfl|rfl
     ·exact bu
     ·exact bb) nj
   ·exact ih (fun x hx=>hm x (by simp [hx])) q2 y hy x hx
 have b2:aZ (aF 14 [line,a])<=n+1:=lQ hn (fun x hx=>by
  simp at hx
  rcases hx with rfl|rfl
  ·exact s1.2
  ·exact s2.2) nj
 have:=lQ (kd:=15) (n:=0) (nm:=au) (r:=[]) (ks:=[l1,aF 14 [line,a]]) (sys:=l) (show (0:Int)<=n+1 by omega) (fun x hx=>by
  simp at hx
  rcases hx with rfl|rfl
  ·have:=s1.2;omega
  ·exact b2) (key (fun x hx=>hx) e2)
 omega
theorem x_ {c:Int} {x:Except Int Tm} (hx: ∀e,x= .error e->e≠0) (h:(mM c x).2=0):c=0/\ ∃y,x= .ok y/\(mM c x).1=y:=by
 by_cases hc:c=0
 ·subst hc
  rw [sQ] at h ⊢
  cases x with
  |error e=>exact absurd h (hx e rfl)
  |ok y=>exact ⟨rfl,y,rfl,rfl⟩
 ·rw [sS hc] at h;exact absurd h hc
theorem M6:co (fun j=>j=0) [⟨0,1⟩]:=lits_one.2 fun j hj=>hj.elim (fun h=>by simp [hp] at h) fun h=>(wG j).1.1 h
theorem afg:co (fun j=>j=0) [⟨1,0⟩]:=lits_one.2 fun j hj=>hj.elim (fun h=>(wG j).1.1 h) fun h=>absurd h (Kv _ _)
theorem Na {D:Int} (hD:2<=D):a7 [⟨3,0⟩] D=true:=mO (d:=2) (jN ⟨⟨by decide,by decide⟩,by decide,by decide⟩) (by decide) hD
theorem Kf {n V D:Int} {x:Tm} (fx:Fm x) (hk:x.kind=16) (h:Wb n V D x):(∀b∈x.sys,bV b.face=true/\a7 b.face D=true/\Wb n V D (bN b)/\Wb n V D (k1 b))/\Wb n V D (lf x):=by
 obtain ⟨h1,h2,h3⟩:=Eu h.1
 obtain ⟨hx,_,a,ha,fa⟩:=fx.gl hk
 rw [hk] at h1 h2
 have h4:x.sys.all (bR 16 D)=true:=by
  obtain ⟨kd,n',nm,r,ks,sys⟩:=x
  have hk:kd=16:=hk
  subst hk
  have:(_&&(sys.all (bR 16 D)&&_))=true:=h3
  simp only [ak] at this
  exact this.2.1
 have m16:aS 16=0:=rfl
 refine ⟨fun b hb=> ?_, ?_⟩
 ·obtain ⟨p1,p2,p3⟩:=Tz h4 h2 b hb
  rw [m16,dH] at p3
  have q:=(hx b hb).1
  have m0:bN b∈b.kids:=by rw [q];simp
  have m1:k1 b∈b.kids:=by rw [q];simp
  exact ⟨p1,p2,⟨p3 _ m0,by have:=KN hb m0;have:=h.2;omega⟩,⟨p3 _ m1,by have:=KN hb m1;have:=h.2;omega⟩⟩
 ·have hd:lf x=a:=by unfold lf;rw [ha];rfl
  rw [hd]
  rw [ha,gall1] at h1
  have h1:aE false (cq V 0) (D+0) a=true:=h1
  rw [gH,dH] at h1
  refine ⟨h1, ?_⟩
  have:=ni (t:=x) (x:=a) (by rw [ha];simp)
  have:=h.2;omega
theorem Tj {n V D:Int} (hn:0<=n) {T a:Tm} (fT:Fm T) (hT:T.kind=16) (h:Wb n V D T) (ha:Wb n V D a):Wb (n+1) V D (lM a (gc T)):=
 Ti hn (.inr (.inr rfl)) ha (WB.of rfl fun b hb=>by
  obtain ⟨x,hx,rfl⟩:=dI.1 hb
  obtain ⟨p1,p2,_,p4⟩:=(Kf fT hT h).1 x hx
  refine ⟨_,rfl,p1,p2, ?_⟩
  rw [show aS 18=0 from rfl,dH];exact p4)
theorem KB {c D:Int} {f:LC} (h:RX true f) (hD:0<=D) (hl:a7 f (D+1)=true) (h0:(gj c f).2=0):c=0/\bV (gj c f).1=true/\a7 (gj c f).1 D=true:=by
 unfold gj at h0 ⊢
 by_cases hc:c=0
 case neg=>rw [if_neg hc] at h0;exact absurd h0 hc
 rw [if_pos hc] at h0 ⊢
 refine ⟨hc, ?_⟩
 obtain ⟨_,a1,a2⟩:=Fh h
 have ok:=(lH (fj a1) uni_q.1 uni_q.1 (by have:=uni_q.2;omega) (by have:=uni_q.2;omega)).ok
 cases hx:aP 0 [] (dE (j_ f).1 ik ik) with
 |error e=>
  rw [hx] at h0
  have:=qK e hx
  have:e=0:=h0
  omega
 |ok y=>
  obtain ⟨ft,hy⟩:=pz ok hx
  have fy:=JX ft hy
  have ky:y.kind=14:=zh hy
  have s:bW 0 (D+1) (dE (j_ f).1 ik ik):=zo (RFa.right ⟨a1.1,a1.2 rfl⟩) ((jk a1.1).2 (a2 _ ((jk h.1).1 hl))) TD TD
  have sy:=zp ft hD ja (nO hD) s hy
  obtain ⟨l,a,hkd⟩:=kJ (gh fy ky (n:=2) rfl)
  obtain ⟨q1,q2,_⟩:=Km sy ky hkd
  exact ⟨q1,q2⟩
theorem SM {D:Int} (hD:0<=D): ∀ {l:LB} {c:Int},(∀b∈l,RX true b.face/\a7 b.face (D+1)=true)->(eA c l).2=0->c=0/\ ∀b∈(eA c l).1,∃x∈l,b.kids=x.kids/\bV b.face=true/\a7 b.face D=true:=by
 intro l
 induction l with
 |nil=>intro c _ h;exact ⟨h,fun b hb=>by cases hb⟩
 |cons x l ih=>
  intro c hx h
  rw [eA] at h ⊢
  obtain ⟨r1,r2⟩:=hx x (by simp)
  by_cases h0:(gj c x.face).1.length=0
  ·rw [if_pos h0] at h ⊢
   obtain ⟨i1,i2⟩:=ih (fun b hb=>hx b (by simp [hb])) h
   obtain ⟨hc,_⟩:=KB r1 hD r2 i1
   exact ⟨hc,fun b hb=>by obtain ⟨y,hy,q⟩:=i2 b hb;exact ⟨y,by simp [hy],q⟩⟩
  ·rw [if_neg h0] at h ⊢
   obtain ⟨i1,i2⟩:=ih (fun b hb=>hx b (by simp [hb])) h
   obtain ⟨hc,q1,q2⟩:=KB r1 hD r2 i1
   refine ⟨hc,fun b hb=> ?_⟩
   rcases eb.1 hb with rfl|hb
   ·exact ⟨x,by simp,rfl,q1,q2⟩
   ·obtain ⟨y,hy,q⟩:=i2 b hb;exact ⟨y,by simp [hy],q⟩
section
variable {phi:LC} {V D n:Int}
theorem Kj {F:Int->Tm×Int} (h1:bV phi=true) (h2:a7 phi D=true) (hF: ∀c,(F c).2=0->c=0/\Wb n V (D+1) (F c).1) {c:Int} (h:(dY phi F c).2=0):c=0/\WB n 15 V D (dY phi F c).1:=by
 unfold dY at h ⊢
 split at h
 ·rename_i hl
  rw [if_pos hl]
  exact ⟨h,WB.nil⟩
 ·rename_i hl
  rw [if_neg hl]
  obtain ⟨q1,q2⟩:=hF c h
  exact ⟨q1,WB.of rfl fun b hb=>by
   rw [ju] at hb;subst hb
   exact ⟨_,rfl,h1,h2,q2⟩⟩
theorem nc {a b c:Int} (ha:0<=a/\a<=1000) (hb:0<=b/\b<=1000) (hV:0<=V) {t:Tm} (ot:OkT t) (s:Wb n V D t) (h:(mM c (bU a b t)).2=0):c=0/\Fm t/\Fm (mM c (bU a b t)).1/\Wb n (V+a) (D+b) (mM c (bU a b t)).1:=by
 obtain ⟨hc,y,hy,e⟩:=dX jb h
 obtain ⟨f,hu⟩:=lN ot hy
 rw [e]
 exact ⟨hc,f,pA (by omega) f hu,Ki (by omega) (by omega) hV f s hu⟩
theorem aia (hn:0<=n) {a:Tm} (fa:Fm a) (hp:RX true phi) (h1:bV phi=true) (h2:a7 phi D=true) (hD:0<=D) (hV:0<=V) (sa:Wb n V D a) {st:LB} (hs: ∀b∈st,js b/\bV b.face=true/\a7 b.face D=true/\Wb n V (D+1) (bN b)/\Wb n V (D+1) (k1 b)) {c:Int} (h:(cM (nY phi a) c st).2=0):c=0/\WB (n+2) 15 V D (cM (nY phi a) c st).1:=by
 have en: ∀b:Br Tm,∀e,fz (bN b) phi a ⟨0,1⟩ [⟨3,0⟩]= .error e->e≠0:=fun b e h=>vS h
 have hF: ∀c x,(nY phi a c x).2=0->c=0:=fun c x h=>(x_ (en x) h).1
 obtain ⟨hc,hx⟩:=rL hF h
 refine ⟨hc, ?_⟩
 rw [Cj hF h]
 refine WB.of rfl fun b hb=> ?_
 obtain ⟨x,hxm,rfl⟩:=dI.1 hb
 obtain ⟨⟨q1,q2,q3,q4,q5⟩,p1,p2,p3,p4⟩:=hs x hxm
 obtain ⟨_,y,hy,e⟩:=x_ (en x) (hx x hxm).1
 obtain ⟨_,_,_,hto,_⟩:=Fj hy
 have w:=Kg hn q2 fa h1 hp.1.2 h2 yA M6 yV (Na (by omega)) hD hV p3 sa hto
 refine ⟨_,rfl,p1,p2, ?_⟩
 rw [show aS 15=1 from rfl,e]
 have:=tk (kd:=6) (n:=n+1) (by omega) (.inl rfl) (mm hn (.inl rfl) p4) w
 exact ⟨this.1,by have:=this.2;omega⟩
def zC (n V D:Int) (b:Br Tm):Prop:=js b/\bV b.face=true/\a7 b.face D=true/\Wb n V (D+1) (bN b)/\Wb n V (D+1) (k1 b)
theorem Yr (hk:F3 k) (hn:0<=n) {g a:Tm} (fg:Fm g) (hg:g.kind=16) (fa:Fm a) (hp:RX true phi) (h1:bV phi=true) (h2:a7 phi D=true) (hD:0<=D) (hV:0<=V) (sg:Wb n V (D+1) g) (sa:Wb n V D a) (h:(kc g phi a).c=0):
  Fm (kc g phi a).a1/\Wb (n+4) V D (kc g phi a).a1/\ ∀b∈(kc g phi a).st,zC n V D b:=by
 obtain ⟨fB,sB,lB⟩:=AM hk fg hg fa hp
 obtain ⟨hx,_,b0,hb0,fb0⟩:=fg.gl hg
 obtain ⟨g1,g2⟩:=Kf fg hg sg
 have h:(jY g phi a (lM a (gc (mM 0 (aP 0 [] g)).1)) (eA (mM 0 (aP 0 [] g)).2 g.sys).1 (eA (mM 0 (aP 0 [] g)).2 g.sys).2).2=0:=h
 have hst:(kc g phi a).st=(eA (mM 0 (aP 0 [] g)).2 g.sys).1:=rfl
 have ha1:(kc g phi a).a1=(jY g phi a (lM a (gc (mM 0 (aP 0 [] g)).1)) (eA (mM 0 (aP 0 [] g)).2 g.sys).1 (eA (mM 0 (aP 0 [] g)).2 g.sys).2).1:=rfl
 rw [hst] at sB lB ⊢
 rw [ha1] at fB ⊢
 have gT:GN (mM 0 (aP 0 [] g)).1:=uc fg hg ja (nO (by decide))
 have o0:=(gT.un fa).1.ok
 have i0:=(gT.un fa).1.isIn hk (by omega)
 have hin:=Ft hk fa o0 hp sB lB (eA (mM 0 (aP 0 [] g)).2 g.sys).2
 unfold jY at h fB ⊢
 obtain ⟨hc,y,hy,e⟩:=dX (fun e h=>D5 (fun e h=>wJ h) h) h
 obtain ⟨so,fy,hcomp⟩:=zd hy
 have fb:=SD (a:=lf g) (b:=lM a (gc (mM 0 (aP 0 [] g)).1)) (by unfold lf;rw [hb0];exact fb0.ok) o0 hin.1 so
 have hs2:(eA (mM 0 (aP 0 [] g)).2 g.sys).2=0/\WB (n+2) 15 V D (oh phi a (lM a (gc (mM 0 (aP 0 [] g)).1)) (eA (mM 0 (aP 0 [] g)).2 g.sys).1 (eA (mM 0 (aP 0 [] g)).2 g.sys).2).1/\ ∀b∈(eA (mM 0 (aP 0 [] g)).2 g.sys).1,zC n V D b:=by
  have hw0:(dY phi (fun c=>mM c (bU 0 1 (lM a (gc (mM 0 (aP 0 [] g)).1)))) (eA (mM 0 (aP 0 [] g)).2 g.sys).2).2=0:=(rL (F:=nY phi a) (fun c x h=>(x_ (x:=fz (bN x) phi a ⟨0,1⟩ [⟨3,0⟩]) (fun e h=>vS h) h).1) hc).1
  have hsc0:(eA (mM 0 (aP 0 [] g)).2 g.sys).2=0:=by
   unfold dY at hw0
   split at hw0
   ·exact hw0
   ·exact (dX jb hw0).1
  obtain ⟨hT0,hst⟩:=SM hD (fun b hb=>⟨(hx b hb).2.2.2,(g1 b hb).2.1⟩) hsc0
  have hsw: ∀b∈(eA (mM 0 (aP 0 [] g)).2 g.sys).1,zC n V D b:=fun b hb=>by
   obtain ⟨x,hxm,q1,q2,q3⟩:=hst b hb
   obtain ⟨_,_,p3,p4⟩:=g1 x hxm
   have e0:bN b=bN x:=by unfold bN;rw [q1]
   have e1:k1 b=k1 x:=by unfold k1;rw [q1]
   exact ⟨sB b hb,q2,q3,by rw [e0];exact p3,by rw [e1];exact p4⟩
  obtain ⟨_,T,hT,eT⟩:=dX (c:=0) qK hT0
  obtain ⟨_,hT⟩:=pz fg.ok hT
  have fT:=JX fg hT
  have kT:T.kind=16:=(zh hT).trans hg
  have sT:=tl fg hD ja (nO hD) sg hT
  have s0:Wb (n+1) V D (lM a (gc (mM 0 (aP 0 [] g)).1)):=by rw [eT];exact Tj hn fT kT sT sa
  have hw:=(Kj (n:=n+2) (V:=V) h1 h2 (fun c h=>by
   obtain ⟨q1,_,_,q4⟩:=nc (a:=0) (b:=1) (by omega) (by omega) hV o0 s0 h
   rw [dH] at q4
   exact ⟨q1,q4.mono (by omega)⟩) hw0).2
  exact ⟨hsc0,hw.app (aia hn fa hp h1 h2 hD hV sa hsw hc).2,hsw⟩
 obtain ⟨hsc0,hWB,hsw⟩:=hs2
 rw [e]
 refine ⟨⟨(FK hk fb.1 fb.2.1 (Er fb.2.2) hcomp).1.1,fy⟩, ?_,hsw⟩
 have hT0:=(SM hD (fun b hb=>⟨(hx b hb).2.2.2,(g1 b hb).2.1⟩) hsc0).1
 obtain ⟨_,T,hT,eT⟩:=dX (c:=0) qK hT0
 obtain ⟨_,hT⟩:=pz fg.ok hT
 have s0:Wb (n+1) V D (lM a (gc (mM 0 (aP 0 [] g)).1)):=by rw [eT];exact Tj hn (JX fg hT) ((zh hT).trans hg) (tl fg hD ja (nO hD) sg hT) sa
 have:=Tg (n:=n+2) (by omega) fb.1 hD hV (g2.mono (by omega)) (s0.mono (by omega)) hWB (fun b hb=>((Er fb.2.2).kid b hb).1) hcomp
 exact ⟨this.1,by have:=this.2;omega⟩
end
section
variable {phi:LC} {V D n:Int}
theorem OL (hn:0<=n) (hV:0<=V) (hD:0<=D) {a1 cen x:Tm} {c:Int} (o1:OkT a1) (o2:OkT cen) (o3:OkT x) (s1:Wb (n+4) V D a1) (s2:Wb (n+5) V D cen) (s3:Wb (n+1) V D x) (h:(i8 a1 cen x c).2=0):c=0/\Wb (n+8) V (D+1) (i8 a1 cen x c).1:=by
 have h:(mM (mM (mM c (bU 0 1 cen)).2 (bU 0 1 x)).2 (bU 0 2 a1)).2=0:=h
 obtain ⟨h2,_,_,z⟩:=nc (by omega) (by omega) hV o1 s1 h
 obtain ⟨h3,_,_,w⟩:=nc (by omega) (by omega) hV o3 s3 h2
 obtain ⟨h4,_,_,u⟩:=nc (by omega) (by omega) hV o2 s2 h3
 rw [dH] at z w u
 refine ⟨h4, ?_⟩
 rw [show D+2=D+1+1 by omega] at z
 have z12:=Tc (by omega) z
 have pr:=tk (kd:=8) (n:=n+5) (by omega) (.inr rfl) (w.mono (by omega)) (z12.mono (by omega))
 have u10:=mm (kd:=10) (by omega) (.inr rfl) u
 have u9:=mm (kd:=9) (by omega) (.inl rfl) u
 have a6:=tk (kd:=6) (n:=n+6) (by omega) (.inl rfl) (u10.mono (by omega)) (pr.mono (by omega))
 have:=Kh (n:=n+7) (r:=[⟨1,0⟩]) (by omega) (by decide) (xY (by omega)) (a6.mono (by omega)) (u9.mono (by omega)) (pr.mono (by omega))
 exact this.mono (by omega)
theorem HT {a1 cen x:Tm} {c:Int} (h:(i8 a1 cen x c).2=0):c=0:=by
 have h:(mM (mM (mM c (bU 0 1 cen)).2 (bU 0 1 x)).2 (bU 0 2 a1)).2=0:=h
 exact (dX jb (dX jb (dX jb h).1).1).1
theorem GR {a a1 t1 t e:Tm} {st:LB} {c:Int} (h:(rP phi a a1 t1 st t e c).2=0):c=0/\(mM c (ej [t,t1,aF 9 [e],a1] (ie t t1 (aF 9 [e]) a1))).2=0:=by
 have h:(cM (nH phi a a1 (iV e a1)) (dY phi (i8 a1 (iV e a1) a) (mM c (ej [t,t1,aF 9 [e],a1] (ie t t1 (aF 9 [e]) a1))).2).2 st).2=0:=h
 have h1:=(rL (F:=nH phi a a1 (iV e a1)) (fun c x h=>HT (x:=dE phi (bN x) a) h) h).1
 have h2:(mM c (ej [t,t1,aF 9 [e],a1] (ie t t1 (aF 9 [e]) a1))).2=0:=by
  unfold dY at h1
  split at h1
  ·exact h1
  ·exact HT h1
 exact ⟨(dX (fun e h=>D5 (fun e h=>GI h) h) h2).1,h2⟩
theorem abD (hn:0<=n) {a a1 t1 t e:Tm} (fa:Fm a) (f1:Fm a1) (ot1:OkT t1) (ft:Fm t) (fe:Fm e) (hp:RX true phi) (h1:bV phi=true) (h2:a7 phi D=true) (hD:0<=D) (hV:0<=V) (sa:Wb n V D a) (s1:Wb (n+4) V D a1) (st1:Wb n V D t1) (st:Wb n V D t) (se:Wb n V D e) {l:LB} (hs: ∀b∈l,zC n V D b) {c:Int} (h:(rP phi a a1 t1 l t e c).2=0):c=0/\Wb (n+9) V D (rP phi a a1 t1 l t e c).1:=by
 obtain ⟨hc,hf0⟩:=GR h
 refine ⟨hc, ?_⟩
 have o9:=(mi (kd:=9) (by omega) (FN.sm (.inl fe)) (by omega)).1.ok
 have ocen:=(AX (.inl fe) (.inl f1)).1.ok
 obtain ⟨_,y,hy,ey⟩:=dX (fun e h=>D5 (fun e h=>GI h) h) hf0
 obtain ⟨so,fy,hfib⟩:=zd hy
 have hfm:=pu (l:=[t,t1,aF 9 [e],a1]) (fun x hx=>by
  simp at hx
  rcases hx with rfl|rfl|rfl|rfl
  ·exact ft.ok
  ·exact ot1
  ·exact o9
  ·exact f1.ok) so
 have e9:=mm (kd:=9) hn (.inl rfl) se
 have e10:=mm (kd:=10) hn (.inr rfl) se
 have sf:Wb (n+4) V D y:=by
  refine ⟨akU (hfm t1 (by simp)) (hfm _ (by simp)) f1 hV st.1 st1.1 e9.1 s1.1 hfib, ?_⟩
  rw [Yh hfib]
  have:=st.2;have:=st1.2;have:=s1.2;have:=e9.2;omega
 have sc:Wb (n+5) V D (iV e a1):=by
  have:=tk (kd:=6) (n:=n+4) (by omega) (.inl rfl) (e10.mono (by omega)) s1
  exact ⟨this.1,by have:=this.2;unfold iV;omega⟩
 have c9:=mm (kd:=9) (by omega) (.inl rfl) sc
 have he:(cM (nH phi a a1 (iV e a1)) (dY phi (i8 a1 (iV e a1) a) (mM c (ej [t,t1,aF 9 [e],a1] (ie t t1 (aF 9 [e]) a1))).2).2 l).2=0:=h
 have hF: ∀c x,(nH phi a a1 (iV e a1) c x).2=0->c=0:=fun c x h=>HT h
 obtain ⟨hw0,hx⟩:=rL hF he
 have hw:=(Kj (n:=n+8) (V:=V) h1 h2 (fun c h=>OL hn hV hD f1.ok ocen fa.ok s1 sc (sa.mono (by omega)) h) hw0).2
 have hb:WB (n+8) 15 V D (cM (nH phi a a1 (iV e a1)) (dY phi (i8 a1 (iV e a1) a) (mM c (ej [t,t1,aF 9 [e],a1] (ie t t1 (aF 9 [e]) a1))).2).2 l).1:=by
  rw [Cj hF he]
  refine WB.of rfl fun b hb=> ?_
  obtain ⟨x,hxm,rfl⟩:=dI.1 hb
  obtain ⟨⟨q1,q2,q3,q4,q5⟩,p1,p2,p3,p4⟩:=hs x hxm
  have o14:=(lH (fj hp) q2.sm fa.sm (by have:=q2.dep;omega) (by have:=fa.dep;omega)).ok
  have:=(OL hn hV hD f1.ok ocen o14 s1 sc (Ep hn h1 h2 p3 sa) (hx x hxm).1).2
  exact ⟨_,rfl,p1,p2,this⟩
 have:=Td (n:=n+8) (by omega) (sf.mono (by omega)) (c9.mono (by omega)) (hw.app hb)
 rw [<-ey] at this
 exact this.mono (by omega)
theorem abN (hn:0<=n) (hV:0<=V) (hD:0<=D) {a1:Tm} {q:Br Tm×Tm} {c:Int} (o1:OkT a1) (ow:OkT q.2) (oe:OkT (k1 q.1)) (s1:Wb (n+4) V D a1) (sw:Wb (n+9) V D q.2) (se:Wb n V D (k1 q.1)) (h:(jj a1 c q).2=0):c=0/\ ∃z,(jj a1 c q).1.kids=[z]/\(jj a1 c q).1.face=q.1.face/\Wb (n+12) V (D+1) z:=by
 have h:(mM (mM (mM c (bU 0 1 q.2)).2 (bU 0 1 a1)).2 (bU 0 1 (k1 q.1))).2=0:=h
 obtain ⟨h2,_,_,e⟩:=nc (by omega) (by omega) hV oe se h
 obtain ⟨h3,_,_,lo⟩:=nc (by omega) (by omega) hV o1 s1 h2
 obtain ⟨h4,_,_,x⟩:=nc (by omega) (by omega) hV ow sw h3
 rw [dH] at e lo x
 refine ⟨h4,_,rfl,rfl, ?_⟩
 have x10:=mm (kd:=10) (by omega) (.inr rfl) x
 have x9:=mm (kd:=9) (by omega) (.inl rfl) x
 have e9:=mm (kd:=9) hn (.inl rfl) e
 have a6:=tk (kd:=6) (n:=n+10) (by omega) (.inl rfl) (e9.mono (by omega)) (x9.mono (by omega))
 have:=Kh (n:=n+11) (r:=[⟨1,0⟩]) (by omega) (by decide) (xY (by omega)) (x10.mono (by omega)) (lo.mono (by omega)) (a6.mono (by omega))
 exact ⟨this.1,by have:=this.2;omega⟩
theorem L7 {a1:Tm} {q:Br Tm×Tm} {c:Int} (h:(jj a1 c q).2=0):c=0:=by
 have h:(mM (mM (mM c (bU 0 1 q.2)).2 (bU 0 1 a1)).2 (bU 0 1 (k1 q.1))).2=0:=h
 exact (dX jb (dX jb (dX jb h).1).1).1
end
theorem alk: ∀ {l:LB} {w:LT},w.length=l.length->((l.zip w).map ta).map (·.face)=l.map (·.face):=by
 intro l
 induction l with
 |nil=>intro w _;rw [List.zip_nil_left];rfl
 |cons x l ih=>
  intro w h
  cases w with
  |nil=>simp at h
  |cons y w=>rw [List.zip_cons_cons,jc,jc,jc,ih (by simpa using h)];rfl
theorem ab6 (hk:F3 k) {phi:LC} {V D n:Int} (hn:0<=n) {g a:Tm} (fg:Fm g) (hg:g.kind=16) (fa:Fm a) (hp:RX true phi) (h1:bV phi=true) (h2:a7 phi D=true) (hD:0<=D) (hV:0<=V) (sg:Wb n V (D+1) g) (sa:Wb n V D a) (h:(iH phi g a).2=0):
  Wb (n+14) V D (iH phi g a).1/\(iH phi g a).1.kind=17/\(∃z,(iH phi g a).1.kids=[z]/\z.kind=15)/\ ∃G,dQ 0 [⟨0,0⟩] g= .ok G/\(iH phi g a).1.sys.map (·.face)=G.sys.map (·.face):=by
 obtain ⟨fB,sB,lB⟩:=AM hk fg hg fa hp
 have bs:=fun hc=>Yr hk hn fg hg fa hp h1 h2 hD hV sg sa hc
 unfold iH at h ⊢
 dsimp only at h ⊢
 generalize kc g phi a=B at fB sB lB bs h ⊢
 obtain ⟨st,a1,c0⟩:=B
 dsimp only at fB sB lB bs h ⊢
 have gG:GN (mM c0 (aP 0 [⟨0,0⟩] g)).1:=uc fg hg nW (xX (by decide))
 obtain ⟨hw0,hz⟩:=rL (F:=jj a1) (fun c q h=>L7 h) h
 have hws0:(cM (io phi a a1 (fi (mM c0 (aP 0 [⟨0,0⟩] g)).1.kids) st) (mM c0 (aP 0 [⟨0,0⟩] g)).2 (mM c0 (aP 0 [⟨0,0⟩] g)).1.sys).2=0:=by
  unfold dY at hw0
  split at hw0
  ·exact hw0
  ·exact (dX jb hw0).1
 obtain ⟨hG0,hx⟩:=rL (F:=io phi a a1 (fi (mM c0 (aP 0 [⟨0,0⟩] g)).1.kids) st) (fun c b h=>(GR h).1) hws0
 obtain ⟨hc0,G,hG,eG⟩:=dX qK hG0
 obtain ⟨f1,s1,hst⟩:=bs hc0
 obtain ⟨_,hG⟩:=pz fg.ok hG
 have fG:=aj7 fg hG
 have kG:G.kind=16:=(zh hG).trans hg
 have sG:=tl fg hD nW (xX hD) sg hG
 obtain ⟨gb,gk⟩:=Kf fG kG sG
 obtain ⟨hgx,_,t1,ht1,ft1⟩:=fG.gl kG
 have h1k:fi G.kids=t1:=by rw [ht1];rfl
 have hd:lf G=t1:=by unfold lf;rw [ht1];rfl
 rw [hd] at gk
 have hweq:=Cj (F:=io phi a a1 (fi (mM c0 (aP 0 [⟨0,0⟩] g)).1.kids) st) (fun c b h=>(GR h).1) hws0
 have hwl:(cM (io phi a a1 (fi (mM c0 (aP 0 [⟨0,0⟩] g)).1.kids) st) (mM c0 (aP 0 [⟨0,0⟩] g)).2 (mM c0 (aP 0 [⟨0,0⟩] g)).1.sys).1.length=(mM c0 (aP 0 [⟨0,0⟩] g)).1.sys.length:=pX
 have hsm:=Kr (phi:=phi) (st:=st) (a1:=a1) (t1:=fi (mM c0 (aP 0 [⟨0,0⟩] g)).1.kids) (c:=(mM c0 (aP 0 [⟨0,0⟩] g)).2) hk fa fB (CD gG).1 hp sB lB (CD gG).2.1
 have hsw: ∀w∈(cM (io phi a a1 (fi (mM c0 (aP 0 [⟨0,0⟩] g)).1.kids) st) (mM c0 (aP 0 [⟨0,0⟩] g)).2 (mM c0 (aP 0 [⟨0,0⟩] g)).1.sys).1,Wb (n+9) V D w:=fun w hw=>by
  rw [hweq] at hw
  obtain ⟨b,hb,rfl⟩:=dI.1 hw
  have:=(hx b hb).1
  rw [eG] at hb
  rw [eG,h1k] at this ⊢
  obtain ⟨_,p2,p3,_⟩:=hgx b hb
  obtain ⟨_,_,q3,q4⟩:=gb b hb
  exact (abD hn fa f1 ft1.ok p2 p3 hp h1 h2 hD hV sa s1 gk q3 q4 hst this).2
 generalize cM (io phi a a1 (fi (mM c0 (aP 0 [⟨0,0⟩] g)).1.kids) st) (mM c0 (aP 0 [⟨0,0⟩] g)).2 (mM c0 (aP 0 [⟨0,0⟩] g)).1.sys=ws at hwl hsm hsw h hw0 hz ⊢
 rw [eG] at hwl h hz ⊢
 rw [h1k]
 have hW:=(Kj (n:=n+12) (V:=V) h1 h2 (fun c h=>by
  obtain ⟨q1,_,_,q4⟩:=nc (a:=0) (b:=1) (by omega) (by omega) hV f1.ok s1 h
  rw [dH] at q4
  exact ⟨q1,q4.mono (by omega)⟩) hw0).2
 have hzip: ∀q∈G.sys.zip ws.1,q.1∈G.sys/\q.2∈ws.1:=fun q hq=>⟨(List.of_mem_zip hq).1,(List.of_mem_zip hq).2⟩
 have hZ:WB (n+12) 15 V D (cM (jj a1) (dY phi (fun c=>mM c (bU 0 1 a1)) ws.2).2 (G.sys.zip ws.1)).1:=by
  rw [Cj (F:=jj a1) (fun c q h=>L7 h) h]
  refine WB.of rfl fun b hb=> ?_
  obtain ⟨q,hq,rfl⟩:=dI.1 hb
  obtain ⟨m1,m2⟩:=hzip q hq
  obtain ⟨p1,p2,_,p4⟩:=gb q.1 m1
  obtain ⟨_,z,z1,z2,z3⟩:=abN hn hV hD f1.ok (hsm q.2 m2).1.ok (hgx q.1 m1).2.2.1.ok s1 (hsw q.2 m2) p4 (hz q hq).1
  exact ⟨z,z1,by rw [z2];exact p1,by rw [z2];exact p2,z3⟩
 have hP:WB (n+13) 17 V D ((G.sys.zip ws.1).map ta):=by
  refine WB.of rfl fun b hb=> ?_
  obtain ⟨q,hq,rfl⟩:=dI.1 hb
  obtain ⟨m1,m2⟩:=hzip q hq
  obtain ⟨p1,p2,_,_⟩:=gb q.1 m1
  refine ⟨_,rfl,p1,p2, ?_⟩
  rw [show aS 17=0 from rfl,dH]
  exact (mm (n:=n+9) (by omega) (.inl rfl) (hsw q.2 m2)).mono (by omega)
 refine ⟨?_,rfl,⟨_,rfl,rfl⟩,G,hG,alk hwl⟩
 have h15:=Td (n:=n+12) (by omega) (gk.mono (by omega)) (s1.mono (by omega)) (hW.app hZ)
 exact (Ti (n:=n+13) (by omega) (.inr (.inl rfl)) (h15.mono (by omega)) hP).mono (by omega)
theorem Te {n V D:Int} (hV:0<=V) {x p b:Tm} (hk:x.kind=4\/x.kind=7) (hkd:x.kids=[p,b]) (h:Wb n V D x):Wb n V D p/\Wb n (V+1) D b:=by
 obtain ⟨h1,_,_⟩:=Eu h.1
 have b1:=ni (t:=x) (x:=p) (by rw [hkd];simp)
 have b2:=ni (t:=x) (x:=b) (by rw [hkd];simp)
 have:=h.2
 rw [hkd,gall2] at h1
 have e1:b8 x.kind ((0:Nat):Int)=0:=by grind [b8]
 have e2:bL x.kind ((0:Nat):Int)=0:=by grind [bL]
 have e3:b8 x.kind ((0+1:Nat):Int)=1:=by grind [b8]
 have e4:bL x.kind ((0+1:Nat):Int)=0:=by grind [bL]
 rw [e1,e2,e3,e4,Em hV,Em hV] at h1
 simp only [dH] at h1
 exact ⟨⟨h1.1,by omega⟩,⟨h1.2,by omega⟩⟩
theorem akK {n V D:Int} (hV:0<=V) {x p b c:Tm} (hk:x.kind=11) (hkd:x.kids=[p,b,c]) (h:Wb n V D x):Wb n V (D+1) p/\Wb n V D b/\Wb n V D c:=by
 obtain ⟨h1,_,_⟩:=Eu h.1
 have b1:=ni (t:=x) (x:=p) (by rw [hkd];simp)
 have b2:=ni (t:=x) (x:=b) (by rw [hkd];simp)
 have b3:=ni (t:=x) (x:=c) (by rw [hkd];simp)
 have:=h.2
 rw [hkd,gall3,hk] at h1
 have h1:aE false (cq V 0) (D+1) p=true/\aE false (cq V 0) (D+0) b=true/\aE false (cq V 0) (D+0) c=true:=h1
 rw [gH,dH] at h1
 exact ⟨⟨h1.1,by omega⟩,⟨h1.2.1,by omega⟩,⟨h1.2.2,by omega⟩⟩
theorem Th {n m V D:Int} (hV:0<=V) (hD:0<=D) {t u o:Tm} (ht:Fm t) (hf:Fm u) (hu:Wb m V D u) (hs:Wb n (V+1) D t) (h:ls 0 t u= .ok o):Wb (n+m) V D o:=
 ⟨akY hV hD ht hf hu.1 hs.1 h,by have:=Yl h;have:=hu.2;have:=hs.2;omega⟩
theorem zm {n vb db:Int} (hvb:0<=vb) (hdb:0<=db) {v d V D:Int} {t t':Tm} (hd:0<=d) (hV:0<=V) (hf:Fm t) (h:Wb n V D t) (hl:dm vb db v d t= .ok t'):Wb n (V+vb) (D+db) t':=
 ⟨Ev hvb hdb hd hV hf h.1 hl,by rw [AL t hl];exact h.2⟩
theorem akM {m V D n:Int} (hm:0<=m) (hn:0<=n) (hV:n<V):Wb m V D (vN n):=⟨TE hn hV,by unfold vN;rw [aZ,dA,dO];omega⟩
theorem OP {t u:Tm}: ∀e,mS 0 t u= .error e->0<e/\e<=1000:=fun e h=>oG (fun e h=>oG (fun e h=>OO h) h) h
section
variable {phi:LC} {V D n:Int}
theorem agw (hn:0<=n) (hV:0<=V) (hD:0<=D) {k0 k1' a:Tm} (f0:Fm k0) (f1:Fm k1') (fa:Fm a) (hp:RX true phi) (h1:bV phi=true) (h2:a7 phi D=true) (s0:Wb n V (D+1) k0) (s1:Wb n (V+1) (D+1) k1') (sa:Wb n V D a) (h:(m8 phi k0 k1' a).2=0):
  Wb (2*n+4) V D (m8 phi k0 k1' a).1/\(m8 phi k0 k1' a).1.kind=5/\ ∃z,(m8 phi k0 k1' a).1.kids=[z]/\z.kind=14:=by
 unfold m8 at h ⊢
 dsimp only at h ⊢
 obtain ⟨hF0,T,hT,eT⟩:=dX qK h
 obtain ⟨hB0,F,hF,eF⟩:=dX jb hF0
 obtain ⟨hb0,B,hB,eB⟩:=dX OP hB0
 obtain ⟨hW0,B0,hB0',eB0⟩:=dX (fun e h=>Ys h) hb0
 obtain ⟨hU0,W,hW,eW⟩:=x_ (fun e h=>vS h) hW0
 obtain ⟨_,U,hU,eU⟩:=dX (c:=0) jb hU0
 rw [eT,eF,eB]
 rw [eU] at hW
 rw [eW] at hB hT
 rw [eB0] at hB
 obtain ⟨_,hU⟩:=lN f0.ok hU
 have fU:=pA (by omega) f0 hU
 have sU:=Ki (by omega) (by omega) hV f0 s0 hU
 rw [dH] at sU
 obtain ⟨so,_,fW0,hto,_⟩:=Fj hW
 have hfm:=pu (l:=[U,vN 0]) (fun x hx=>by
  simp at hx
  rcases hx with rfl|rfl
  ·exact fU.ok
  ·exact (Kb (by omega)).1.ok) so
 have fW:Fm W:=by
  refine ⟨?_,fW0⟩
  have hle:F3 4294968296:=by unfold F3;omega
  exact (zG hle fU (hfm _ (by simp)) hp.1 HN hto).1.1
 have sW:=Kg (V:=V+1) hn fU (hfm _ (by simp)) h1 hp.1.2 h2 HN afg Rj (afo hD) hD (by omega) sU (akM hn (by omega) (by omega)) hto
 unfold nn at hB0'
 obtain ⟨m,hm,hB0'⟩:=ar hB0'
 obtain ⟨_,hm'⟩:=aky f1.ok hm
 have fm:=Kc (by omega) f1.ok hm
 have sm:=zm (by omega) (by omega) (eD 0) (by omega) f1 s1 hm'
 obtain ⟨_,hB1⟩:=Gp fm.ok hB0'
 have fB0:=B9 (by omega) fm.ok hB0'
 have sB0:=zm (by omega) (by omega) (eD 0) (by omega) fm sm hB1
 simp only [dH] at sB0
 obtain ⟨_,_,hB⟩:=HX fB0.ok fW.ok hB
 have sB:=Th (by omega) (by omega) fB0 fW sW sB0 hB
 obtain ⟨_,hF⟩:=lN fa.ok hF
 have sF:=Ki (by omega) (by omega) hV fa sa hF
 rw [dH] at sF
 obtain ⟨_,hT⟩:=pz fW.ok hT
 have sT:=tl fW hD ja (nO hD) sW hT
 have a6:=tk (kd:=6) (n:=n+1) (by omega) (.inl rfl) (sF.mono (by omega)) sT
 have t14:=Ep (n:=2*n+2) (by omega) h1 (mO hp.1 h2 (eD D)) (sB.mono (by omega)) (a6.mono (by omega))
 exact ⟨(akL (by omega) hV t14).mono (by omega),rfl,_,rfl,rfl⟩
end
section
variable {phi:LC} {V D n:Int}
theorem abB:F3 4294968296:=by unfold F3;omega
theorem ajv (hn:0<=n) (hV:0<=V) (hD:0<=D) {k0 k1' a:Tm} (f0:Fm k0) (f1:Fm k1') (fa:Fm a) (hp:RX true phi) (h1:bV phi=true) (h2:a7 phi D=true) (s0:Wb n V (D+1) k0) (s1:Wb n (V+1) (D+1) k1') (sa:Wb n V D a) (h:(m9 phi k0 k1' a).2=0):
  Wb (2*n+4) V D (m9 phi k0 k1' a).1/\(m9 phi k0 k1' a).1.kind=8/\ ∃z w,(m9 phi k0 k1' a).1.kids=[z,w]/\z.kind=14/\w.kind=14:=by
 unfold m9 at h ⊢
 dsimp only at h ⊢
 obtain ⟨hR0,B,hB,eB⟩:=dX OP h
 obtain ⟨_,R,hR,eR⟩:=x_ (c:=0) (fun e h=>vS h) hR0
 rw [eB]
 rw [eR] at hB
 have o9:=(mi (kd:=9) (by omega) (FN.sm (.inl fa)) (by omega)).1.ok
 have a9:=mm (kd:=9) hn (.inl rfl) sa
 have a10:=mm (kd:=10) hn (.inr rfl) sa
 obtain ⟨so,_,fR0,hto,_⟩:=Fj hR
 have hfm:=pu (l:=[k0,aF 9 [a]]) (fun x hx=>by
  simp at hx
  rcases hx with rfl|rfl
  ·exact f0.ok
  ·exact o9) so
 have fR:Fm R:=⟨(zG abB f0 (hfm _ (by simp)) hp.1 yA hto).1.1,fR0⟩
 have sR:=Kg (n:=n+1) (by omega) f0 (hfm _ (by simp)) h1 hp.1.2 h2 yA M6 yV (Na (by omega)) hD hV (s0.mono (by omega)) a9 hto
 obtain ⟨_,_,hB⟩:=HX f1.ok fR.ok hB
 have sB:=Th hV (by omega) f1 fR sR s1 hB
 have t1:=Ep (n:=n+1) (by omega) h1 h2 (s0.mono (by omega)) a9
 have t2:=Ep (n:=2*n+2) (by omega) h1 h2 (sB.mono (by omega)) (a10.mono (by omega))
 exact ⟨(tk (kd:=8) (n:=2*n+3) (by omega) (.inr rfl) (t1.mono (by omega)) (t2.mono (by omega))).mono (by omega),rfl,_,_,rfl,rfl,rfl⟩
theorem Rs {c:Int} {f:LC} (h:(lA c f).2=0):c=0/\eM (cm f 0 1)= .ok (lA c f).1:=by
 unfold lA at h ⊢
 by_cases hc:c=0
 ·rw [if_pos hc] at h ⊢
  exact ⟨hc,qN h⟩
 ·rw [if_neg hc] at h;exact absurd h hc
theorem KK (hn:0<=n) (hV:0<=V) {b:Int} (hb:0<=b/\b<=1000) {r:LC} {a u v:Tm} {c:Int} (oa:OkT a) (ou:OkT u) (ov:OkT v) (sa:Wb n V D a) (su:Wb n V D u) (sv:Wb n V D v) (hr:dF r=true) (hl:a7 r (D+b)=true) (h:(jW b r a u v c).2=0):c=0/\Wb (n+1) V (D+b) (jW b r a u v c).1:=by
 have h:(mM (mM (mM c (bU 0 b a)).2 (bU 0 b u)).2 (bU 0 b v)).2=0:=h
 obtain ⟨h2,_,_,z⟩:=nc (by omega) hb hV ov sv h
 obtain ⟨h3,_,_,w⟩:=nc (by omega) hb hV ou su h2
 obtain ⟨h4,_,_,p⟩:=nc (by omega) hb hV oa sa h3
 rw [dH] at z w p
 exact ⟨h4,Kh hn hr hl p w z⟩
theorem ajS (hn:0<=n) (hV:0<=V) (hD:0<=D) (hp:RX true phi) (h1:bV phi=true) (h2:a7 phi D=true) {a u v:Tm} {c:Int} (oa:OkT a) (ou:OkT u) (ov:OkT v) (sa:Wb n V D a) (su:Wb n V D u) (sv:Wb n V D v) (h:(py phi a u v c).2=0):c=0/\WB (n+1) 15 V (D+1) (py phi a u v c).1/\ ∀b∈(py phi a u v c).1,b.kids=[bN b]:=by
 unfold py at h ⊢
 by_cases hl:phi.length=0
 ·rw [if_pos hl] at h ⊢
  exact ⟨h,WB.nil,fun b hb=>by cases hb⟩
 ·rw [if_neg hl] at h ⊢
  dsimp only at h ⊢
  obtain ⟨q1,q2⟩:=KK hn hV (b:=2) (by omega) oa ou ov sa su sv (by decide) (Nc (by omega)) h
  obtain ⟨q3,q4⟩:=Rs q1
  obtain ⟨r1,r2⟩:=akZ hp.1.2 h1 h2 q4
  refine ⟨q3,WB.of rfl fun b hb=> ?_,fun b hb=> ?_⟩
  ·rw [ju] at hb;subst hb
   refine ⟨_,rfl,r1,r2, ?_⟩
   rw [show aS 15=1 from rfl,show D+1+1=D+2 by omega]
   exact q2
  ·rw [ju] at hb;subst hb;rfl
theorem agr (hn:0<=n) (hV:0<=V) (hD:0<=D) {k0 l r a:Tm} (f0:Fm k0) (f1:Fm l) (f2:Fm r) (fa:Fm a) (hp:RX true phi) (h1:bV phi=true) (h2:a7 phi D=true) (s0:Wb n V (D+1+1) k0) (s1:Wb n V (D+1) l) (s2:Wb n V (D+1) r) (sa:Wb n V D a) (h:(m7 phi k0 l r a).2=0):
  Wb (n+4) V D (m7 phi k0 l r a).1/\(m7 phi k0 l r a).1.kind=12/\ ∃z,(m7 phi k0 l r a).1.kids=[z]/\z.kind=15:=by
 unfold m7 at h ⊢
 dsimp only at h ⊢
 obtain ⟨hr0,C,hC,eC⟩:=dX (fun e h=>D5 (fun e h=>wJ h) h) h
 rw [eC]
 obtain ⟨hl0,r1,hr1,er1⟩:=dX xv hr0
 obtain ⟨hs0,l1,hl1,el1⟩:=dX xv hl0
 have q0:Q2 (mM 0 (aP 0 [] l)).1:=kz fun t h=>vB f1.ok h
 have q1:Q2 (mM (mM 0 (aP 0 [] l)).2 (aP 0 [] r)).1:=kz fun t h=>vB f2.ok h
 have hb0:(jW 1 [⟨1,0⟩] a (mM 0 (aP 0 [] l)).1 (mM (mM 0 (aP 0 [] l)).2 (aP 0 [] r)).1 (mM (mM (mM 0 (aP 0 [] l)).2 (aP 0 [] r)).2 (lL k0)).2).2=0:=by
  unfold py at hs0
  split at hs0
  ·exact hs0
  ·have hs0:(mM (mM (mM (lA (jW 1 [⟨1,0⟩] a (mM 0 (aP 0 [] l)).1 (mM (mM 0 (aP 0 [] l)).2 (aP 0 [] r)).1 (mM (mM (mM 0 (aP 0 [] l)).2 (aP 0 [] r)).2 (lL k0)).2).2 phi).2 (bU 0 2 a)).2 (bU 0 2 (mM 0 (aP 0 [] l)).1)).2 (bU 0 2 (mM (mM 0 (aP 0 [] l)).2 (aP 0 [] r)).1)).2=0:=hs0
   exact (Rs (dX jb (dX jb (dX jb hs0).1).1).1).1
 have hL0:(mM (mM (mM 0 (aP 0 [] l)).2 (aP 0 [] r)).2 (lL k0)).2=0:=by
  have hb0:(mM (mM (mM (mM (mM (mM 0 (aP 0 [] l)).2 (aP 0 [] r)).2 (lL k0)).2 (bU 0 1 a)).2 (bU 0 1 (mM 0 (aP 0 [] l)).1)).2 (bU 0 1 (mM (mM 0 (aP 0 [] l)).2 (aP 0 [] r)).1)).2=0:=hb0
  exact (dX jb (dX jb (dX jb hb0).1).1).1
 obtain ⟨hv0,L,hL,eL⟩:=dX aj1 hL0
 obtain ⟨hu0,v,hv,ev⟩:=dX qK hv0
 obtain ⟨_,u,hu,eu⟩:=dX (c:=0) qK hu0
 obtain ⟨_,hu⟩:=pz f1.ok hu
 obtain ⟨_,hv⟩:=pz f2.ok hv
 obtain ⟨_,hL⟩:=SN f0.ok hL
 have su:=tl f1 hD ja (nO hD) s1 hu
 have sv:=tl f2 hD ja (nO hD) s2 hv
 unfold tj at hL
 obtain ⟨m,hm,hL⟩:=ar hL
 have fm:=ku (by omega) f0 hm
 have sm:=zm (by omega) (by omega) (by omega) hV f0 s0 hm
 rw [dH] at sm
 have rf2:RF [⟨2,0⟩]:=jN ⟨⟨by decide,by decide⟩,by decide,by decide⟩
 have fL:=Eg fm rf2 (mO (d:=2) rf2 (by decide) (by decide)) hL
 have sL:=tl fm (by omega) rf2 (Nc (by omega)) sm hL
 rw [<-eu] at su
 rw [<-ev] at sv
 have sb:=(KK hn hV (b:=1) (by omega) fa.ok q0.1.ok q1.1.ok sa su sv (by decide) (xY (by omega)) hb0).2
 obtain ⟨_,ss,sk⟩:=ajS hn hV hD hp h1 h2 fa.ok q0.1.ok q1.1.ok sa su sv hs0
 obtain ⟨_,hl1'⟩:=Gp f1.ok hl1
 obtain ⟨_,hr1'⟩:=Gp f2.ok hr1
 have sl:=zm (vb:=0) (db:=1) (by omega) (by omega) (show (0:Int)<=1 by omega) hV f1 s1 hl1'
 have sr:=zm (vb:=0) (db:=1) (by omega) (by omega) (show (0:Int)<=1 by omega) hV f2 s2 hr1'
 rw [dH] at sl sr
 obtain ⟨_,_,hC⟩:=zd hC
 rw [eL] at hC
 rw [el1,er1] at hC
 have hsys:WB (n+1) 15 V (D+1) ((py phi a (mM 0 (aP 0 [] l)).1 (mM (mM 0 (aP 0 [] l)).2 (aP 0 [] r)).1 (jW 1 [⟨1,0⟩] a (mM 0 (aP 0 [] l)).1 (mM (mM 0 (aP 0 [] l)).2 (aP 0 [] r)).1 (mM (mM (mM 0 (aP 0 [] l)).2 (aP 0 [] r)).2 (lL k0)).2).2).1++[⟨[⟨0,1⟩],[l1]⟩]++[⟨[⟨1,0⟩],[r1]⟩]):=by
  refine (ss.app (WB.of rfl fun b hb=> ?_)).app (WB.of rfl fun b hb=> ?_)
  ·rw [ju] at hb;subst hb
   exact ⟨_,rfl,(show bV [⟨0,1⟩]=true by decide),afp (by omega),sl.mono (by omega)⟩
  ·rw [ju] at hb;subst hb
   exact ⟨_,rfl,LY,xY (by omega),sr.mono (by omega)⟩
 have sc:=Tg (n:=n+1) (by omega) fL (by omega) hV (sL.mono (by omega)) sb hsys (fun b hb=>by
  rcases er.1 hb with hb|hb
  ·rcases er.1 hb with hb|hb
   ·exact sk b hb
   ·rw [ju] at hb;subst hb;rfl
  ·rw [ju] at hb;subst hb;rfl) hC
 have kC:C.kind=15:=by
  unfold iD at hC
  obtain ⟨_,_,hC⟩:=ar hC
  obtain ⟨_,_,hC⟩:=ar hC
  injection hC with hC;subst hC;rfl
 exact ⟨(Tc (by omega) sc).mono (by omega),rfl,C,rfl,kC⟩
end

section
variable {t g b a:Tm}
end
set_option maxRecDepth 100000

set_option maxRecDepth 20000
section
variable {hd:Tm->(Int->OS S)->OS S} {t:Tm}
abbrev tp (hd:Tm->(Int->OS S)->OS S) (y:Tm):Prop:= ∀g,hd y g=g (eO y)
theorem KQ (b:Br Tm) (l:LB):gR (b::l)=jx b.kids+gR l:=by cases b;rw [gR,AO]
end
theorem YI {kd D E:Int} (h:D<=E): ∀ {l:LB},a_ l->l.all (bR kd D)=true->l.all (bR kd E)=true:=by
 intro l
 induction l with
 |nil=>intro _ _;rfl
 |cons b l ih=>
  intro ho hb
  obtain ⟨f,ks⟩:=b
  rw [a_,gM] at ho
  rw [iO,ak] at hb ⊢
  refine ⟨?_,ih ho.2 hb.2⟩
  have h1:=hb.1
  unfold bR at h1 ⊢
  simp only [ak,decide_eq_true_eq] at h1 ⊢
  exact ⟨h1.1,h1.2.1,mO ((lz ho.1.1.1).1 h1.2.1).1 h1.2.2 h⟩
theorem ajn (t:Tm):OkT t-> ∀ {V D E:Int},aE false V D t=true->D<=E->aE false (-1) E t=true:=by
 induction t using gi with
 |h kd n nm r ks sys ih1 ih2=>
  intro ht V D E h hDE
  rw [OkT] at ht
  obtain ⟨o1,o2,o3,o4,o5,o6,o7⟩:=ht.1
  have hk: ∀ {l:LT} {i:Nat},(∀x∈l,OkT x-> ∀ {V D E:Int},aE false V D x=true->D<=E->aE false (-1) E x=true)->aU l->bO false V D kd i l=true->bO false (-1) E kd i l=true:=by
   intro l
   induction l with
   |nil=>intro i _ _ _;rw [bO]
   |cons t l ih=>
    intro i h hl ha
    rw [aU] at hl
    rw [bO,ak] at ha ⊢
    rw [zk]
    exact ⟨h t (by simp) hl.1 ha.1 (by omega),ih (fun x hx=>h x (by simp [hx])) hl.2 ha.2⟩
  have hm: ∀ {l:LT},(∀x∈l,OkT x-> ∀ {V D E:Int},aE false V D x=true->D<=E->aE false (-1) E x=true)->aU l->cQ false V D kd l=true->cQ false (-1) E kd l=true:=by
   intro l
   induction l with
   |nil=>intro _ _ _;rw [cQ]
   |cons t l ih=>
    intro h hl ha
    rw [aU] at hl
    rw [cQ,ak] at ha ⊢
    exact ⟨h t (by simp) hl.1 ha.1 (by omega),ih (fun x hx=>h x (by simp [hx])) hl.2 ha.2⟩
  have hs: ∀ {l:LB},(∀b∈l,∀x∈b.kids,OkT x-> ∀ {V D E:Int},aE false V D x=true->D<=E->aE false (-1) E x=true)->a_ l->aY false V D kd l=true->aY false (-1) E kd l=true:=by
   intro l
   induction l with
   |nil=>intro _ _ _;rw [aY]
   |cons b l ih=>
    intro h hl ha
    obtain ⟨f,ks'⟩:=b
    rw [a_,gM] at hl
    rw [aY,iQ,ak] at ha ⊢
    exact ⟨hm (l:=ks') (h ⟨f,ks'⟩ (by simp)) hl.1.2 ha.1,ih (fun b hb=>h b (by simp [hb])) hl.2 ha.2⟩
  rw [aE,ak,ak,ak] at h ⊢
  refine ⟨rfl, ?_,hk ih1 ht.2.1 h.2.2.1,hs ih2 ht.2.2 h.2.2.2⟩
  have h2:=h.2.1
  unfold dL at h2 ⊢
  simp only [ak] at h2 ⊢
  refine ⟨h2.1, ?_⟩
  have h3:=h2.2
  split
  ·rename_i c
   rw [if_pos c] at h3
   simp only [ak,decide_eq_true_eq] at h3 ⊢
   exact ⟨h3.1,h3.2.1,.inl (by omega)⟩
  ·rename_i c
   rw [if_neg c] at h3
   split
   ·rename_i c
    rw [if_pos c] at h3;exact h3
   ·rename_i c
    rw [if_neg c] at h3
    split
    ·rename_i c
     rw [if_pos c,ak] at h3
     rw [ak]
     exact ⟨h3.1,mO ((mY o4).1 h3.1) h3.2 hDE⟩
    ·rename_i c
     rw [if_neg c] at h3
     split
     ·rename_i c
      rw [if_pos c,ak] at h3
      rw [ak]
      exact ⟨h3.1,mO ((lz o4).1 h3.1).1 h3.2 hDE⟩
     ·rename_i c
      rw [if_neg c,ak] at h3
      rw [ak]
      exact ⟨YI hDE ht.2.2 h3.1,h3.2⟩
theorem abO {t:Tm} (h:In k t) {V D:Int} (hr:md t V D=0):Fm t:=by
 have hr':=hr
 unfold md at hr
 split at hr
 ·cases hr
 split at hr
 ·cases hr
 split at hr
 ·cases hr
 obtain ⟨_,_,hs⟩:=Rm hr'
 exact ⟨h.1,rM (by omega) (by omega) (ajn t h.1 (Ko t hs) (Su hs))⟩
structure MayR (k:Nat) (x t:Tm) (V D:Int) (r:Tm×Bool×Int):Prop where
 ins:In k r.1
 no:r.2.1=false->r.1=noT
 ok:r.2.1=true->r.2.2=0/\md r.1 V D=0/\r.1.kind=x.kind/\(x.kind=15->r.1.sys.map (·.face)=x.sys.map (·.face))
section
variable {hd:Tm->(Int->OS S)->OS S} {t:Tm}
end
set_option maxRecDepth 100000
theorem ab4 (hk:F3 k) {phi:LC} {g a:Tm} (fg:Fm g) (hg:g.kind=16) (fa:Fm a) (hp:RX true phi):OkT (iH phi g a).1:=by
 obtain ⟨fB,sB,lB⟩:=AM hk fg hg fa hp
 unfold iH
 dsimp only
 generalize kc g phi a=B at fB sB lB ⊢
 obtain ⟨st,a1,c0⟩:=B
 dsimp only at fB sB lB ⊢
 have gG:GN (mM c0 (aP 0 [⟨0,0⟩] g)).1:=uc fg hg nW (xX (by decide))
 generalize mM c0 (aP 0 [⟨0,0⟩] g)=G at gG ⊢
 obtain ⟨f1,hG,lG,_⟩:=CD gG
 have hws:=Kr (phi:=phi) (st:=st) (a1:=a1) (t1:=fi G.1.kids) (c:=G.2) hk fa fB f1 hp sB lB hG
 have hwl:(cM (io phi a a1 (fi G.1.kids) st) G.2 G.1.sys).1.length=G.1.sys.length:=pX
 generalize cM (io phi a a1 (fi G.1.kids) st) G.2 G.1.sys=ws at hws hwl ⊢
 have fU: ∀c,FN (mM c (bU 0 1 a1)).1:=fun c=>p6 (by omega) (by omega) fB.sm.1.ok
 obtain ⟨w1,w2⟩:=zn (F:=fun c=>mM c (bU 0 1 a1)) hp (n:=20000) (fun c=>⟨(fU c).sm.1,by have:=(fU c).sm.2;omega⟩) ws.2
 generalize dY phi (fun c=>mM c (bU 0 1 a1)) ws.2=W at w1 w2 ⊢
 have hzip: ∀q∈G.1.sys.zip ws.1,q.1∈G.1.sys/\q.2∈ws.1:=fun q hq=>⟨(List.of_mem_zip hq).1,(List.of_mem_zip hq).2⟩
 generalize hZ:cM (jj a1) W.2 (G.1.sys.zip ws.1)=Z
 have zq: ∀y∈Z.1,∃t,y.kids=[t]/\OkT t/\ah t<=299/\av y.face/\y.face.length<1073741824:=by
  rw [<-hZ]
  exact xA fun q hq c=>L8 fB.sm.1.ok (hws q.2 (hzip q hq).2).1.ok (hG q.1 (hzip q hq).1).2.2.1.ok (fj (hG q.1 (hzip q hq).1).2.2.2) c
 have zl:Z.1.length=(G.1.sys.zip ws.1).length:=by rw [<-hZ];exact pX
 have pq: ∀y∈(G.1.sys.zip ws.1).map ta,∃t,y.kids=[t]/\OkT t/\ah t<=301/\av y.face/\y.face.length<1073741824:=fun y hy=>by
  obtain ⟨q,hq,rfl⟩:=dI.1 hy
  obtain ⟨h1,h2⟩:=hws q.2 (hzip q hq).2
  have r:=fj (hG q.1 (hzip q hq).1).2.2.2
  refine ⟨_,rfl, ?_, ?_,r.1,r.2⟩
  ·unfold aF;rw [OkT,aU,aU,a_];exact ⟨⟨by unfold aR;omega,by unfold aR;omega,by decide,(fun c hc=>by cases hc),by simp,by simp,by simp⟩,⟨h1.ok,trivial⟩,trivial⟩
  ·unfold aF;rw [ah,az,az,aN];omega
 obtain ⟨o1,o2⟩:=Ea (l:=W.1++Z.1) (n:=299) fun y hy=>by
  rcases er.1 hy with hy|hy
  ·obtain ⟨t,q1,q2,q3,q4,q5⟩:=w1 y hy;exact ⟨t,q1,q2.ok,q3,q4,q5⟩
  ·exact zq y hy
 obtain ⟨o3,o4⟩:=Ea pq
 have hzl:(G.1.sys.zip ws.1).length<=10000:=by rw [List.length_zip];omega
 rw [OkT,aU,aU,OkT,aU,aU,aU]
 exact ⟨⟨by unfold aR;omega,by unfold aR;omega,by decide,(fun c hc=>by cases hc),by simp,by simp,by rw [List.length_map];omega⟩,⟨⟨⟨by unfold aR;omega,by unfold aR;omega,by decide,(fun c hc=>by cases hc),by simp,by simp,by rw [List.length_append];omega⟩,⟨f1.sm.1.ok,fB.sm.1.ok,trivial⟩,o1⟩,trivial⟩,o3⟩
theorem ab5 (hk:F3 k) {t g a:Tm} {V D:Int} (ft:Fm t) (h14:t.kind=14) (hkd:t.kids=[g,a]) (h16:g.kind=16) (hV:0<=V) (hD:0<=D/\D<=6) (hb:aZ t<=4) (hs:d5 V D t) (h0:(iH t.r g a).2=0) (hf:ck (iH t.r g a).1=0):
  Fm (iH t.r g a).1/\d5 V D (iH t.r g a).1/\(iH t.r g a).1.kind=17/\(∃z,(iH t.r g a).1.kids=[z]/\z.kind=15)/\ ∃G,dQ 0 [⟨0,0⟩] g= .ok G/\(iH t.r g a).1.sys.map (·.face)=G.sys.map (·.face):=by
 have fg:Fm g:=ft.kid (by rw [hkd];simp)
 have fa:Fm a:=ft.kid (by rw [hkd];simp)
 have hp:=ft.r14 h14
 obtain ⟨q1,q2,q3,q4⟩:=Km (Ko t hs) h14 hkd
 have b1:=ni (t:=t) (x:=g) (by rw [hkd];simp)
 have b2:=ni (t:=t) (x:=a) (by rw [hkd];simp)
 obtain ⟨s,r1,r2,r3⟩:=ab6 (n:=4) hk (by omega) fg h16 fa hp q1 q2 hD.1 hV ⟨q3,by omega⟩ ⟨q4,by omega⟩ h0
 exact ⟨⟨ab4 hk fg h16 fa hp,hf⟩,D9 _ s.1 (by have:=s.2;omega),r1,r2,r3⟩
set_option maxRecDepth 20000
section
variable {hd:Tm->(Int->OS S)->OS S} {t:Tm}
theorem adM (hk:Fu k) (J:Int->OS S) (rec1:Int->Int->OS S) {v:Int} {x:Br Tm} (hQ: ∀y∈x.kids,tp hd y) (hl:x.kids.length<1073741824):
  ∀ (r p:LT) (m:Nat) (a:Int),x.kids=p++r->r.length<m->0<=a->a+jx r<4611686018427387904->rY hd k J rec1 t v x m a (p.length:Int)=rec1 (a+jx r) (af .i64 (v+1)):=by
 intro r
 induction r with
 |nil=>
  intro p m a h hm ha hz
  obtain ⟨m,rfl,hm'⟩:=aw hm
  simp only [rY,Am,eP h,ae,jx]
  rw [dH]
 |cons y r ih=>
  intro p m a h hm ha hz
  obtain ⟨m,rfl,hm'⟩:=aw hm
  obtain ⟨e1,e2,e3,e4⟩:=bM h (by omega)
  have q2:=hQ y (by rw [h];simp)
  have:=ry y
  have:=Fz r
  rw [jx] at hz
  simp only [rY,Am,e1,al,e2,aV,aO,q2 _,e3,c5 (show-9223372036854775808<=1+eO y by omega) (by omega),c5 (show-9223372036854775808<=a+(1+eO y) by omega) (by omega)]
  rw [ih _ m _ e4 hm' (by omega) (by omega),jx,Int.add_assoc]
theorem adL (hk:Fu k) (J:Int->OS S) (hQ: ∀b∈t.sys,∀y∈b.kids,tp hd y) (ht:OkT t):
  ∀ (r p:LB) (m:Nat) (a:Int),t.sys=p++r->r.length<m->0<=a->a+gR r<4611686018427387904->oQ hd k J t m a (p.length:Int)=J (a+gR r):=by
 obtain ⟨o1,o2,o3,o4,o5,o6,o7⟩:=ht.no
 intro r
 induction r with
 |nil=>
  intro p m a h hm ha hz
  obtain ⟨m,rfl,hm'⟩:=aw hm
  simp only [oQ,v6,eP h,ae,gR]
  rw [dH]
 |cons x r ih=>
  intro p m a h hm ha hz
  obtain ⟨m,rfl,hm'⟩:=aw hm
  obtain ⟨e1,e2,e3,e4⟩:=bM h (by omega)
  have hx:x∈t.sys:=by rw [h];simp
  rw [KQ] at hz
  have hp:=Fz x.kids
  have hp2:=FA r
  have:=adM (t:=t) hk J (oQ hd k J t m) (v:=(p.length:Int)) (hQ x hx) (ht.bi hx).1.2.2 x.kids [] k a rfl (by have:=(ht.bi hx).1.2.2;have:4294967296<=k:=hk;omega) ha (by omega)
  simp only [List.length_nil] at this
  simp only [oQ,v6,e1,al,e2,aV]
  refine aq this ?_
  rw [e3,ih _ m _ e4 hm' (by omega) (by omega),KQ,Int.add_assoc]
theorem adK (hk:Fu k) (J:Int->OS S) (hQ: ∀y∈t.kids,tp hd y) (hQ': ∀b∈t.sys,∀y∈b.kids,tp hd y) (ht:OkT t):
  ∀ (r p:LT) (m:Nat) (a:Int),t.kids=p++r->r.length<m->0<=a->a+f7 t.kind p.length r+gR t.sys<4611686018427387904->uC hd k J t m (p.length:Int) a=J (a+f7 t.kind p.length r+gR t.sys):=by
 obtain ⟨o1,o2,o3,o4,o5,o6,o7⟩:=ht.no
 intro r
 induction r with
 |nil=>
  intro p m a h hm ha hz
  obtain ⟨m,rfl,hm'⟩:=aw hm
  rw [f7] at hz
  simp only [uC,vZ,eP h,ae,f7]
  have hs:=adL hk J hQ' ht t.sys [] k a rfl (by have:4294967296<=k:=hk;omega) ha (by omega)
  simp only [List.length_nil] at hs
  refine aq hs ?_
  rw [dH]
 |cons y r ih=>
  intro p m a h hm ha hz
  obtain ⟨m,rfl,hm'⟩:=aw hm
  obtain ⟨e1,e2,e3,e4⟩:=bM h (by omega)
  have q2:=hQ y (by rw [h];simp)
  have:=ry y
  have hb:=iz t.kind p.length
  have hk':=Fy t.kind r (p.length+1)
  have hs:=FA t.sys
  rw [f7] at hz
  have:=ih (p++[y]) m (a+(bL t.kind p.length+eO y)) e4 hm' (by omega) (by rw [List.length_append,List.length_singleton];omega)
  simp only [uC,vZ,e1,al,e2,aV,ap hk,mZ,aO,q2 _,e3,c5 (show-9223372036854775808<=bL t.kind p.length+eO y by omega) (by omega),c5 (show-9223372036854775808<=a+(bL t.kind p.length+eO y) by omega) (by omega)]
  rw [this,f7,List.length_append,List.length_singleton]
  exact congrArg J (by omega)
end
theorem air (t:Tm):OkT t-> ∀ {k:Nat} (J:Int->OS S),Fd k (ah t)->(aA t:Int)<1099511627776->lV k t J=J (eO t):=by
 induction t using jr with
 |h t ih1 ih2=>
  intro ht k J hk hdp
  obtain ⟨q,rfl,hq,hf⟩:=hk.pos' (h_ t)
  obtain ⟨o1,o2,o3,o4,o5,o6,o7⟩:=ht.no
  have hz:=vu t
  have hQ: ∀y∈t.kids,tp (S:=S) (lV q) y:=fun y hy g=>ih1 y hy (ht.ki hy) g (hf _ (ga hy)) (by have:=pn hy;omega)
  have hQ': ∀b∈t.sys,∀y∈b.kids,tp (S:=S) (lV q) y:=fun b hb y hy g=>ih2 b hb y hy ((ht.bi hb).2 y hy) g (hf _ (gA hb hy)) (by have:=zc hb;have:=pn hy;omega)
  have hbn:=(AP t).2
  have e:eO t=f7 t.kind 0 t.kids+gR t.sys:=by cases t;rw [eO];rfl
  have:=adK hq J hQ hQ' ht t.kids [] q 0 rfl (by have:4294967296<=q:=hq;omega) (eD 0) (by simp only [List.length_nil];omega)
  simp only [List.length_nil] at this
  simp only [lV,JE]
  refine aq this ?_
  rw [e,Int.zero_add]
set_option maxRecDepth 100000
theorem aiM (hk:F3 k) {t:Tm} (ht:In k t) (J:Bool->OS S): ∃c,BJ k t J=J c/\(c=false->aA t<=100):=by
 simp only [BJ,aO]
 obtain ⟨w,h1,h2,h3,h4⟩:=ai4 t ht.1 100 (by unfold Mo;omega) (fun r1=>J (decide (r1>100))) ht.2.1
 grind
noncomputable def oN (k:Nat) (t y l:Tm) (J:Bool->OS S):OS S:=
 ac (l.kind==4) (ac (y.kind==5) (ag (ao y.kids 0) fun x10=>J (x10.kind==14)) (J false))
  (ac (l.kind==7) (ac (y.kind==8) (ag (ao y.kids 0) fun x11=>ac (x11.kind==14) (ag (ao y.kids 1) fun x12=>J (x12.kind==14)) (J false)) (J false))
   (ac (l.kind==11) (ac (y.kind==12) (ag (ao y.kids 0) fun x13=>J (x13.kind==15)) (J false))
    (ac (l.kind==16) (J (y.kind==17))
     (ac (l.kind==3) (ag (ao t.kids 1) fun x14=>fP k y x14 fun r15=>J r15)
      (ac (l.kind==19) (ag (ao t.kids 1) fun x16=>fP k y x16 fun r17=>J r17)
       (ag (ao t.kids 0) fun x18=>J (x18.kind==23)))))))
noncomputable def yo (k:Nat) (t:Tm) (V D:Int) (J:Bool->OS S) (r5:Tm×Bool×Int):OS S:=
 ac (!(r5.2.2==0)) (ac (!r5.2.1) (fP k r5.1 noT fun r6=>J r6) (J false))
  (ac (!r5.2.1) (ac (!r5.2.1) (fP k r5.1 noT fun r7=>J r7) (J false))
   (tR k r5.1 V D fun r8=>ac (!(r8==0)) (J false) (ac (!(t.kind==14)) (J false) (ag (ao t.kids 0) fun x9=>oN k t r5.1 x9 J))))
theorem afw (hk:F3 k) {t:Tm} {V D e:Int} (J:Bool->OS S):yo k t V D J (noT,false,e)=J true:=by
 have hno: ∀g:Bool->OS S,fP k noT noT g=g true:=fun g=>I1 noT (nP hk).1 g (nP hk).2.1
 unfold yo
 dsimp only
 simp only [hno,dr,al]
 cases (!(e==0))<;>rfl
theorem afx (hk:F3 k) {t y l:Tm} {V D:Int} (h14:t.kind=14) (g0:ao t.kids 0=some l) (iy:In k y) (fy:ck y=0) (hV:0<=V/\V<9223372036854775808) (hD:0<=D/\D<=6) (sy:d5 V D y) (J:Bool->OS S):yo k t V D J (y,true,0)=oN k t y l J:=by
 unfold yo
 dsimp only
 rw [show (!((0:Int)==0))=false from rfl,ae,dT,ae,Sn iy hk (by omega) (by omega),ahV fy hV.1 hD.1 sy,show (!((0:Int)==0))=false from rfl,ae,h14,show (!((14:Int)==14))=false from rfl,ae,g0,aV]
theorem xw (q:Tm×Int):(∃e,nD q=(noT,false,e))\/q.2=0/\ck q.1=0/\nD q=(q.1,true,0):=by
 unfold nD dM
 by_cases h:q.2=0
 ·rw [if_pos h]
  by_cases h':ck q.1=0
  ·rw [if_pos h'];exact .inr ⟨h,h',rfl⟩
  ·rw [if_neg h']
   refine .inl ⟨ck q.1, ?_⟩
   dsimp only
   rw [show (ck q.1==0)=false from by simpa using h']
 ·rw [if_neg h]
  refine .inl ⟨q.2, ?_⟩
  dsimp only
  rw [show (q.2==0)=false from by simpa using h]
theorem aim (hk4:F4 k) {t:Tm} {V D:Int} (ht:In k t) (hV:aR V) (hD:aR D) (J:Bool->OS S):BI k t V D J=J true:=by
 have hk:=hk4.f3
 have hfu:4294968296<=k:=hk
 simp only [BI,ap hk.fu,aO,ajh hk,dT,ae]
 generalize hR:(fun r2:Bool=>ac r2 (J true) _)=R
 obtain ⟨c,h1,h2⟩:=aiM hk ht R
 refine h1.trans ?_
 rw [<-hR]
 cases c with
 |true=>rfl
 |false=>
 have hz:=h2 rfl
 dsimp only
 rw [ae,eJ]
 split
 ·rfl
 rename_i hD6
 rw [air t ht.1 _ ht.2.1 (by have:=ht.2.2;omega),eJ]
 split
 ·rfl
 rename_i hb4
 unfold aR at hV hD
 rw [Sn ht hk (by omega) (by omega)]
 by_cases r0:md t V D=0
 case neg=>rw [show (md t V D==0)=false from by simpa using r0];rfl
 rw [show (!(md t V D==0))=false from by simpa using r0,ae,ajb hk4 ht]
 have ft:=abO ht r0
 obtain ⟨v0,d0,hs⟩:=Rm r0
 have bt:aZ t<=4:=by have:=AP t;omega
 show yo k t V D J (Ek t)=J true
 have no:=fun e=>afw hk (t:=t) (V:=V) (D:=D) (e:=e) J
 unfold Ek
 rw [if_neg (by simp [ft.2])]
 by_cases h14:t.kind=14
 case neg=>rw [if_pos h14];exact no _
 rw [if_neg (by simp [h14])]
 obtain ⟨l,a,hkd⟩:=kJ (gh ft h14 (n:=2) rfl)
 obtain ⟨g0,g1⟩:=p9 hkd
 obtain ⟨d0',d1'⟩:=lc hkd
 have fl:Fm l:=ft.kid (by rw [hkd];simp)
 have fa:Fm a:=ft.kid (by rw [hkd];simp)
 have hp:=ft.r14 h14
 obtain ⟨p1,p2,p3,p4⟩:=Km (Ko t hs) h14 hkd
 obtain ⟨_,_,_,sca⟩:=Ss hs h14 hkd
 have b1:=ni (t:=t) (x:=l) (by rw [hkd];simp)
 have b2:=ni (t:=t) (x:=a) (by rw [hkd];simp)
 have sl:Wb 4 V (D+1) l:=⟨p3,by omega⟩
 have sa:Wb 4 V D a:=⟨p4,by omega⟩
 have yes:=fun {y:Tm} (iy:In k y) (fy:ck y=0) (sy:d5 V D y)=>afx hk (t:=t) (V:=V) (D:=D) h14 g0 iy fy ⟨v0,by omega⟩ ⟨d0,by omega⟩ sy J
 dsimp only
 rw [d0',d1']
 have self:nD (a,0)=(a,true,0):=by
  rcases xw (a,0) with ⟨e,he⟩|⟨_,_,h⟩
  ·unfold nD dM at he;rw [if_pos rfl,if_pos fa.2] at he;cases he
  ·exact h
 by_cases h3:l.kind=3
 ·rw [if_pos (.inl h3),self,yes (fa.isIn hk) fa.2 sca]
  unfold oN
  rw [h3,show ((3:Int)==4)=false from rfl,ae,show ((3:Int)==7)=false from rfl,ae,show ((3:Int)==11)=false from rfl,ae,show ((3:Int)==16)=false from rfl,ae,show ((3:Int)==3)=true from rfl,al,g1,aV]
  exact I1 a fa.ok _ (fa.fd hk)
 by_cases h19:l.kind=19
 ·rw [if_pos (.inr h19),self,yes (fa.isIn hk) fa.2 sca]
  unfold oN
  rw [h19,show ((19:Int)==4)=false from rfl,ae,show ((19:Int)==7)=false from rfl,ae,show ((19:Int)==11)=false from rfl,ae,show ((19:Int)==16)=false from rfl,ae,show ((19:Int)==3)=false from rfl,ae,show ((19:Int)==19)=true from rfl,al,g1,aV]
  exact I1 a fa.ok _ (fa.fd hk)
 rw [if_neg (fun h=>h.elim h3 h19)]
 generalize hphi:t.r=phi at hp p1 p2
 by_cases h4:l.kind=4
 ·obtain ⟨k0,k1',hb⟩:=kJ (gh fl h4 (n:=2) rfl)
  obtain ⟨e0,e1⟩:=lc hb
  rw [if_pos h4,e0,e1]
  have f0:=fl.kid (x:=k0) (by rw [hb];simp)
  have f1:=fl.kid (x:=k1') (by rw [hb];simp)
  obtain ⟨s0,s1⟩:=Te v0 (.inl h4) hb sl
  rcases xw (m8 phi k0 k1' a) with ⟨e,he⟩|⟨hc,hf,he⟩
  ·rw [he];exact no _
  rw [he]
  have iy:In k (m8 phi k0 k1' a).1:=by
   obtain ⟨x1,x2,x3,x4,x5,x6⟩:=a
   obtain ⟨ks,c,_,q2,q3⟩:=Sl (S:=Unit) (phi:=phi) hk4 hb f0 f1 fa hp (fun _=>none)
   rw [<-q2];exact q3
  obtain ⟨s,k5,z,hz1,hz2⟩:=agw (n:=4) (by omega) v0 d0 f0 f1 fa hp p1 p2 s0 s1 sa hc
  generalize (m8 phi k0 k1' a).1=y at hf iy s k5 hz1 ⊢
  rw [yes iy hf (D9 _ s.1 (by have:=s.2;omega))]
  unfold oN
  rw [h4,show ((4:Int)==4)=true from rfl,al,k5,show ((5:Int)==5)=true from rfl,al,show ao y.kids 0=some z from by rw [hz1];rfl,aV,hz2]
  rfl
 rw [if_neg h4]
 by_cases h7:l.kind=7
 ·obtain ⟨k0,k1',hb⟩:=kJ (gh fl h7 (n:=2) rfl)
  obtain ⟨e0,e1⟩:=lc hb
  rw [if_pos h7,e0,e1]
  have f0:=fl.kid (x:=k0) (by rw [hb];simp)
  have f1:=fl.kid (x:=k1') (by rw [hb];simp)
  obtain ⟨s0,s1⟩:=Te v0 (.inr h7) hb sl
  rcases xw (m9 phi k0 k1' a) with ⟨e,he⟩|⟨hc,hf,he⟩
  ·rw [he];exact no _
  rw [he]
  have iy:In k (m9 phi k0 k1' a).1:=by
   obtain ⟨x1,x2,x3,x4,x5,x6⟩:=a
   obtain ⟨ks,c,_,q2,q3⟩:=Sp (S:=Unit) (phi:=phi) hk4 hb f0 f1 fa hp (fun _=>none)
   rw [<-q2];exact q3
  obtain ⟨s,k8,z,w,hz1,hz2,hw2⟩:=ajv (n:=4) (by omega) v0 d0 f0 f1 fa hp p1 p2 s0 s1 sa hc
  generalize (m9 phi k0 k1' a).1=y at hf iy s k8 hz1 ⊢
  rw [yes iy hf (D9 _ s.1 (by have:=s.2;omega))]
  obtain ⟨gz,gw⟩:=p9 hz1
  unfold oN
  rw [h7,show ((7:Int)==4)=false from rfl,ae,show ((7:Int)==7)=true from rfl,al,k8,show ((8:Int)==8)=true from rfl,al,gz,aV,hz2,show ((14:Int)==14)=true from rfl,al,gw,aV,hw2]
  rfl
 rw [if_neg h7]
 by_cases h11:l.kind=11
 ·obtain ⟨k0,kl,kr,hb⟩:=MY (gh fl h11 (n:=3) rfl)
  have e0:l.kids.getD 0 noT=k0:=by rw [hb];rfl
  have e1:l.kids.getD 1 noT=kl:=by rw [hb];rfl
  have e2:l.kids.getD 2 noT=kr:=by rw [hb];rfl
  rw [if_pos h11,e0,e1,e2]
  have f0:=fl.kid (x:=k0) (by rw [hb];simp)
  have f1:=fl.kid (x:=kl) (by rw [hb];simp)
  have f2:=fl.kid (x:=kr) (by rw [hb];simp)
  obtain ⟨s0,s1,s2⟩:=akK v0 h11 hb sl
  rcases xw (m7 phi k0 kl kr a) with ⟨e,he⟩|⟨hc,hf,he⟩
  ·rw [he];exact no _
  rw [he]
  have iy:In k (m7 phi k0 kl kr a).1:=by
   obtain ⟨x1,x2,x3,x4,x5,x6⟩:=a
   obtain ⟨ks,c,_,q2,q3⟩:=Sk (S:=Unit) (phi:=phi) hk hb f0 f1 f2 fa hp (fun _=>none)
   rw [<-q2];exact q3
  obtain ⟨s,k12,z,hz1,hz2⟩:=agr (n:=4) (by omega) v0 d0 f0 f1 f2 fa hp p1 p2 s0 s1 s2 sa hc
  generalize (m7 phi k0 kl kr a).1=y at hf iy s k12 hz1 ⊢
  rw [yes iy hf (D9 _ s.1 (by have:=s.2;omega))]
  unfold oN
  rw [h11,show ((11:Int)==4)=false from rfl,ae,show ((11:Int)==7)=false from rfl,ae,show ((11:Int)==11)=true from rfl,al,k12,show ((12:Int)==12)=true from rfl,al,show ao y.kids 0=some z from by rw [hz1];rfl,aV,hz2]
  rfl
 rw [if_neg h11]
 subst hphi
 by_cases h23:l.kind=23
 ·rw [if_pos h23]
  have hcO:wI t=if t.kind=14/\(t.kids.getD 0 noT).kind=23/\((t.kids.getD 1 noT).kind=24\/(t.kids.getD 1 noT).kind=25\/(t.kids.getD 1 noT).kind=26\/(t.kids.getD 1 noT).kind=15) then m_ (mu t.r (t.kids.getD 0 noT) (t.kids.getD 1 noT)) else (noT,false,0):=by
   unfold wI;exact if_neg (by simp [ft.2])
  rw [hcO]
  by_cases hc:t.kind=14/\(t.kids.getD 0 noT).kind=23/\((t.kids.getD 1 noT).kind=24\/(t.kids.getD 1 noT).kind=25\/(t.kids.getD 1 noT).kind=26\/(t.kids.getD 1 noT).kind=15)
  case neg=>rw [if_neg hc];exact no _
  rw [if_pos hc]
  cases hh:mu t.r (t.kids.getD 0 noT) (t.kids.getD 1 noT) with
  |error e=>exact no _
  |ok y=>
  by_cases fy:ck y=0
  case neg=>rw [show m_ (.ok y)=(noT,false,ck y) from if_neg fy];exact no _
  rw [show m_ (.ok y)=(y,true,0) from if_pos fy]
  have sy:=(YZ hk ft h14 hc.2.1 hc.2.2 v0 ⟨d0,by omega⟩ (by omega) hs hh).1
  have iy:=(YY hk ft h14 hc.2.1 hc.2.2 hh).1
  rw [yes iy fy sy]
  unfold oN
  rw [h23,show ((23:Int)==4)=false from rfl,ae,show ((23:Int)==7)=false from rfl,ae,show ((23:Int)==11)=false from rfl,ae,show ((23:Int)==16)=false from rfl,ae,show ((23:Int)==3)=false from rfl,ae,show ((23:Int)==19)=false from rfl,ae,g0,aV,h23]
  rfl
 rw [if_neg h23]
 by_cases h16:l.kind=16
 case neg=>rw [if_neg h16];exact no _
 rw [if_pos h16]
 have hg:xK t=nD (iH t.r l a):=by
  unfold xK
  rw [if_neg (by simp [ft.2]),if_pos ⟨h14,by rw [d0'];exact h16⟩,d0',d1']
  rfl
 rw [hg]
 rcases xw (iH t.r l a) with ⟨e,he⟩|⟨hc,hf,he⟩
 ·rw [he];exact no _
 rw [he]
 obtain ⟨fm,sy,y17,_⟩:=ab5 hk ft h14 hkd h16 v0 ⟨d0,by omega⟩ bt hs hc hf
 rw [yes (fm.isIn hk) hf sy]
 unfold oN
 rw [h16,show ((16:Int)==4)=false from rfl,ae,show ((16:Int)==7)=false from rfl,ae,show ((16:Int)==11)=false from rfl,ae,show ((16:Int)==16)=true from rfl,al,y17]
 rfl
end Go.Proofs.YtgajalidbabccaaGreatDoor
namespace Go.Proofs.YtgajalidbabccaaGreatDoor
open Go PI Go.ChangeShapes Go.WideShapes Go.ChangeAt Go.RowKit
set_option maxRecDepth 100000
set_option maxHeartbeats 4000000
theorem acq {k:Nat} (hk:4296016872<=k) {H:Type} {t:Tm} {d:DataW H} (h:QT t d) (hb:Rows.uptoBulk d<=1048576):In k t:=by
 have h1:=h.1
 have h2:=Lg t
 exact ⟨h.2 (by omega),by unfold Fd;omega,by omega⟩
theorem KG {H:Type} {enc:TypeId×Value->H} {w:World} {spare:Nat->Bool} {held:Bool} {o:Obj} {N:aX} {g:Gh UU} (hN: ∀b o,¬N b o) {W:World} {base:Nat} {v:Value} {d:DataW H} {ps:List MemPlace} (hv:Value.okWide Tryz.prog W .any base 3 v) (h:DataW.Trod enc Tryz.prog w 0 spare held 3 v d ps):
  ∃n:Int,Rep (LL o) w N g v (.int .i64 n)/\aR n:=by
 obtain ⟨n,rfl⟩:=okWide_int Tryz.underlying3 hv
 obtain ⟨q,hq⟩:=h
 obtain ⟨z,hz,hi⟩:=HO hq
 obtain rfl:n=z:=by simpa [Value.cells] using hz
 exact ⟨n,.int _ _,hi⟩
theorem hrow (q:Nat) {a0 b0:Int} {c0:ByteArray} {d0:List Cl} {e0:List Tm} {f0:List (Br Tm)} {t1:Int} {t2:Int}:DG (S:=Out UU) q [.agg (hX ET.T (Tm.mk a0 b0 c0 d0 e0 f0)),.int .i64 t1,.int .i64 t2] [] some=aa q (BI q (Tm.mk a0 b0 c0 d0 e0 f0) t1 t2) fun r=>some (Out.ret (U:=UU) (.bool r) []):=by kernel_rfl
theorem aeP {j:Nat} (hF:F4 (j+1)) {t0:Tm} (h0:In (j+1) t0) {t1:Int} (h1:aR t1) {t2:Int} (h2:aR t2):DG (S:=Out UU) (j+1) [.agg (hX ET.T t0),.int .i64 t1,.int .i64 t2] [] some=some (.ret (.bool true) []):=by
 obtain ⟨a0,b0,c0,d0,e0,f0⟩:=t0
 exact (hrow (j+1)).trans ((KV (by omega) _ _).trans (aim hF h0 h1 h2 fun r=>some (Out.ret (U:=UU) (.bool r) [])))
theorem aeO {k:Nat} (hk:4296016872<=k) {o:Obj} (ho:aj o) {t0:Tm} (h0:In k t0) {t1:Int} (h1:aR t1) {t2:Int} (h2:aR t2):
  dZ (LL o) 8 [.agg (hX ET.T t0),.int .i64 t1,.int .i64 t2] [] (.ret (.bool true) []):=by
 have hF:F4 k:=by unfold F4;omega
 obtain ⟨j,rfl⟩: ∃j,k=j+1:=⟨k-1,by omega⟩
 obtain ⟨out,hout,hx⟩:=akd (S:=Out UU) o ho (j+1) [.agg (hX ET.T t0),.int .i64 t1,.int .i64 t2] [] some (.ret (.bool true) []) (aeP hF h0 h1 h2)
 injection hx with hx
 exact hx▸hout
theorem aeN (H:Type) (enc:TypeId×Value->H) (W:World) (base:Nat) (args:Array Value) (ds gs:List (DataW H)) (before:List MemPlace)
  (hval: ∀ (j:Nat) t v,Tryz.f8.params[j]? =some t->args[j]? =some v->Value.okWide Tryz.prog W .any base t v)
  (hW:DataW.Whole enc Tryz.prog Tryz.f8.params.toList Rows.transpMaySpec.vars false W args.toList ds gs before) (hL:laidMetH Tryz.prog Rows.transpMayRow.laid W) (hb:Rows.uptoBulkAll (ds++gs)<=1048576):
  Calls Tryz.prog 8 args W fun e W'=> ∃v,e= .returned v/\Rows.transpMaySpec.post enc Tryz.prog Tryz.f8 false true false false W args v W':=by
 have hW':=hW
 obtain ⟨p,q,hA0,hV,rfl,hfz,hnd⟩:=hW
 have hA:DataW.TrodAll enc Tryz.prog W 0 (fun _=>true) true Tryz.f8.params.toList args.toList ds p:=hA0
 rw [Tryz.params8] at hA hval
 obtain ⟨v0,vs0,d0,ds0,p0,q0,hargs,rfl,rfl,h0,r0⟩:=trodAll_cons hA
 obtain ⟨v1,vs1,d1,ds1,p1,q1,rfl,rfl,rfl,h1,r1⟩:=trodAll_cons r0
 obtain ⟨v2,vs2,d2,ds2,p2,q2,rfl,rfl,rfl,h2,r2⟩:=trodAll_cons r1
 obtain ⟨rfl,rfl,rfl⟩:=trodAll_nil r2
 obtain rfl:args= #[v0,v1,v2]:=by cases args;simp_all
 obtain ⟨rfl,rfl⟩:=trodVars_none hV
 obtain ⟨o,ho,hh⟩:=aj6 hL
 simp only [eZ,Rows.uptoBulkAll,Nat.add_zero] at hb
 obtain ⟨t0,e0,k0⟩:=X8 (o:=o) (g:=gB UU 0 fun _=>0) HJ h0
 obtain ⟨t1,e1,k1⟩:=KG (o:=o) (g:=gB UU 0 fun _=>0) HJ (hval 1 3 v1 rfl rfl) h1
 obtain ⟨t2,e2,k2⟩:=KG (o:=o) (g:=gB UU 0 fun _=>0) HJ (hval 2 3 v2 rfl rfl) h2
 have hk:(4296016872:Nat)<=4296016872:=eh _
 generalize hkk:(4296016872:Nat)=k at hk
 have hok:=aeO (k:=k) (by omega) ho (acq (by omega) k0 (by omega)) k1 k2
 refine (YQ hok (aca hh rfl rfl fun j p hj=> ?_)).mono ?_
 ·match j,hj with
  |0,hj=>cases hj;exact e0
  |1,hj=>cases hj;exact e1
  |2,hj=>cases hj;exact e2
  |j+3,hj=>simp at hj
 ·rintro e W' ⟨rfl,hkept⟩
  refine ⟨_,rfl,agF rfl rfl (fun t ht=> ?_) rfl hW' hkept⟩
  rw [Tryz.params8] at ht
  have ht':t=26\/t=3\/t=3:=by simpa using ht
  rcases ht' with rfl|rfl|rfl<;>exact of_decide_eq_true (by kernel_rfl)
noncomputable def Ha (os:Os):World:=
 {World.holding Tryz.prog os ⟨#[],#[],[]⟩ with heap:=(World.holding Tryz.prog os ⟨#[],#[],[]⟩).heap.modify 0 fun
   | .cells _ t frozen=> .cells (Lib.deBruijn32tab.map fun n:Nat=>Value.int .u8 n).toArray t frozen
   |o=>o}
def alj:Value:= .agg #[.int .i64 0,.int .i64 0,.string au,.slice none 0 0,.slice none 0 0,.slice none 0 0]
def zeroArgs:Array Value:= #[alj,.int .i64 0,.int .i64 0]
def alh {H:Type}:DataW H:= .agg [.lit (.int .i64 0),.lit (.int .i64 0),.lit (.string []),.nil,.nil,.nil]
theorem aeK (os:Os):laidMet Tryz.prog Rows.transpMayRow.laid ((Ha os).forCall (fun _ _=>0) ⟨#[],zeroArgs,[]⟩).memory:=
 laidMet_of_run' 8 (by kernel_rfl) (by kernel_rfl)
theorem ahI (os:Os) {H:Type} (enc:TypeId×Value->H): ∃places,DataW.whole enc Tryz.prog ((Ha os).forCall (fun _ _=>0) ⟨#[],zeroArgs,[]⟩).memory Tryz.f8.params.toList Rows.transpMaySpec.vars false zeroArgs.toList 8=some ([alh,.lit (.int .i64 0),.lit (.int .i64 0)],[],places):=
 ⟨[],by kernel_rfl⟩
theorem afb (os:Os) (started:os.Started) (H:Type) (enc:TypeId×Value->H) (F:Stop.Interp):
  ReturnsInHanded {} Tryz.checked os 8 .any ((Rows.OpenSpec.upto Rows.transpMaySpec).preRow enc Tryz.prog Tryz.f8 Rows.transpMayUptoRow.domain false Rows.transpMayUptoRow.laid) (((Rows.OpenSpec.upto Rows.transpMaySpec).at F).post enc Tryz.prog Tryz.f8 false true false false):=by
 obtain ⟨places,hx⟩:=ahI os enc
 refine returnsInHanded_of_row (C:=Tryz.checked) (s:=Rows.OpenSpec.upto Rows.transpMaySpec) own started (by kernel_rfl) Tryz.func8
  (witness_row_at (enc:=enc) (C:=Tryz.checked) false (Ha os) zeroArgs rfl (by kernel_rfl) (by kernel_rfl) (by kernel_rfl)
   (OpenSpec.preRow_of_cond 8 hx (by kernel_rfl) (fun k hk=>by cases hk;kernel_rfl) (by kernel_rfl) (aeK os))) ?_
 intro W base args ds gs before hval hW _ hcond _ hL _ _
 exact aeN H enc W base args ds gs before hval hW hL (of_decide_eq_true (hcond _ rfl))
theorem ajj:Rows.TranspMayUptoSaid:=
 OpenClaim.holds_of_cond 8 Tryz.f8 rfl rfl rfl rfl rfl rfl rfl ⟨rfl,rfl,rfl,rfl,rfl⟩ rfl rfl rfl rfl rfl (by as_aux_lemma=>kernel_rfl) Tryz.func8 acE
  (of_decide_eq_true (by as_aux_lemma=>kernel_rfl)) (by unfold Func.isWrapper;first|(rw [if_pos (by decide+kernel)];kernel_rfl)|(rw [if_neg (by decide+kernel)];exact ⟨rfl,rfl⟩))
  (fun os started H enc _ F=>by rw [OpenClaim.pre_eq_preRow];exact afb os started H enc F)
theorem plain (f:FuncId) (fn:Func) (hf:Tryz.pinned.checked.prog.funcNamed "hypercube/hypercubelaw19.TranspMay" =some f) (hfn:Tryz.pinned.checked.prog.funcs[f]? =some fn):
  true=Tryz.pinned.checked.prog.looks []/\ ∀ (j:Nat) t,fn.params[j]? =some t->Tryz.pinned.checked.prog.wantsStandIn t=false:=by
 obtain rfl:f=8:=Option.some.inj ((show Tryz.prog.funcNamed "hypercube/hypercubelaw19.TranspMay" =some 8 by kernel_rfl).symm.trans hf)|>.symm
 obtain rfl:fn=Tryz.f8:=(Option.some.inj (Tryz.func8.symm.trans hfn)).symm
 refine ⟨by kernel_rfl,fun j t ht=> ?_⟩
 rw [Tryz.params8] at ht
 have ht':t=26\/t=3\/t=3:=by simpa using Array.mem_of_getElem? ht
 rcases ht' with rfl|rfl|rfl
 ·exact (show Tryz.prog.wantsStandIn 26=false by kernel_rfl)
 ·exact (show Tryz.prog.wantsStandIn 3=false by kernel_rfl)
 ·exact (show Tryz.prog.wantsStandIn 3=false by kernel_rfl)
theorem transpMay_holds:Rows.TranspMayUptoCardSaid:=
 Claim7.holds_tied_plain_at .later [] _ _ _ _ ajj (fun _ h=>by cases h) (by as_aux_lemma=>kernel_rfl) (fun _ h=>by cases h) transpMayUpto_row_tie rfl ⟨rfl,rfl⟩ (by as_aux_lemma=>kernel_rfl) rfl plain (by as_aux_lemma=>kernel_rfl)
#print axioms transpMay_holds
end Go.Proofs.YtgajalidbabccaaGreatDoor
