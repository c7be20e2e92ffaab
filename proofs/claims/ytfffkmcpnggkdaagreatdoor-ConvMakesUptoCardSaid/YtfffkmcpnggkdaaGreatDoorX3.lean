/- Part 3 of a proof; sources: wip/. -/
import Derived.Test.YtfffkmcpnggkdaaGreatDoorX2
import Derived.Test.YtfffkmcpnggkdaaGreatDoorRows
import Derived.ProofKit
import Derived.OpenShut
import Derived.ChangeArms
import Derived.Deep.Slices
import Derived.Shelf.SlSortCmp.NoneTotal
import Derived.Ground.SlsfProg
import Derived.Test.YtfffkmcpnggkdaaGreatDoorProg
import Derived.Shelf.Spec.TrailingZeros
import Derived.RangeFuncBound
import Derived.RangeFuncLeaves
import Derived.RangeFuncOwn
import Derived.OwnWalkIn
import Derived.TacticsInMore
import Derived.LoopNIn
import Derived.LoopIn
import Derived.Maps.RangeWalk
import Derived.Maps.AppendAt
import Derived.Test.YtfffkmcpnggkdaaGreatDoorCards
import Derived.Test.YtfffkmcpnggkdaaGreatDoorTie
import Derived.WalkKit
import Derived.ReadAgain
import Derived.Deep.DeepHandedRow
import Derived.Lib.LaidTab
import Derived.KernelRfl
open Array renaming getD_eq_getD_getElem?→H5,getElem?_eq_some_iff→Hu
open Bool renaming and_eq_true→pX
open ByteArray renaming empty→oW
open Eq renaming trans→o0
open Go.IntKind renaming wrap→oa
open Int renaming toNat→zm
open List renaming append_nil→xG,getElem?_eq_getElem→zk,getElem?_eq_some_iff→Dg,length→EO,length_append→H4,length_cons→ue,length_eq_zero_iff→Iy,map_cons→Fy,mem_cons→xB,mem_map→wD,nil_append→zg,range→BT
open Nat renaming beq→qy,ble→xp,le_refl→xq,zero_add→Ej
open Option renaming bind→nW
set_option linter.unusedVariables false
set_option linter.unusedSimpArgs false
namespace Go.Proofs.YtfffkmcpnggkdaaGreatDoor
set_option maxRecDepth 100000
open Go PI
section
mutual
def au:Tm->Nat
 | .mk _ _ _ _ q sys=>1+ay q+aI sys
def ay:LT->Nat
 |[]=>0
 |t::l=>au t+ay l
def aI:LB->Nat
 |[]=>0
 |b::l=>Fs b+aI l
def Fs:Br Tm->Nat
 | .mk _ q=>ay q
end
mutual
def am:Tm->Nat
 | .mk _ _ _ _ q sys=>max (aH q) (aO sys)+1
def aH:LT->Nat
 |[]=>0
 |t::l=>max (am t) (aH l)
def aO:LB->Nat
 |[]=>0
 |b::l=>max (Ey b) (aO l)
def Ey:Br Tm->Nat
 | .mk _ q=>aH q
end
theorem kZ (b:Br Tm):Fs b=ay b.c:=by cases b;rw [Fs]
theorem pD (b:Br Tm):Ey b=aH b.c:=by cases b;rw [Ey]
theorem mB (t:Tm):1<=au t:=by cases t;rw [au];omega
theorem k_: ∀ {l:LT} {x:Tm},x∈l->au x<=ay l:=by
 intro l
 induction l<;>grind [ay]
theorem we: ∀ {l:LB} {b:Br Tm},b∈l->ay b.c<=aI l:=by
 intro l
 induction l<;>grind [aI,kZ]
theorem D0: ∀ {l:LT} {x:Tm},x∈l->am x<=aH l:=by
 intro l
 induction l<;>grind [aH]
theorem JP: ∀ {l:LB} {b:Br Tm},b∈l->aH b.c<=aO l:=by
 intro l
 induction l<;>grind [aO,pD]
theorem gq {Q:Tm->Prop} (h: ∀kd n nm r ks sys,(∀x∈ks,Q x)->(∀b∈sys,∀x∈b.c,Q x)->Q (.mk kd n nm r ks sys)) (t:Tm):Q t:=by
 have: ∀m t,au t<=m->Q t:=by
  intro m
  induction m with
  |zero=>grind [mB]
  |succ m z=>
   intro t A
   cases t with
   |mk kd n nm r ks sys=>
    rw [au] at A
    refine h _ _ _ _ _ _ (fun x q=>z x ?_) fun b hb x q=>z x ?_
    ·have:=k_ q;omega
    ·have:=we hb;have:=k_ q;omega
 exact this _ t (xq _)
def fB:List Int:=[-1,0,0,0,2,1,2,2,2,1,1,3,1,3,2,2,1,1,1,0,0,0,4,1,0,0,1,5,2]
def ct (kd:Int):Int:=if kd<0\/kd>28 then-1 else fB.getD kd.toNat 0
def Am (kd i:Int):Int:=if (i=1/\(kd=4\/kd=7))\/(i=0/\(kd=5\/kd=22\/kd=27)) then 1 else 0
def bJ (kd i:Int):Int:=if i=0/\(kd=11\/kd=12\/kd=14) then 1 else 0
def xU (kd:Int):Int:=if kd=16 then 2 else if kd=15\/kd=17\/kd=18 then 1 else 0
def av (kd:Int):Int:=if kd=15 then 1 else 0
theorem g7 (kd i:Int):0<=Am kd i/\Am kd i<=1:=by grind [Am]
theorem gr (kd i:Int):0<=bJ kd i/\bJ kd i<=1:=by grind [bJ]
theorem KZ (kd:Int):0<=av kd/\av kd<=1:=by grind [av]
def kP (c:UInt8):Bool:=(decide (97<=c.toNat)&&decide (c.toNat<=122))||(decide (65<=c.toNat)&&decide (c.toNat<=90))||decide (c.toNat=95)
def pG (c:UInt8):Bool:=decide (48<=c.toNat)&&decide (c.toNat<=57)
def q0:List UInt8->Bool
 |[]=>false
 |c::l=>kP c&&l.all fun d=>kP d||pG d
def bX (kd nP:Int) (b:Br Tm):Bool:=decide ((b.c.length:Int)=xU kd)&&(cV b.f&&dg b.f nP)
def cL (vars nP:Int):Tm->Bool
 | .mk kd n nm r q sys=>
  (decide (ct kd=q.length)&&(decide (kd=1\/n=0)&&(decide (kd=2\/nm.size=0)&&decide (xU kd=0->sys.length=0))))&&
  (if kd=1 then decide (r.length=0)&&(decide (0<=n)&&decide (vars<0\/n<vars))
   else if kd=2 then decide (r.length=0)&&q0 nm.data.toList
   else if kd=13\/kd=21\/kd=26 then xV r&&dg r nP
   else if kd=14 then cV r&&dg r nP
   else sys.all (bX kd nP)&&decide (r.length=0))
def cQ (vars v:Int):Int:=if vars<0 then vars else vars+v
mutual
def rf (bd:Bool) (vars nP:Int):Tm->Bool
 | .mk kd n nm r q sys=> !(bd&&decide (nP>24))&&(cL vars nP (.mk kd n nm r q sys)&&(bO bd vars nP kd 0 q&&ck bd vars nP kd sys))
def bO (bd:Bool) (vars nP kd:Int) (i:Nat):LT->Bool
 |[]=>true
 |t::l=>rf bd (cQ vars (Am kd i)) (nP+bJ kd i) t&&bO bd vars nP kd (i+1) l
def ck (bd:Bool) (vars nP kd:Int):LB->Bool
 |[]=>true
 |b::l=>jT bd vars nP kd b&&ck bd vars nP kd l
def jT (bd:Bool) (vars nP kd:Int):Br Tm->Bool
 | .mk _ q=>ca bd vars nP kd q
def ca (bd:Bool) (vars nP kd:Int):LT->Bool
 |[]=>true
 |t::l=>rf bd vars (nP+av kd) t&&ca bd vars nP kd l
end
def bw (t:Tm):Int:=if am t>200 then 62 else if au t>20000 then 221 else if rf false (-1) 24 t then 0 else 100
mutual
def pf:Tm->Prop
 | .mk kd n nm r q sys=>(aG kd/\aG n/\nm.size<1073741824/\aq r/\r.length<1073741824/\q.length<1073741824/\sys.length<1073741824)/\aZ q/\ba sys
def aZ:LT->Prop
 |[]=>True
 |t::l=>pf t/\aZ l
def ba:LB->Prop
 |[]=>True
 |b::l=>Fa b/\ba l
def Fa:Br Tm->Prop
 | .mk f q=>(aq f/\f.length<1073741824/\q.length<1073741824)/\aZ q
end
theorem vf: ∀ {l:LT},aZ l↔ ∀t∈l,pf t:=by
 intro l
 induction l<;>grind [aZ]
theorem oh {b:Br Tm}:Fa b↔(aq b.f/\b.f.length<1073741824/\b.c.length<1073741824)/\ ∀t∈b.c,pf t:=by
 cases b;rw [Fa,vf]
theorem NR: ∀ {l:LB},ba l↔ ∀b∈l,(aq b.f/\b.f.length<1073741824/\b.c.length<1073741824)/\ ∀t∈b.c,pf t:=by
 intro l
 induction l<;>grind [ba,oh]
theorem pf.node {kd n nm r ks sys} (h:pf (.mk kd n nm r ks sys)):aG kd/\aG n/\nm.size<1073741824/\aq r/\r.length<1073741824/\ks.length<1073741824/\sys.length<1073741824:=by grind [pf]
theorem pf.bV {kd n nm r ks sys x} (h:pf (.mk kd n nm r ks sys)) (q:x∈ks):pf x:=by grind [pf,vf]
theorem pf.br {kd n nm r ks sys b} (h:pf (.mk kd n nm r ks sys)) (hb:b∈sys):(aq b.f/\b.f.length<1073741824/\b.c.length<1073741824)/\ ∀t∈b.c,pf t:=by grind [pf,NR]
theorem Zt {bd:Bool} {vars nP kd:Int}: ∀ {l:LT},ca bd vars nP kd l=l.all (rf bd vars (nP+av kd)):=by
 intro l
 induction l<;>grind [ca]
theorem wH {bd:Bool} {vars nP kd:Int}: ∀ {l:LB},ck bd vars nP kd l=l.all fun b=>b.c.all (rf bd vars (nP+av kd)):=by
 intro l
 induction l with
 |nil=>rfl
 |cons b l q=>cases b;simp_all [ck,jT,Zt]
section
variable {H:Type} {enc:TypeId×Value->H} {w:World} {base:Nat} {spare:Nat->Bool} {held:Bool} {o:Obj} {N:aN} {g:Gh UU}
noncomputable abbrev jG (enc:TypeId×Value->H) (w:World) (base:Nat) (spare:Nat->Bool) (held:Bool):=DataW.trod enc Tryz.prog w base spare held
def oM (o:Obj) (w:World) (N:aN) (g:Gh UU) (e:ET) (x:EL e) (cs:List Value):Prop:= ∀ (k:Nat) (p:PU),(Ah e x)[k]? =some p-> ∃v,cs[k]? =some v/\po (LL o) w N g v p
theorem Dr {l:List (DataW H)}:l.length<=Rows.uptoBulkAll l:=by
 induction l with
 |nil=>simp [Rows.uptoBulkAll]
 |cons x r q=>
  have:1<=Rows.uptoBulk x:=by
   cases x with
   |lit l=>cases l<;>simp [Rows.uptoBulk]
   |_=>simp [Rows.uptoBulk]
  simp only [Rows.uptoBulkAll,ue];omega
theorem build {α β:Type} {R:Nat->β->α->Prop}: ∀ (elems:List β) (s:Nat),(∀i d,elems[i]? =some d-> ∃x,R (s+i) d x)-> ∃l:List α,l.length=elems.length/\ ∀i d,elems[i]? =some d-> ∃x,l[i]? =some x/\R (s+i) d x:=by
 intro elems
 induction elems with
 |nil=>intro s h;exact ⟨[],rfl,fun i d h=>by simp at h⟩
 |cons d r B=>
  intro s h
  obtain ⟨x,q⟩:=h 0 d rfl
  obtain ⟨l,hl,z⟩:=B (s+1) fun i A hd=>by
   obtain ⟨x,q⟩:=h (i+1) A (by simpa using hd)
   exact ⟨x,by rw [show s+1+i=s+(i+1) by omega];exact q⟩
  refine ⟨x::l,by simp [hl],fun i A hd=> ?_⟩
  cases i with
  |zero=>injection hd with hd;subst hd;exact ⟨x,rfl,q⟩
  |succ i=>
   obtain ⟨y,E,z⟩:=z i A (by simpa using hd)
   exact ⟨y,by simpa using E,by rw [show s+(i+1)=s+1+i by omega];exact z⟩
theorem FW (hN: ∀b o,¬N b o) {e:ET} {tS tE:TypeId} (ht:Tryz.prog.underlying tS=some (.slice tE)) (hc:Tryz.prog.cellsOf tE=pQ e) {Q:EL e->DataW H->Prop} {n:Nat} {cs:List Value} {d:DataW H} {pl:List MemPlace}
  (J: ∀ (cs:List Value) (d:DataW H) (pl:List MemPlace),jG enc w base spare held n tE cs=some (d,pl)-> ∃x:EL e,oM o w N g e x cs/\Q x d) (h:jG enc w base spare held (n+1) tS cs=some (d,pl)):
  ∃ (v:Value) (l:List (EL e)) (ds:List (DataW H)),cs=[v]/\po (LL o) w N g v (.sl (U:=UU) e l .none)/\l.length=ds.length/\(∀ (i:Nat) (x:EL e) (y:DataW H),l[i]? =some x->ds[i]? =some y->Q x y)/\Rows.uptoBulkAll ds+1<=Rows.uptoBulk d:=by
 rcases DataW.trod_slice ht h with ⟨rfl,z⟩|⟨a,len,cap,elems,rest,m,hm,rfl,z,hb,hl,ax,hlen,L,_,_⟩
 ·injection z with z _
  subst z
  exact ⟨_,[],[],rfl,po.sl (X:=LL o) (N:=N) (g:=g) none 0 0 e (show List (EL e) from []) .none (fun _ _=>undef) rfl (xq _) trivial (fun j x z=>by cases z) (fun j x z=>by cases z),rfl,fun i x y h=>by simp at h,by simp [Rows.uptoBulkAll,Rows.uptoBulk]⟩
 ·obtain rfl:n=m:=by omega
  injection z with z _
  subst z
  obtain ⟨l,F,M⟩:=build (R:=fun i (y:DataW H×List MemPlace) (x:EL e)=> ∃q,w.cells? base (a.add (i*Tryz.prog.cellsOf tE)) (Tryz.prog.cellsOf tE)=some q/\oM o w N g e x q/\Q x y.1) elems 0 fun i y I=>by
   have hi:i<len:=by rw [<-hlen];exact (Dg.1 I).1
   have:=L i hi
   rw [I] at this
   obtain ⟨q,h1,h2⟩:=Option.bind_eq_some_iff.1 this
   obtain ⟨x,O,T⟩:=J q y.1 y.2 h2
   exact ⟨x,q,by simpa using h1,O,T⟩
  have E: ∀ (j:Nat) (x:EL e),l[j]? =some x-> ∃ (y:DataW H×List MemPlace) (q:List Value),elems[j]? =some y/\w.cells? base (a.add (j*Tryz.prog.cellsOf tE)) (Tryz.prog.cellsOf tE)=some q/\oM o w N g e x q/\Q x y.1:=fun j x z=>by
   have hj:j<elems.length:=by rw [<-F];exact (Dg.1 z).1
   obtain ⟨x',B,q,h1,h2,W⟩:=M j _ (zk hj)
   rw [z] at B
   injection B with B
   subst B
   exact ⟨_,q,zk hj,by simpa using h1,h2,W⟩
  have A: ∀ (j:Nat) (x:EL e),l[j]? =some x-> ∀ (k:Nat) (p:PU),(Ah e x)[k]? =some p-> ∃v,w.cell? (a.add (j*(LL o).aR e+k))=some v/\po (LL o) w N g v p:=fun j x z k p hp=>by
   obtain ⟨y,q,_,h1,h2,_⟩:=E j x z
   obtain ⟨v,hv,Y⟩:=h2 k p hp
   obtain ⟨_,ad,ao⟩:=World.cells?_some h1
   have hk:k<Tryz.prog.cellsOf tE:=by rw [<-ad];exact (Dg.1 hv).1
   have:=ao k hk
   rw [hv,Go.Deep.add_add,hc] at this
   exact ⟨v,this,Y⟩
  refine ⟨_,l,elems.map (·.1),rfl,po.sl (X:=LL o) (some a) len cap e l .none (fun j k=>(w.cell? (a.add (j*(LL o).aR e+k))).getD undef) (by rw [<-hlen];exact F) hl trivial (fun j x z k p hp=> ?_) (fun j x z k p hp=> ?_),by simpa using F,fun i x y z I=> ?_,by simp [Rows.uptoBulk]⟩
  ·obtain ⟨v,hv,_⟩:=A j x z k p hp
   exact ⟨a,rfl,by simp [hv],hN _ _⟩
  ·obtain ⟨v,hv,Y⟩:=A j x z k p hp
   simp only [hv];exact Y
  ·obtain ⟨y',q,h1,_,_,W⟩:=E i x z
   have:y=y'.1:=by
    rw [List.getElem?_map,h1] at I
    injection I with I;exact I.symm
   subst this
   exact W
theorem NT {n:Nat} {cs:List Value} {d:DataW H} {pl:List MemPlace} (h:jG enc w base spare held n 3 cs=some (d,pl)): ∃z,cs=[.int .i64 z]/\aG z:=by
 obtain ⟨z,rfl,_,q⟩:=DataW.trod_int Tryz.underlying3 h
 refine ⟨z,rfl, ?_⟩
 simp [Lit.wf,IntKind.has] at q
 have h1:IntKind.i64.min= -9223372036854775808:=rfl
 have h2:IntKind.i64.max=9223372036854775807:=rfl
 unfold aG
 omega
theorem NU {n:Nat} {cs:List Value} {d:DataW H} {pl:List MemPlace} (h:jG enc w base spare held n 67 cs=some (d,pl)): ∃z,cs=[.int .u32 z]/\BD z:=by
 obtain ⟨z,rfl,_,q⟩:=DataW.trod_int Tryz.underlying67 h
 refine ⟨z,rfl, ?_⟩
 simp [Lit.wf,IntKind.has] at q
 have h1:IntKind.u32.min=0:=rfl
 have h2:IntKind.u32.max=4294967295:=rfl
 unfold BD
 omega
def QC (c:Cl) (d:DataW H):Prop:=aX c
def QT (t:Tm) (d:DataW H):Prop:=au t<=Rows.uptoBulk d/\(Rows.uptoBulk d<1073741824->pf t)
def QB (b:Br Tm) (d:DataW H):Prop:=Fs b<=Rows.uptoBulk d/\(Rows.uptoBulk d<1073741824->(aq b.f/\b.f.length<1073741824/\b.c.length<1073741824)/\ ∀t∈b.c,pf t)
theorem ahv {n:Nat} {cs:List Value} {d:DataW H} {pl:List MemPlace} (h:jG enc w base spare held n 69 cs=some (d,pl)): ∃x:EL ET.C,oM o w N g ET.C x cs/\QC (show Cl from x) d:=by
 obtain ⟨xs,m,rfl,_,hl,hlen,hf⟩:=DataW.trod_struct Tryz.underlying69 h
 have q:cs.length=2:=hl.trans (by kernel_rfl)
 match cs,q,xs,hlen with
 |[a,b],_,[F,y1],_=>
 have A:=hf 0 _ rfl
 have h1:=hf 1 _ rfl
 have z:Tryz.prog.cellsOf 67=1:=by kernel_rfl
 simp [z] at A h1
 obtain ⟨z0,B,k0⟩:=NU A
 obtain ⟨z1,E,k1⟩:=NU h1
 obtain rfl:a= .int .u32 z0:=by simpa using B
 obtain rfl:b= .int .u32 z1:=by simpa using E
 refine ⟨(⟨z0,z1⟩:Cl),fun k p hp=> ?_,⟨k0,k1⟩⟩
 match k,hp with
 |0,hp=>cases hp;exact ⟨_,rfl,.int _ _⟩
 |1,hp=>cases hp;exact ⟨_,rfl,.int _ _⟩
 |k+2,hp=>simp [Ah] at hp
theorem akx {l:List Tm} {ds:List (DataW H)} (hl:l.length=ds.length) (h: ∀ (i:Nat) (x:Tm) (y:DataW H),l[i]? =some x->ds[i]? =some y->QT x y):ay l<=Rows.uptoBulkAll ds/\(Rows.uptoBulkAll ds<1073741824-> ∀t∈l,pf t):=by
 induction l generalizing ds with
 |nil=>rw [ay];exact ⟨Nat.zero_le _,fun _ t q=>by cases q⟩
 |cons t l z=>
  cases ds with
  |nil=>cases hl
  |cons d ds=>
   obtain ⟨h1,h2⟩:=h 0 t d rfl rfl
   obtain ⟨i1,i2⟩:=z (ds:=ds) (by simpa using hl) fun i x y A B=>h (i+1) x y (by simpa using A) (by simpa using B)
   rw [ay,Rows.uptoBulkAll]
   refine ⟨by omega,fun hb u hu=> ?_⟩
   rcases xB.1 hu with rfl|hu
   ·exact h2 (by omega)
   ·exact i2 (by omega) u hu
theorem aky {l:List (Br Tm)} {ds:List (DataW H)} (hl:l.length=ds.length) (h: ∀ (i:Nat) (x:Br Tm) (y:DataW H),l[i]? =some x->ds[i]? =some y->QB x y):aI l<=Rows.uptoBulkAll ds/\(Rows.uptoBulkAll ds<1073741824->ba l):=by
 induction l generalizing ds with
 |nil=>rw [aI,ba];exact ⟨Nat.zero_le _,fun _=>trivial⟩
 |cons t l q=>
  cases ds with
  |nil=>cases hl
  |cons d ds=>
   obtain ⟨h1,h2⟩:=h 0 t d rfl rfl
   obtain ⟨i1,i2⟩:=q (ds:=ds) (by simpa using hl) fun i x y z A=>h (i+1) x y (by simpa using z) (by simpa using A)
   rw [aI,Rows.uptoBulkAll,ba,oh]
   exact ⟨by omega,fun hb=>⟨h2 (by omega),i2 (by omega)⟩⟩
theorem NS (B: ∀b o,¬N b o) {n:Nat} {cs:List Value} {d:DataW H} {pl:List MemPlace} (h:jG enc w base spare held n 23 cs=some (d,pl)):
  ∃ (v:Value) (l:List Cl),cs=[v]/\po (LL o) w N g v (bZ l .none)/\aq l/\l.length+1<=Rows.uptoBulk d:=by
 cases n with
 |zero=>cases h
 |succ n=>
  obtain ⟨v,l,q,rfl,E,hl,F,hb⟩:=FW (e:=ET.C) (Q:=fun x d=>QC (show Cl from x) d) B Tryz.underlying23 (by kernel_rfl) (fun cs d pl h=>ahv h) h
  refine ⟨v,l,rfl,E,fun c hc=> ?_, ?_⟩
  ·obtain ⟨i,A⟩:=List.getElem?_of_mem hc
   have z:i<q.length:=by rw [<-hl];exact (Dg.1 A).1
   exact F i c _ A (zk z)
  ·have:=Dr (l:=q)
   have I: @EO Cl l=q.length:=hl
   omega
theorem ahu (I: ∀b o,¬N b o): ∀ (n:Nat),
  (∀ (cs:List Value) (d:DataW H) (pl:List MemPlace),jG enc w base spare held n 27 cs=some (d,pl)-> ∃x:EL ET.T,oM o w N g ET.T x cs/\QT (show Tm from x) d)/\
  (∀ (cs:List Value) (d:DataW H) (pl:List MemPlace),jG enc w base spare held n 62 cs=some (d,pl)-> ∃x:EL ET.B,oM o w N g ET.B x cs/\QB (show Br Tm from x) d)/\
  (∀ (cs:List Value) (d:DataW H) (pl:List MemPlace),jG enc w base spare held n 24 cs=some (d,pl)-> ∃ (v:Value) (l:List Tm),cs=[v]/\po (LL o) w N g v (dO l .none)/\ay l+1<=Rows.uptoBulk d/\l.length+1<=Rows.uptoBulk d/\(Rows.uptoBulk d<1073741824-> ∀t∈l,pf t))/\
  (∀ (cs:List Value) (d:DataW H) (pl:List MemPlace),jG enc w base spare held n 25 cs=some (d,pl)-> ∃ (v:Value) (l:List (Br Tm)),cs=[v]/\po (LL o) w N g v (dN l .none)/\aI l+1<=Rows.uptoBulk d/\l.length+1<=Rows.uptoBulk d/\(Rows.uptoBulk d<1073741824->ba l)):=by
 intro n
 induction n with
 |zero=>exact ⟨fun cs d pl h=>(by cases h),fun cs d pl h=>(by cases h),fun cs d pl h=>(by cases h),fun cs d pl h=>(by cases h)⟩
 |succ n ih=>
 obtain ⟨iT,iB,iK,iS⟩:=ih
 have c3:Tryz.prog.cellsOf 3=1:=by kernel_rfl
 have c9:Tryz.prog.cellsOf 9=1:=by kernel_rfl
 have z:Tryz.prog.cellsOf 23=1:=by kernel_rfl
 have A:Tryz.prog.cellsOf 24=1:=by kernel_rfl
 have M:Tryz.prog.cellsOf 25=1:=by kernel_rfl
 refine ⟨fun cs d pl h=> ?_,fun cs d pl h=> ?_,fun cs d pl h=> ?_,fun cs d pl h=> ?_⟩
 ·obtain ⟨xs,m,hm,q,hl,hlen,hf⟩:=DataW.trod_struct Tryz.underlying27 h
  obtain rfl:n=m:=by omega
  injection q with q _
  subst q
  have O:cs.length=6:=hl.trans (by kernel_rfl)
  match cs,O,xs,hlen with
  |[a0,a1,a2,a3,a4,a5],_,[y0,y1,y2,y3,y4,y5],_=>
  have E:=hf 0 _ rfl
  have h1:=hf 1 _ rfl
  have h2:=hf 2 _ rfl
  have h3:=hf 3 _ rfl
  have h4:=hf 4 _ rfl
  have h5:=hf 5 _ rfl
  simp [c3,c9,z,A,M] at E h1 h2 h3 h4 h5
  obtain ⟨z0,e0,k0⟩:=NT E
  obtain ⟨z1,e1,k1⟩:=NT h1
  obtain ⟨s,e2,k2,_⟩:=DataW.trod_string Tryz.underlying9 h2
  obtain ⟨v3,J,W,Y,k3,m3⟩:=NS (o:=o) (g:=g) I h3
  obtain ⟨v4,L,e4,r4,k4,m4,q4⟩:=iK _ _ _ h4
  obtain ⟨v5,l5,e5,r5,k5,m5,q5⟩:=iS _ _ _ h5
  obtain rfl:a0= .int .i64 z0:=by simpa using e0
  obtain rfl:a1= .int .i64 z1:=by simpa using e1
  obtain rfl:a2= .string s:=by simpa using e2
  obtain rfl:a3=v3:=by simpa using W
  obtain rfl:a4=v4:=by simpa using e4
  obtain rfl:a5=v5:=by simpa using e5
  have hs:s.size<Rows.uptoBulk y2.1:=by
   rw [k2]
   simp [Rows.uptoBulk]
  refine ⟨Tm.mk z0 z1 s J L l5,fun k p hp=> ?_, ?_,fun hb=> ?_⟩
  ·match k,hp with
   |0,hp=>cases hp;exact ⟨_,rfl,.int _ _⟩
   |1,hp=>cases hp;exact ⟨_,rfl,.int _ _⟩
   |2,hp=>cases hp;exact ⟨_,rfl,.str _⟩
   |3,hp=>cases hp;exact ⟨_,rfl,Y⟩
   |4,hp=>cases hp;exact ⟨_,rfl,r4⟩
   |5,hp=>cases hp;exact ⟨_,rfl,r5⟩
   |k+6,hp=>simp [Ah] at hp
  ·show au _<=_
   rw [au]
   simp only [Fy,List.map_nil,Rows.uptoBulk,Rows.uptoBulkAll]
   omega
  ·simp only [Fy,List.map_nil,Rows.uptoBulk,Rows.uptoBulkAll] at hb
   show pf _
   rw [pf,vf]
   exact ⟨⟨k0,k1,by omega,k3,by omega,by omega,by omega⟩,q4 (by omega),q5 (by omega)⟩
 ·obtain ⟨xs,m,hm,q,hl,hlen,hf⟩:=DataW.trod_struct Tryz.underlying62 h
  obtain rfl:n=m:=by omega
  injection q with q _
  subst q
  have ad:cs.length=2:=hl.trans (by kernel_rfl)
  match cs,ad,xs,hlen with
  |[a0,a1],_,[y0,y1],_=>
  have E:=hf 0 _ rfl
  have h1:=hf 1 _ rfl
  simp [z,A] at E h1
  obtain ⟨v3,J,W,Y,k3,m3⟩:=NS (o:=o) (g:=g) I E
  obtain ⟨v4,L,e4,r4,k4,m4,q4⟩:=iK _ _ _ h1
  obtain rfl:a0=v3:=by simpa using W
  obtain rfl:a1=v4:=by simpa using e4
  refine ⟨Br.mk J L,fun k p hp=> ?_, ?_,fun hb=> ?_⟩
  ·match k,hp with
   |0,hp=>cases hp;exact ⟨_,rfl,Y⟩
   |1,hp=>cases hp;exact ⟨_,rfl,r4⟩
   |k+2,hp=>simp [Ah] at hp
  ·show Fs _<=_
   rw [Fs]
   simp only [Fy,List.map_nil,Rows.uptoBulk,Rows.uptoBulkAll]
   omega
  ·simp only [Fy,List.map_nil,Rows.uptoBulk,Rows.uptoBulkAll] at hb
   exact ⟨⟨k3,by show J.length<_;omega,by show L.length<_;omega⟩,q4 (by omega)⟩
 ·obtain ⟨v,l,F,rfl,hr,hl,hq,hb⟩:=FW (e:=ET.T) (Q:=fun x d=>QT (show Tm from x) d) I Tryz.underlying24 (by kernel_rfl) iT h
  obtain ⟨s1,s2⟩:=akx (l:=l) hl hq
  have:=Dr (l:=F)
  have ao: @EO Tm l=F.length:=hl
  exact ⟨v,l,rfl,hr,by omega,by omega,fun hd=>s2 (by omega)⟩
 ·obtain ⟨v,l,F,rfl,hr,hl,hq,hb⟩:=FW (e:=ET.B) (Q:=fun x d=>QB (show Br Tm from x) d) I Tryz.underlying25 (by kernel_rfl) iB h
  obtain ⟨s1,s2⟩:=aky (l:=l) hl hq
  have:=Dr (l:=F)
  have ao: @EO (Br Tm) l=F.length:=hl
  exact ⟨v,l,rfl,hr,by omega,by omega,fun hd=>s2 (by omega)⟩
end
end
end Go.Proofs.YtfffkmcpnggkdaaGreatDoor
namespace Go.Proofs
open Go.Shelf
def Tryz.sortCl_ren:Go.Shelf.Ren:=⟨fun|6=>211|15=>236|14=>235|28=>260|29=>261|20=>252|21=>253|22=>254|23=>255|24=>256|25=>257|26=>258|27=>259|46=>267|47=>268|48=>269|49=>270|50=>271|57=>272|n=>n,fun|22=>23|24=>69|25=>202|3=>3|39=>169|0=>0|53=>67|55=>34|4=>4|46=>226|45=>225|50=>230|5=>5|9=>9|66=>235|70=>239|76=>241|77=>134|n=>n,fun|n=>n⟩
theorem Tryz.sortCl:Go.Proofs.SlLaysF0.n6 Tryz.prog Tryz.sortCl_ren:={
 mixed:=by kernel_rfl
 f6:=⟨Tryz.f211.name,by decide,Tryz.func211.trans (congrArg some (by kernel_rfl))⟩
 f14:=⟨Tryz.f235.name,by decide,Tryz.func235.trans (congrArg some (by kernel_rfl))⟩
 f15:=Tryz.func236.trans (congrArg some (by kernel_rfl))
 f20:=⟨Tryz.f252.name,by decide,Tryz.func252.trans (congrArg some (by kernel_rfl))⟩
 f21:=⟨Tryz.f253.name,by decide,Tryz.func253.trans (congrArg some (by kernel_rfl))⟩
 f22:=⟨Tryz.f254.name,by decide,Tryz.func254.trans (congrArg some (by kernel_rfl))⟩
 f23:=⟨Tryz.f255.name,by decide,Tryz.func255.trans (congrArg some (by kernel_rfl))⟩
 f24:=⟨Tryz.f256.name,by decide,Tryz.func256.trans (congrArg some (by kernel_rfl))⟩
 f25:=⟨Tryz.f257.name,by decide,Tryz.func257.trans (congrArg some (by kernel_rfl))⟩
 f26:=⟨Tryz.f258.name,by decide,Tryz.func258.trans (congrArg some (by kernel_rfl))⟩
 f27:=⟨Tryz.f259.name,by decide,Tryz.func259.trans (congrArg some (by kernel_rfl))⟩
 f28:=Tryz.func260.trans (congrArg some (by kernel_rfl))
 f29:=Tryz.func261.trans (congrArg some (by kernel_rfl))
 f46:=⟨Tryz.f267.name,by decide,Tryz.func267.trans (congrArg some (by kernel_rfl))⟩
 f47:=Tryz.func268.trans (congrArg some (by kernel_rfl))
 f48:=Tryz.func269.trans (congrArg some (by kernel_rfl))
 f49:=⟨Tryz.f270.name,by decide,Tryz.func270.trans (congrArg some (by kernel_rfl))⟩
 f50:=⟨Tryz.f271.name,by decide,Tryz.func271.trans (congrArg some (by kernel_rfl))⟩
 f57:=⟨Tryz.f272.name,by decide,Tryz.func272.trans (congrArg some (by kernel_rfl))⟩
 t0:=Tryz.underlying0
 a0:=Tryz.isAgg0
 z0:=Tryz.sizeOf0
 v0:=Tryz.zeroValue0
 t3:=Tryz.underlying3
 a3:=Tryz.isAgg3
 z3:=Tryz.sizeOf3
 v3:=Tryz.zeroValue3
 t4:=Tryz.underlying4
 a4:=Tryz.isAgg4
 z4:=Tryz.sizeOf4
 v4:=Tryz.zeroValue4
 t5:=Tryz.underlying5
 a5:=Tryz.isAgg5
 z5:=Tryz.sizeOf5
 v5:=Tryz.zeroValue5
 t9:=Tryz.underlying9
 a9:=Tryz.isAgg9
 z9:=Tryz.sizeOf9
 v9:=Tryz.zeroValue9
 t22:=Tryz.underlying23
 a22:=Tryz.isAgg23
 z22:=Tryz.sizeOf23
 v22:=Tryz.zeroValue23
 t25:=Tryz.underlying202
 a25:=Tryz.isAgg202
 z25:=Tryz.sizeOf202
 v25:=Tryz.zeroValue202
 t39:=Tryz.underlying169
 a39:=Tryz.isAgg169
 z39:=Tryz.sizeOf169
 v39:=Tryz.zeroValue169
 t45:=Tryz.underlying225
 a45:=Tryz.isAgg225
 z45:=Tryz.sizeOf225
 v45:=Tryz.zeroValue225
 t46:=Tryz.underlying226
 a46:=Tryz.isAgg226
 z46:=Tryz.sizeOf226
 v46:=Tryz.zeroValue226
 t50:=Tryz.underlying230
 a50:=Tryz.isAgg230
 z50:=Tryz.sizeOf230
 v50:=Tryz.zeroValue230
 t53:=Tryz.underlying67
 a53:=Tryz.isAgg67
 z53:=Tryz.sizeOf67
 v53:=Tryz.zeroValue67
 t55:=Tryz.underlying34
 a55:=Tryz.isAgg34
 z55:=Tryz.sizeOf34
 v55:=Tryz.zeroValue34
 t66:=Tryz.underlying235
 a66:=Tryz.isAgg235
 z66:=Tryz.sizeOf235
 v66:=Tryz.zeroValue235
 t70:=Tryz.underlying239
 a70:=Tryz.isAgg239
 z70:=Tryz.sizeOf239
 v70:=Tryz.zeroValue239
 t76:=Tryz.underlying241
 a76:=Tryz.isAgg241
 z76:=Tryz.sizeOf241
 v76:=Tryz.zeroValue241
 t77:=Tryz.underlying134
 a77:=Tryz.isAgg134
 z77:=Tryz.sizeOf134
 v77:=Tryz.zeroValue134}
end Go.Proofs
namespace Go.Proofs.YtfffkmcpnggkdaaGreatDoor
set_option maxRecDepth 100000
open Go PI
section
noncomputable section
def acN:Nat:=187
def acO:Nat:=79
noncomputable def G2 {S:Type}:List PU->List (py UU)->(Out UU->Option S)->Option S
 |[.sl .C q .none],[],κ=>iu q fun r=>κ (.ret (bZ r .none) [])
 |_,_,_=> .none
noncomputable def GZ {S:Type}:List PU->List (py UU)->(Out UU->Option S)->Option S
 |[.int .u32 q],[],κ=>vz q fun r=>κ (.ret (la r .none) [])
 |_,_,_=> .none
end
end
end Go.Proofs.YtfffkmcpnggkdaaGreatDoor
namespace Go.Proofs
open Go.Shelf Go.RowKit
set_option maxHeartbeats 1000000 in
theorem Tryz.tz32_core (x k idx:Nat) (w:World) (z:((x:Int)==0)=false)
  (key:bits BinOp.and IntKind.u32 (x:Int) (-(x:Int)%4294967296)*125613361%4294967296/134217728=(idx:Int))
  (A:idx<32) (hk:k<32) (q:w.cell? ⟨0,idx,none⟩=some (.int .u8 k)):
  Calls Tryz.prog 251 #[.int .u32 x] w fun e w'=>e= .returned (.int .i64 k)/\w'=w:=by
 go_enter Tryz.func251,Tryz.ntmps251
 go_wp2_with (simp only [key])
 go_ret
 exact ⟨rfl,rfl⟩
theorem Tryz.tz32 (x:Nat) (B:x<4294967296) (E:x≠0) (w:World) (hT:TabAt 0 Lib.deBruijn32tab w):
  Calls Tryz.prog 251 #[.int .u32 x] w fun e w'=>e= .returned (.int .i64 (Lib.ctz 32 x))/\w'=w:=by
 obtain ⟨z,hk⟩:=Lib.lowest_bit 32 x E B
 obtain ⟨F,A⟩:=Lib.deBruijn32_at _ hk
 have q:=hT _ F
 rw [A] at q
 exact Tryz.tz32_core x _ _ w (by simp;omega) (tz32_key x _ B E z) F hk q
end Go.Proofs
namespace Go.Proofs.YtfffkmcpnggkdaaGreatDoor
set_option maxRecDepth 100000
open Go PI
section
open Go Go.Shelf Go.RowKit
attribute [local go_sem] Oper.semAt_some
def eL (s:Nat):List Nat:=(BT 24).filter s.testBit
theorem ak1 (s:Nat) (F:s≠0) (h:s<16777216):eL s=Lib.ctz 32 s::eL (s&&&(s-1))/\s&&&(s-1)<s:=by
 obtain ⟨m,B,hk⟩:=Lib.ctzFrom_spec 32 s (by omega) (by omega)
 have e:Lib.ctz 32 s=Lib.ctzFrom 32 s:=by simp [Lib.ctz,F]
 rw [e]
 generalize Lib.ctzFrom 32 s=t at B hk
 have hs:s=2^(t+1)*m+2^t:=by
  rw [B,Nat.mul_add,Nat.mul_one,Nat.pow_succ,<-Nat.mul_assoc]
 have hp:0<2^t:=Nat.two_pow_pos t
 have I:2^(t+1)=2^t*2:=Nat.pow_succ 2 t
 have z:s-1=2^(t+1)*m+(2^t-1):=by omega
 have q: ∀j,s.testBit j=if j<t+1 then decide (t=j) else m.testBit (j-(t+1)):=fun j=>by
  rw [hs,Nat.testBit_two_pow_mul_add _ (by omega),Nat.testBit_two_pow]
 have J: ∀j,(s-1).testBit j=if j<t+1 then decide (j<t) else m.testBit (j-(t+1)):=fun j=>by
  rw [z,Nat.testBit_two_pow_mul_add _ (by omega),Nat.testBit_two_pow_sub_one]
 have x: ∀j,(s&&&(s-1)).testBit j=if j<t+1 then false else m.testBit (j-(t+1)):=fun j=>by
  rw [Nat.testBit_and,q,J]
  by_cases hj:j<t+1
  ·rw [if_pos hj,if_pos hj,if_pos hj]
   by_cases A:t=j
   ·rw [decide_eq_true A,decide_eq_false (by omega)];rfl
   ·rw [decide_eq_false A];rfl
  ·rw [if_neg hj,if_neg hj,if_neg hj,Bool.and_self]
 have O:s&&&(s-1)=2^(t+1)*m:=by
  apply Nat.eq_of_testBit_eq
  intro j
  rw [x]
  have:2^(t+1)*m=2^(t+1)*m+0:=rfl
  rw [this,Nat.testBit_two_pow_mul_add _ (by omega),Nat.zero_testBit]
 have A:t<24:=by
  apply Nat.lt_of_not_le
  intro hle
  have:2^24<=2^t:=Nat.pow_le_pow_right (by decide) hle
  have L:(2:Nat)^24=16777216:=by decide
  omega
 refine ⟨?_,by omega⟩
 unfold eL
 have M:BT 24=BT t++(t::(BT (23-t)).map (fun j=>t+1+j)):=by
  apply List.ext_getElem
  ·simp;omega
  ·intro i h1 h2
   simp only [List.getElem_range]
   by_cases E:i<t
   ·rw [List.getElem_append_left (by simpa using E)];simp
   ·rw [List.getElem_append_right (by simpa using E)]
    simp only [List.length_range]
    by_cases he:i=t
    ·subst he;simp
    ·obtain ⟨d,rfl⟩: ∃d,i=t+1+d:=⟨i-t-1,by omega⟩
     simp only [show t+1+d-t=d+1 by omega,List.getElem_cons_succ,List.getElem_map,List.getElem_range]
 rw [M,List.filter_append,List.filter_append]
 have f1:(BT t).filter s.testBit=[]:=List.filter_eq_nil_iff.2 fun j hj=>by
  have:=List.mem_range.1 hj
  rw [q,if_pos (by omega),decide_eq_false (by omega)];decide
 have f2:(BT t).filter (s&&&(s-1)).testBit=[]:=List.filter_eq_nil_iff.2 fun j hj=>by
  have:=List.mem_range.1 hj
  rw [x,if_pos (by omega)];decide
 rw [f1,f2,zg,zg,List.filter_cons_of_pos (by rw [q,if_pos (by omega)];simp),List.filter_cons_of_neg (by rw [x,if_pos (by omega)];decide)]
 congr 1
 apply List.filter_congr
 intro j hj
 obtain ⟨d,_,rfl⟩:=wD.1 hj
 rw [q,x,if_neg (by omega),if_neg (by omega)]
theorem akZ:eL 0=[]:=List.filter_eq_nil_iff.2 fun j _=>by rw [Nat.zero_testBit];decide
theorem ak0 (s:Nat):(eL s).length<=24:=by
 have:=List.length_filter_le s.testBit (BT 24)
 simpa [eL] using this
theorem adi (s:Int) (w:World):Calls Tryz.prog 231 #[.int .u32 s] w fun e w'=>e= .returned (.func (.func 250) #[] #[.pointer (some ⟨w.heap.size,0,none⟩)])/\w'=w.alloc (.cells #[.int .u32 s] 67):=by
 go_enter Tryz.func231,Tryz.ntmps231
 go_wp2
 go_ret
 exact ⟨rfl,rfl⟩
def Fo:Code:=(Code.region 3 #[{dst:=some 4,op:=Op.assign (Operand.tmp 7),type:=3,pos:= "mask.go:57",after:= #[],guard:=none}] false)
def Fp:Code:=(Code.block 1 (Code.region 4 #[{dst:=some 8,op:=Op.load 157 (Operand.tmp 3),type:=157,pos:= "mask.go:58",after:= #[],guard:=none},{dst:=some 9,op:=Op.move (Operand.tmp 4),type:=3,pos:= "mask.go:58",after:= #[],guard:=none},{dst:=some 10,op:=Op.buildSlice 157 1 #[(0,Operand.tmp 9)],type:=157,pos:= "mask.go:58",after:= #[{on:=1,ground:=Ground.data}],guard:=none},{dst:=some 11,op:=Op.call {callee:=Callee.builtin Builtin.append,args:= #[Operand.tmp 8,Operand.tmp 10],argTypes:= #[157,157]},type:=157,pos:= "mask.go:58",after:= #[{on:=0,ground:=Ground.data},{on:=2,ground:=Ground.data}],guard:=none},{dst:=none,op:=Op.store 157 (Operand.tmp 3) (Operand.tmp 11),type:=0,pos:= "mask.go:58",after:= #[{on:=3,ground:=Ground.data},{on:=3,ground:=Ground.chain},{on:=0,ground:=Ground.phase},{on:=1,ground:=Ground.phase},{on:=2,ground:=Ground.phase},{on:=3,ground:=Ground.phase}],guard:=none}] false))
def Mr (fn:FuncId) (s0:Int) (fv:Value) (Bo D:Nat) (st:LoopState) (q:Option Code):Loop:=
 {state:=st,pending:=q,fn,tmps:= #[.int .u32 s0,undef,.slice none 0 0,.pointer (some ⟨Bo,0,none⟩),undef,.int .u32 s0,fv,undef,undef,undef,undef,undef,undef],params:= #[7],assign:=Fo,body:=Fp,defers:=D}
def KX (x:Nat):Value:= .int .i64 (x:Int)
structure Ko (w0:World) (fn:FuncId) (s0:Int) (fv:Value) (Bo l D:Nat) (ss:List Nat) (W:World):Prop where
 box: ∃v,W.heap[Bo]? =some (.cells #[v] 157 (0,0))/\W.ownsRow w0.heap.size 3 1 v ss.length (ss.map KX)
 L:W.heap[l]? =some (.loop (Mr fn s0 fv Bo D .ready none))
 K:W.heap[D]? =some (.deferred (some []))
 below:Below w0.heap.size w0 W
theorem rk (W:World) (l:Nat) (o:Obj):W.grownBy (W.putObj l o) (some l):=
 ⟨rfl,rfl,rfl,by simp,fun k _ hk=>World.putObj_heap_other (fun e=>hk (by rw [e]))⟩
theorem Hj (W:World) (b:Nat) (v:Value):W.grownBy (W.setCell ⟨b,0,none⟩ v) (some b):=
 ⟨rfl,rfl,rfl,(KeepsWalks.setCell W _ v).size,fun k _ hk=>Below.heap_setCell _ _ _ k (fun e=>hk (by rw [e]))⟩
theorem mr {W:World} {base:Nat} {e:TypeId} {size:Nat} {v:Value} {k:Nat} {xs:List Value} (h:W.ownsRow base e size v k xs) {j:Nat} {o:Obj} (hj:W.heap[j]? =some o) (q: ∀cur,o≠ .cells cur e (0,0)):
  v.ownBlock=none\/v.ownBlock≠some j:=by
 rcases h.2 with ⟨rfl,_⟩|⟨g,cap,cur,rfl,_,x,_⟩
 ·exact .inl rfl
 ·refine .inr fun e'=> ?_
  have:g=j:=by simpa [Value.ownBlock] using e'
  subst this;rw [x] at hj;cases hj;exact q cur rfl
theorem m6 {W:World} {B:Nat} {v:Value} {t:TypeId} (h:W.heap[B]? =some (.cells #[v] t (0,0))):W.cell? ⟨B,0,none⟩=some v/\W.frozen? ⟨B,0,none⟩=false:=by
 constructor<;>simp [World.cell?,World.frozen?,h]
theorem Dm {W:World} {B:Nat} {v:Value} {t:TypeId} (v':Value) (h:W.heap[B]? =some (.cells #[v] t (0,0))):(W.setCell ⟨B,0,none⟩ v').heap[B]? =some (.cells #[v'] t (0,0)):=by
 obtain ⟨q,hk⟩:=Hu.1 h
 show (W.heap.modify B _)[B]? =_
 rw [Array.getElem?_eq_getElem (by rw [Array.size_modify];exact q),Array.getElem_modify_self,hk]
 rfl
theorem adk:(Tryz.prog.info? 3).map (fun i=>(i.zero,i.size,i.bytes))=some (some (.int .i64 0),1,8):=by kernel_rfl
set_option maxRecDepth 100000 in
set_option maxHeartbeats 2000000 in
theorem agB (F:Fence) (m:Nat) (w0:World) (fn:FuncId) (hfn:F.fn fn) (s0:Int) (fv:Value) (Bo Bi l D:Nat) (hBl:Bo≠l) (hDl:D≠l) (hDB:D≠Bo) (hBiBo:Bi≠Bo) (hBil:Bi≠l) (h0B:w0.heap.size<=Bo) (h0l:w0.heap.size<=l)
  (ss:List Nat) (x:Nat) (c:Value) (W:World) (h:Ko w0 fn s0 fv Bo l D ss W) (hi0:W.heap[Bi]? =some (.cells #[c] 67 (0,0))) (hlen:ss.length<24):
  YieldAt F m Tryz.prog l #[KX x] W fun e W'=>e= .returned (.bool true)/\Ko w0 fn s0 fv Bo l D (ss++[x]) W'/\W'.heap[Bi]? =some (.cells #[c] 67 (0,0)):=by
 obtain ⟨i0,hi,hz0,hz1,hz2⟩:=info_parts adk
 obtain ⟨v,hv,pA⟩:=h.box
 refine ⟨fn,#[.int .u32 s0,undef,.slice none 0 0,.pointer (some ⟨Bo,0,none⟩),undef,.int .u32 s0,fv,.int .i64 (x:Int),undef,undef,undef,undef,undef],Fo,Fp,by simpa [Mr,KX] using run_yield (P:=Tryz.prog) (args:= #[KX x]) h.L rfl,roundIn_of_wpIn hfn ?_⟩
 have hl:l<W.heap.size:=(Hu.1 h.L).1
 have hbr:=run_beginRound (P:=Tryz.prog) h.L rfl
 obtain ⟨W2,hW2⟩: ∃W2,W.putObj l (.loop {Mr fn s0 fv Bo D .ready none with state:= .busy})=W2:=⟨_,rfl⟩
 rw [hW2] at hbr
 have hg2:W.grownBy W2 (some l):=by rw [<-hW2];exact rk _ _ _
 have hv2:W2.heap[Bo]? =some (.cells #[v] 157 (0,0)):=by rw [<-hW2];exact (World.putObj_heap_other hBl).trans hv
 have hi2:W2.heap[Bi]? =some (.cells #[c] 67 (0,0)):=by rw [<-hW2];exact (World.putObj_heap_other hBil).trans hi0
 have hK2:W2.heap[D]? =some (.deferred (some [])):=by rw [<-hW2];exact (World.putObj_heap_other hDl).trans h.K
 have hL2:W2.heap[l]? =some (.loop {Mr fn s0 fv Bo D .ready none with state:= .busy}):=by rw [<-hW2];exact World.putObj_heap_same hl
 have hrow2:W2.ownsRow w0.heap.size 3 1 v ss.length (ss.map KX):=pA.kept hg2 (mr pA h.L (fun cur e=>by cases e))
 have hb2:Below w0.heap.size w0 W2:=h.below.grown hg2 h.below.size (fun k e=>by cases e;exact h0l)
 obtain ⟨hc2,hf2⟩:=m6 hv2
 have hBlt:Bo<W2.heap.size:=(Hu.1 hv2).1
 have hBilt:Bi<W2.heap.size:=(Hu.1 hi2).1
 have hl2:l<W2.heap.size:=(Hu.1 hL2).1
 have hDlt:D<W2.heap.size:=(Hu.1 hK2).1
 have ne_of: ∀ {j:Nat} {o:Obj},W2.heap[j]? =some o->(∀cur,o≠ .cells cur 3 (0,0))->some j≠v.ownBlock:=fun hj hno=>by
  rcases mr hrow2 hj hno with e|e
  ·rw [e];simp
  ·exact fun e'=>e e'.symm
 clear hW2
 have hml:24<=maxLen:=by unfold maxLen;omega
 unfold Fo
 gi_wp2_with (rw [Oper.semAt_eq _ _ _ (fun c h=>by cases h)];go_simp;try go_bits)
 unfold Fp
 gi_wp2_with (first
  |(gi_at_builtin;refine wpListIn_append_own _ rfl _ _ 157 rfl w0.heap.size 3 i0 (.int .i64 0) 1 8 Tryz.underlying157 hi hz0 hz1 hz2 rfl (by decide) _ _ _ rfl (hrow2.alloc _) ⟨W2.heap.size,0,none⟩ 1 1 [KX x] rfl rfl (cell_one_new _ _ _) (by simp [Value.oneCell',KX]) (by omega) (by omega) (by have:=hb2.size;simp;omega) ?_;intro v' w3 hown' hg3 hnil3
    have hv3:w3.heap[Bo]? =some (.cells #[v] 157 (0,0)):=(hg3.block Bo (by simp;omega) (ne_of hv2 (fun cur e=>by cases e))).trans ((Below.heap_alloc _ _ Bo hBlt).trans hv2)
    obtain ⟨hc3,hf3⟩:=m6 hv3
    obtain ⟨g',cap',cur',rfl,hbase',hgb',hr1,hr2,hr3,hr4⟩: ∃g' cap' cur',v'= .slice (some ⟨g',0,none⟩) (ss.length+1) cap'/\w0.heap.size<=g'/\w3.heap[g']? =some (.cells cur' 3 (0,0))/\ss.length+1<=cap'/\cap'<=maxLen/\cur'.size=cap'*1/\cur'.toList.take ((ss.length+1)*1)=ss.map KX++[KX x]:=by
     rcases hown'.2 with ⟨_,h0⟩|h'
     ·exact absurd h0 (by omega)
     ·exact h'
    go_frame)
  |(rw [Oper.semAt_eq _ _ _ (fun c h=>by cases h)];go_simp;try go_bits))
 have hg3':(W2.alloc (.cells #[KX x] 3)).grownBy w3 v.ownBlock:=hg3
 have hL3:w3.heap[l]? =some (.loop {Mr fn s0 fv Bo D .ready none with state:= .busy}):=(hg3'.block l (by simp;omega) (ne_of hL2 (fun cur e=>by cases e))).trans ((Below.heap_alloc _ _ l hl2).trans hL2)
 have hK3:w3.heap[D]? =some (.deferred (some [])):=(hg3'.block D (by simp;omega) (ne_of hK2 (fun cur e=>by cases e))).trans ((Below.heap_alloc _ _ D hDlt).trans hK2)
 have hi3:w3.heap[Bi]? =some (.cells #[c] 67 (0,0)):=(hg3'.block Bi (by simp;omega) (ne_of hi2 (fun cur e=>by cases e))).trans ((Below.heap_alloc _ _ Bi hBilt).trans hi2)
 obtain ⟨w4,hw4⟩: ∃w4,w3.setCell ⟨Bo,0,none⟩ (.slice (some ⟨g',0,none⟩) (ss.length+1) cap')=w4:=⟨_,rfl⟩
 rw [hw4]
 have hg4:w3.grownBy w4 (some Bo):=by rw [<-hw4];exact Hj _ _ _
 have hv4:w4.heap[Bo]? =some (.cells #[.slice (some ⟨g',0,none⟩) (ss.length+1) cap'] 157 (0,0)):=by rw [<-hw4];exact Dm _ hv3
 have hL4:w4.heap[l]? =some (.loop {Mr fn s0 fv Bo D .ready none with state:= .busy}):=(hg4.block l (Hu.1 hL3).1 (fun e=>hBl (by cases e;rfl))).trans hL3
 have hK4:w4.heap[D]? =some (.deferred (some [])):=(hg4.block D (Hu.1 hK3).1 (fun e=>hDB (by cases e;rfl))).trans hK3
 have hi4:w4.heap[Bi]? =some (.cells #[c] 67 (0,0)):=(hg4.block Bi (Hu.1 hi3).1 (fun e=>hBiBo (by cases e;rfl))).trans hi3
 have hrow4:=hown'.kept hg4 (mr hown' hv3 (fun cur e=>by cases e))
 have hl4:l<w4.heap.size:=(Hu.1 hL4).1
 have hb3:Below w0.heap.size w0 w3:=(hb2.alloc hb2.size _).grown hg3' (by have:=hb2.size;simp;omega) (fun k e=>(hrow2.lt k e).1)
 have hb4:Below w0.heap.size w0 w4:=hb3.grown hg4 hb3.size (fun k e=>by cases e;exact h0B)
 clear hw4
 refine ⟨_,_,run_endRound none hL4,rfl,⟨⟨_,(World.putObj_heap_other hBl).trans hv4, ?_⟩,World.putObj_heap_same hl4,(World.putObj_heap_other hDl).trans hK4,hb4.grown (rk _ _ _) hb4.size (fun k e=>by cases e;exact h0l)⟩,(World.putObj_heap_other hBil).trans hi4⟩
 have:=hrow4.kept (rk w4 l (.loop {{Mr fn s0 fv Bo D .ready none with state:= .busy} with state:=if (none:Option Code).isNone then .ready else .done,pending:=none})) (mr hrow4 hL4 (fun cur e=>by cases e))
 simpa using this
def Ff (Bi:Nat) (w:World):Nat:=match w.cell? ⟨Bi,0,none⟩ with
 |some v=>(intOf v).toNat
 |none=>0
theorem LI {Bi:Nat} {w:World} {n:Nat} {t:TypeId} (h:w.heap[Bi]? =some (.cells #[.int .u32 (n:Int)] t (0,0))):Ff Bi w=n:=by
 unfold Ff;rw [(m6 h).1];simp [intOf]
theorem Zq {w0 W:World} (hT:TabAt 0 Lib.deBruijn32tab w0) (hb:Below w0.heap.size w0 W):TabAt 0 Lib.deBruijn32tab W:=fun j hj=>by
 have h:=hT j hj
 have q:0<w0.heap.size:=World.block_lt_of_cell? w0 ⟨0,j,none⟩ h
 exact (hb.cell (p:=⟨0,j,none⟩) q).trans h
theorem ZD (s:Int):bits .and .u32 s 16777215=(((BitVec.ofInt 32 s).toNat&&&16777215:Nat):Int):=by
 have q:(BitVec.ofInt 32 s).toNat&&&16777215<2^32:=Nat.and_lt_two_pow _ (by omega)
 show IntKind.u32.wrap ((BitVec.ofInt 32 s&&&BitVec.ofInt 32 16777215).toNat:Int)=_
 rw [BitVec.toNat_and,wrap_u32',show (BitVec.ofInt 32 16777215).toNat=16777215 from by decide]
 omega
def iE (s:Int):Nat:=(BitVec.ofInt 32 s).toNat&&&16777215
theorem ZE (s:Nat) (q:s≠0) (h:s<4294967296):bits .and .u32 (s:Int) ((s:Int)-1)=((s&&&(s-1):Nat):Int):=by
 have:(s:Int)-1=((s-1:Nat):Int):=by omega
 rw [this];exact bits_and_u32_nat s (s-1) h (by omega)
set_option maxRecDepth 100000 in
set_option maxHeartbeats 2000000 in
theorem agA (F:Fence) (n:Nat) (h250:F.fn 250) (h251:F.fn 251) (hro:F.round=none) (hn:1<=n) (w0:World) (fn:FuncId) (hfn:F.fn fn) (s0:Int) (fv:Value) (Bo Bi l D:Nat) (hBl:Bo≠l) (hDl:D≠l) (hDB:D≠Bo) (hBiBo:Bi≠Bo) (hBil:Bi≠l) (hBiD:Bi≠D)
  (h0B:w0.heap.size<=Bo) (h0l:w0.heap.size<=l) (h0i:w0.heap.size<=Bi) (hT:TabAt 0 Lib.deBruijn32tab w0) (s:Int) (W:World) (h:Ko w0 fn s0 fv Bo l D [] W) (hi0:W.heap[Bi]? =some (.cells #[.int .u32 s] 67 (0,0)))
  (htz: ∀ (x:Nat),x<4294967296->x≠0-> ∀W',TabAt 0 Lib.deBruijn32tab W'->CallsIn F (n-1) Tryz.prog 251 #[.int .u32 x] W' fun e w'=>e= .returned (.int .i64 (Lib.ctz 32 x))/\w'=W'):
  CallsIn F n Tryz.prog 250 #[.func (.yield l) #[] #[],.pointer (some ⟨Bi,0,none⟩)] W fun e W'=>(∃v,e= .returned v)/\Ko w0 fn s0 fv Bo l D (eL (iE s)) W':=by
 obtain ⟨hc0,hf0⟩:=m6 hi0
 have ha:bits .and .u32 s 16777215=((iE s:Nat):Int):=ZD s
 have hsl:iE s<16777216:=Nat.lt_of_le_of_lt Nat.and_le_right (by decide)
 generalize iE s=q at ha hsl ⊢
 refine callsIn_of_wp Tryz.func250 rfl h250 ?_ hro
 simp only [Tryz.ntmps250,List.size_toArray,ue,List.length_nil,Nat.reduceAdd,Nat.reduceSub,Array.replicate_succ,Array.replicate_zero,List.push_toArray,List.append_toArray,zg,List.cons_append]
 gi_wp2
 have hi1:=Dm (.int .u32 (q:Int)) hi0
 have hA1:Ko w0 fn s0 fv Bo l D [] (W.setCell ⟨Bi,0,none⟩ (.int .u32 (q:Int))):=by
  obtain ⟨v,hv,pA⟩:=h.box
  exact ⟨⟨v,(Below.heap_setCell _ _ _ Bo (fun e=>hBiBo e.symm)).trans hv,pA.kept (Hj _ _ _) (mr pA hi0 (fun cur e=>by cases e))⟩,(Below.heap_setCell _ _ _ l (fun e=>hBil e.symm)).trans h.L,(Below.heap_setCell _ _ _ D (fun e=>hBiD e.symm)).trans h.K,h.below.setCell h0i _⟩
 gi_loopw [] (fun wr=> ∃ (pre:List Nat) (c:Nat),c<16777216/\pre++eL c=eL q/\Ko w0 fn s0 fv Bo l D pre wr/\wr.heap[Bi]? =some (.cells #[.int .u32 (c:Int)] 67 (0,0)))
  (fun wr=>Ff Bi wr)
 case atStart=>exact ⟨[],q,hsl,rfl,hA1,hi1⟩
 case round=>
  obtain ⟨pre,c,hc,hp,hA,hb⟩:=hrel
  clear hc0 hf0 ha hi1 hA1
  obtain ⟨hc1,hf1⟩:=m6 hb
  by_cases hz:c=0
  ·subst hz
   rw [akZ,xG] at hp
   gi_wp2
   go_end0
   exact ⟨⟨_,rfl⟩,hp▸hA⟩
  ·have hne:((c:Int)==0)=false:=by simp;omega
   have hne': ¬ ((c:Int)=0):=by omega
   have hstep:=ak1 c hz hc
   have hpl:pre.length<24:=by
    have h1:=ak0 q
    have h2:=congrArg EO hp
    rw [hstep.1,H4,ue] at h2
    omega
   obtain ⟨fn',tmps,assign,body,hy,hR⟩:=agB F (n-1) w0 fn hfn s0 fv Bo Bi l D hBl hDl hDB hBiBo hBil h0B h0l pre (Lib.ctz 32 c) (.int .u32 (c:Int)) wr hA hb hpl
   have hT1:=Zq hT hA.below
   have hap:=ZE c hz (by omega)
   unfold KX at hy
   have hyH:Hid (Lib.ctz 32 c=Lib.ctz 32 c):=rfl
   gi_wp2_with (gi_at_call 251;refine (htz c (by omega) hz _ hT1).mono ?_;rintro e w' ⟨rfl,rfl⟩)
   refine hR.mono ?_
   rintro e W3 ⟨rfl,hA3,hb3⟩
   obtain ⟨hc3,hf3⟩:=m6 hb3
   clear hc1 hf1 hA hy hR hT1
   gi_wp2
   have hb4:=Dm (.int .u32 ((c&&&(c-1):Nat):Int)) hb3
   have hlt:=hstep.2
   go_roundw
   case rel=>
    refine ⟨pre++[Lib.ctz 32 c],c&&&(c-1),by omega, ?_, ?_,hb4⟩
    ·rw [<-hp,hstep.1,List.append_assoc];rfl
    ·obtain ⟨v,hv,pA⟩:=hA3.box
     exact ⟨⟨v,(Below.heap_setCell _ _ _ Bo (fun e=>hBiBo e.symm)).trans hv,pA.kept (Hj _ _ _) (mr pA hb3 (fun cur e=>by cases e))⟩,(Below.heap_setCell _ _ _ l (fun e=>hBil e.symm)).trans hA3.L,(Below.heap_setCell _ _ _ D (fun e=>hBiD e.symm)).trans hA3.K,hA3.below.setCell h0i _⟩
   case measure=>rw [LI hb4,LI hb];exact hlt
set_option maxRecDepth 100000 in
set_option maxHeartbeats 2000000 in
theorem agy (F:Fence) (n:Nat) (h187:F.fn 187) (h231:F.fn 231) (h250:F.fn 250) (h251:F.fn 251) (hro:F.round=none) (hn:3<=n) (s:Int) (w:World) (hT:TabAt 0 Lib.deBruijn32tab w)
  (hin: ∀W,CallsIn F (n-1) Tryz.prog 231 #[.int .u32 s] W fun e w'=>e= .returned (.func (.func 250) #[] #[.pointer (some ⟨W.heap.size,0,none⟩)])/\w'=W.alloc (.cells #[.int .u32 s] 67))
  (htz: ∀ (x:Nat),x<4294967296->x≠0-> ∀W',TabAt 0 Lib.deBruijn32tab W'->CallsIn F (n-1-1) Tryz.prog 251 #[.int .u32 x] W' fun e w'=>e= .returned (.int .i64 (Lib.ctz 32 x))/\w'=W'):
  CallsIn F n Tryz.prog 187 #[.int .u32 s] w fun e w'=> ∃v:Value,e= .returned v/\w'.ownsRow w.heap.size 3 1 v (eL (iE s)).length ((eL (iE s)).map KX)/\Below w.heap.size w w':=by
 have h1:1<=n:=by omega
 have eg: ∀args w,(callFunc 250 args).run Tryz.prog w= .ok (.enter 250 args) w:=enters_of Tryz.func250 (by kernel_rfl) rfl
 refine callsIn_of_wp_marks Tryz.func187 rfl h187 ?_ hro
 simp only [Tryz.ntmps187,List.size_toArray,ue,List.length_nil,Nat.reduceAdd,Nat.reduceSub,Array.replicate_succ,Array.replicate_zero,List.push_toArray,List.append_toArray,zg,List.cons_append]
 gi_wp2_with (gi_at_call 231;refine (hin _).mono ?_;rintro e w' ⟨rfl,rfl⟩)
 refine wpIn_rangeFunc ?_
 intro fn hfn
 rw [hro]
 obtain ⟨fv,hfv⟩: ∃fv:Value,fv= .func (.func 250) #[] #[.pointer (some ⟨w.heap.size+1,0,none⟩)]:=⟨_,rfl⟩
 obtain ⟨W0,hW0⟩: ∃W0,(w.alloc (.cells #[.slice none 0 0] 157)).alloc (.cells #[.int .u32 s] 67)=W0:=⟨_,rfl⟩
 have hs0:W0.heap.size=w.heap.size+2:=by rw [<-hW0];simp
 have hv0:W0.heap[w.heap.size]? =some (.cells #[.slice none 0 0] 157 (0,0)):=by rw [<-hW0];exact (Below.heap_alloc _ _ _ (by simp)).trans (World.alloc_heap_new w _)
 have hi0:W0.heap[w.heap.size+1]? =some (.cells #[.int .u32 s] 67 (0,0)):=by
  rw [<-hW0];have:=World.alloc_heap_new (w.alloc (.cells #[.slice none 0 0] 157)) (.cells #[.int .u32 s] 67);rwa [World.size_alloc] at this
 have hb0:Below w.heap.size w W0:=by rw [<-hW0];exact ((Below.refl _ w).alloc (xq _) _).alloc (by simp) _
 rw [hW0]
 obtain ⟨W1,hW1⟩: ∃W1,(W0.alloc (.deferred (some []))).alloc (.loop (Mr fn s fv w.heap.size W0.heap.size .ready none))=W1:=⟨_,rfl⟩
 have hold: ∀k,k<W0.heap.size->W1.heap[k]? =W0.heap[k]? :=fun k hk=>by
  rw [<-hW1];exact (Below.heap_alloc _ _ k (by simp;omega)).trans (Below.heap_alloc _ _ k hk)
 have hb1:Below w.heap.size w W1:=by rw [<-hW1];exact (hb0.alloc hb0.size _).alloc (by have:=hb0.size;simp;omega) _
 have hM:Ko w fn s fv w.heap.size (W0.heap.size+1) W0.heap.size [] W1:=
  ⟨⟨_,(hold w.heap.size (by omega)).trans hv0,⟨rfl,.inl ⟨rfl,rfl⟩⟩⟩,
   by rw [<-hW1];have:=World.alloc_heap_new (W0.alloc (.deferred (some []))) (.loop (Mr fn s fv w.heap.size W0.heap.size .ready none));rwa [World.size_alloc] at this,
   by rw [<-hW1];exact (Below.heap_alloc _ _ _ (by simp)).trans (World.alloc_heap_new W0 _),hb1⟩
 refine ⟨W0.heap.size+1,[{target:= .collected W0.heap.size,args:= #[]}],W1,{target:= .fn (.func 250) #[.pointer (some ⟨w.heap.size+1,0,none⟩)],args:= #[.func (.yield (W0.heap.size+1)) #[] #[]]},W1,250,
  #[.func (.yield (W0.heap.size + 1)) #[] #[]] ++ #[.pointer (some ⟨w.heap.size + 1, 0, none⟩)], W1, ?_, ?_, ?_, ?_, fun _ => h1, ?_⟩
 ·rw [<-hW1,hfv];exact run_enterLoop_outer _ _ _ _ _
 ·simp [resolve,go_sem]
 ·intro f' hf';simp [Target.leads] at hf';subst hf';exact h250
 ·simp [invoke,go_sem,eg]
 ·refine (agA F (n-1) h250 h251 hro (by omega) w fn hfn s fv w.heap.size (w.heap.size+1) (W0.heap.size+1) W0.heap.size (by omega) (by omega) (by omega) (by omega) (by omega) (by omega) (xq _) (by omega) (by omega) hT s W1 hM ((hold _ (by omega)).trans hi0) htz).mono ?_
  rintro e W2 ⟨⟨v0,rfl⟩,h2⟩
  obtain ⟨v,hv,pA⟩:=h2.box
  have hend:=run_endLoop (P:=Tryz.prog) h2.L (by simp [Mr])
  obtain ⟨W3,hW3⟩: ∃W3,W2.putObj (W0.heap.size+1) (.loop {Mr fn s fv w.heap.size W0.heap.size .ready none with state:= .exhausted})=W3:=⟨_,rfl⟩
  rw [hW3] at hend
  have hg3:W2.grownBy W3 (some (W0.heap.size+1)):=by rw [<-hW3];exact rk _ _ _
  have hv3:W3.heap[w.heap.size]? =some (.cells #[v] 157 (0,0)):=by rw [<-hW3];exact (World.putObj_heap_other (by omega)).trans hv
  have hK3:W3.heap[W0.heap.size]? =some (.deferred (some [])):=by rw [<-hW3];exact (World.putObj_heap_other (by omega)).trans h2.K
  have hrow3:=pA.kept hg3 (mr pA h2.L (fun cur e=>by cases e))
  have hb3:Below w.heap.size w W3:=h2.below.grown hg3 h2.below.size (fun k e=>by cases e;omega)
  obtain ⟨hc3,hf3⟩:=m6 hv3
  clear hW3
  refine ⟨none,W3,hend, ?_⟩
  clear hfv
  gi_wp2
  rw [show (w.heap.size+1+1)=W0.heap.size by omega]
  refine ⟨by simp,.inl ⟨_,_,rfl,run_takeDeferred hK3, ?_⟩⟩
  exact ⟨_,results_tmp rfl _ _ _,v,rfl,hrow3.kept (rk _ _ _) (mr hrow3 hK3 (fun cur e=>by cases e)),hb3.grown (rk _ _ _) hb3.size (fun k e=>by cases e;omega)⟩
end
section
open Go PI Go.Shelf Go.RowKit
def ai (o:Obj):Prop:= ∃ (cur:Array Value) (e:TypeId) (q:Nat×Nat),o= .cells cur e q/\ ∀j,j<Lib.deBruijn32tab.length->cur[j]? =some (.int .u8 (Lib.deBruijn32tab.getD j 0))
theorem akJ {o:Obj} (ho:ai o) {w:World} (h:w.heap[0]? =some o):TabAt 0 Lib.deBruijn32tab w:=fun j hj=>by
 obtain ⟨cur,e,q,rfl,hc⟩:=ho
 have:=hc j hj
 simp [World.cell?,h,this]
theorem agx (s:Int) (w:World) (hT:TabAt 0 Lib.deBruijn32tab w):Calls Tryz.prog 187 #[.int .u32 s] w fun e w'=> ∃v:Value,e= .returned v/\w'.ownsRow w.heap.size 3 1 v (eL (iE s)).length ((eL (iE s)).map KX)/\Below w.heap.size w w':=
 callsIn_wide.1 (agy Fence.wide 5 trivial trivial trivial trivial rfl (by omega) s w hT (fun W=>callsIn_wide.2 (adi s W)) fun x z A W' q=>callsIn_wide.2 (Tryz.tz32 x z A W' q))
theorem agE (s:Int):ra s=(eL (iE s)).map fun n:Nat=>(n:Int):=by
 unfold ra eL iE
 have:(BT 24).filter ((BitVec.ofInt 32 s).toNat&&&16777215).testBit=(BT 24).filter fun i=>(BitVec.ofInt 32 s).getLsbD i:=List.filter_congr fun i q=>by
  have q:i<24:=List.mem_range.1 q
  have x:(16777215:Nat)=2^24-1:=by decide
  rw [Nat.testBit_and,x,Nat.testBit_two_pow_sub_one,decide_eq_true q,Bool.and_true];rfl
 rw [this];rfl
theorem ZJ {X:qx VV Tryz.prog} {w w':World} {vs:Array Value} {N0:aN} {ν:Nat->Nat} {δ:Nat->Option Nat} {ο:Nat->Array Value} {args:List PU} (x:uL X w vs N0 ν δ ο args []) (hb:Below w.heap.size w w'):
  L6 X w w' N0 ν δ ο 0 args.length ν (fun _=>none) [] where
 ext:=⟨hb.os,hb.tape,hb.output,hb.size,fun b q _=>hb.block b q⟩
 le:=xq _
 old:=fun i h=>absurd h (Nat.not_lt_zero i)
 new:=fun i _ h=>absurd h (Nat.not_lt_zero i)
 cY:=fun j b h=>by cases h
 iP:={
  inj:=fun i j h=>absurd h (Nat.not_lt_zero i)
  lt:=fun i h=>absurd h (Nat.not_lt_zero i)
  dlt:=fun j b h=>by cases h
  eO:=fun i j b h=>by cases h
  dν:=fun j b h=>by cases h
  n0:=fun b o h=>⟨Nat.lt_of_lt_of_le (x.iP.n0 b o h).1 hb.size,fun i h=>absurd h (Nat.not_lt_zero i),fun j h=>by cases h⟩}
 boxes:=fun k b h=>by simp at h
theorem akR {S:Type} (o:Obj) (ho:ai o) (vs:List PU) (bs:List (py UU)) (κ:Out UU->Option S) (x:S) (h:GZ vs bs κ=some x): ∃out,ci (LL o) acN vs bs out/\κ out=some x:=by
 unfold GZ at h
 split at h
 case h_2=>cases h
 rename_i κ y
 refine ⟨_, ?_,h⟩
 refine ⟨⟨Tryz.f187,Tryz.func187,by kernel_rfl,rfl⟩,fun w vs N0 ν δ ο B=> ?_⟩
 have hs:vs.size=1:=B.size
 have F:=B.args 0 _ rfl
 obtain ⟨v0,J⟩: ∃v0,vs= #[v0]:=by
  obtain ⟨l⟩:=vs
  match l,hs with
  |[v],_=>exact ⟨v,rfl⟩
 subst J
 have F:po (LL o) w _ _ v0 (.int .u32 y):=F
 cases F
 have hT:=akJ ho (B.gF 0 o (by simp [LL])).1
 refine (agx y w hT).mono ?_
 rintro e w' ⟨v,rfl,pA,hb⟩
 refine ⟨ν,fun _=>none,ZJ B hb, ?_⟩
 show po (LL o) w' _ _ v (.sl ET.I (ra y) .none)
 rw [agE]
 generalize eL (iE y)=A at pA
 obtain ⟨hl,T⟩:=pA
 rcases T with ⟨rfl,hn⟩|⟨g,cap,cur,rfl,W,L,hc,Y,ad,M⟩
 ·have:A=[]:=Iy.1 hn
  subst this
  exact .sl none 0 0 _ _ _ (fun _ _=>undef) rfl (xq _) trivial (fun j x q=>by cases q) (fun j x q=>by cases q)
 ·have z: ∀j x,(A.map fun n:Nat=>(n:Int))[j]? =some x->cur.getD j undef= .int .i64 x/\w'.cell? ⟨g,j,none⟩=some (.int .i64 x):=by
   intro j x q
   rw [List.getElem?_map] at q
   cases E:A[j]? with
   |none=>rw [E] at q;cases q
   |some n=>
    rw [E] at q
    injection q with q
    have hj:j<A.length:=(Dg.1 E).1
    have h1:(cur.toList.take (A.length*1))[j]? =some (KX n):=by rw [M,List.getElem?_map,E];rfl
    rw [List.getElem?_take_of_lt (by omega)] at h1
    have h2:cur[j]? =some (.int .i64 x):=by rw [<-Array.getElem?_toList,h1,<-q];rfl
    refine ⟨?_,by simp [World.cell?,L,h2]⟩
    rw [H5,h2];rfl
  refine po.sl (X:=LL o) (some ⟨g,0,none⟩) A.length cap ET.I (show List Int from A.map fun n:Nat=>(n:Int)) .none (fun j k=>cur.getD (j+k) undef) (List.length_map _) hc trivial (fun j x q k p hp=> ?_) (fun j x q k p hp=> ?_)
  ·match k,hp with
   |0,hp=>
    obtain ⟨h1,h2⟩:=z j x q
    refine ⟨_,rfl, ?_, ?_⟩
    ·have:(⟨g,0,none⟩:Addr).add (j*(LL o).aR ET.I+0)=⟨g,j,none⟩:=by
      rw [Addr.add_lit'];show (⟨g,0+(j*1+0),none⟩:Addr)=_;congr 1;omega
     rw [this,h2];rw [Nat.add_zero,h1]
    ·rintro (hN|⟨i,O,_⟩|⟨i,O⟩)
     ·have:=(B.iP.n0 _ _ hN).1
      simp at this;omega
     ·exact absurd O (Nat.not_lt_zero i)
     ·cases O
   |k+1,hp=>simp [VV,Ah] at hp
  ·match k,hp with
   |0,hp=>
    obtain ⟨h1,h2⟩:=z j x q
    rw [Nat.add_zero,h1]
    have:p= .int .i64 x:=by simpa [VV,Ah] using hp.symm
    subst this
    exact .int _ _
   |k+1,hp=>simp [VV,Ah] at hp
open Go.Sort
def m7 (a b:Int):Int:=if a<b then-1 else if b<a then 1 else 0
def iY (x y:Cl):Int:=if x.pos=y.pos then m7 x.neg y.neg else m7 x.pos y.pos
def Iv (x:Cl):List Value:=[.int .u32 x.pos,.int .u32 x.neg]
theorem EP (a:Int) (W:World):Calls Tryz.prog 262 #[.int .u32 a] W fun e w'=>e= .returned (.bool false)/\w'=W:=by
 go_enter Tryz.func262,Tryz.ntmps262
 go_wp2
 go_ret
 exact ⟨by simp,rfl⟩
set_option maxHeartbeats 1000000 in
theorem JD (a b:Int) (W:World):Calls Tryz.prog 237 #[.int .u32 a,.int .u32 b] W fun e w'=>e= .returned (.int .i64 (m7 a b))/\w'=W:=by
 unfold m7
 by_cases h1:a<b
 ·rw [if_pos h1]
  go_enter Tryz.func237,Tryz.ntmps237
  go_wp2_with (go_at_call 262;refine (EP _ _).mono ?_;rintro e w' ⟨rfl,rfl⟩)
  go_ret
  exact ⟨rfl,rfl⟩
 ·rw [if_neg h1]
  by_cases h2:b<a
  ·rw [if_pos h2]
   go_enter Tryz.func237,Tryz.ntmps237
   go_wp2_with (go_at_call 262;refine (EP _ _).mono ?_;rintro e w' ⟨rfl,rfl⟩)
   go_ret
   exact ⟨rfl,rfl⟩
  ·rw [if_neg h2]
   go_enter Tryz.func237,Tryz.ntmps237
   go_wp2_with (go_at_call 262;refine (EP _ _).mono ?_;rintro e w' ⟨rfl,rfl⟩)
   go_ret
   exact ⟨rfl,rfl⟩
set_option maxHeartbeats 1000000 in
theorem Z6 (x y:Cl) (W:World):Calls Tryz.prog 212 #[.agg (Iv x).toArray,.agg (Iv y).toArray] W fun e w'=>e= .returned (.int .i64 (iY x y))/\ ∃q z,w'=grow (W.drewN q) z:=by
 obtain ⟨a,b⟩:=x
 obtain ⟨a',A⟩:=y
 have h1:=JD a a'
 have h2:=JD b A
 unfold iY
 simp only [Iv]
 generalize m7 a a'=r1 at h1 ⊢
 generalize m7 b A=B at h2 ⊢
 by_cases h:a=a'
 ·rw [if_pos h]
  go_enter Tryz.func212,Tryz.ntmps212
  go_wp2_with (go_at_call 237;refine (h2 _).mono ?_;rintro e w' ⟨rfl,rfl⟩)
  go_ret
  exact ⟨rfl,0,_,by rw [alloc_eq_grow,alloc_eq_grow,grow_grow];rfl⟩
 ·rw [if_neg h]
  go_enter Tryz.func212,Tryz.ntmps212
  go_wp2_with (go_at_call 237;refine (h1 _).mono ?_;rintro e w' ⟨rfl,rfl⟩)
  go_ret
  exact ⟨rfl,0,_,by rw [alloc_eq_grow,alloc_eq_grow,grow_grow];rfl⟩
theorem uS (x y:Cl):ltOf iY x y=(decide (x.pos<y.pos)||(decide (x.pos=y.pos)&&decide (x.neg<y.neg))):=by
 have h:iY x y<0↔(x.pos<y.pos\/x.pos=y.pos/\x.neg<y.neg):=by
  unfold iY m7
  split<;>split<;>first|omega|(split<;>omega)
 rw [Bool.eq_iff_iff]
 simp only [ltOf,decide_eq_true_eq,Bool.or_eq_true,pX]
 exact h
theorem akz:SWO (ltOf iY) where
 irrefl x:=by rw [uS];simp
 trans x y z h1 h2:=by rw [uS] at*;simp at*;omega
 ntrans x y z h1 h2:=by rw [uS] at*;simp at*;omega
theorem akV (x y:Cl) (h1:ltOf iY x y=false) (h2:ltOf iY y x=false):x=y:=by
 rw [uS] at*;simp at*
 obtain ⟨a,b⟩:=x
 obtain ⟨a',q⟩:=y
 simp at*
 omega
theorem ada:(fun x y:Cl=> !ltOf iY y x)=lq:=by
 funext x y
 rw [uS,Bool.eq_iff_iff]
 simp [lq]
 omega
instance:Inhabited Cl:=⟨⟨0,0⟩⟩
theorem akg (b c:Nat) (d:List Cl) (w:World) (hH:HoldsK Iv 2 w b 0 d.toArray) (hb:b<w.heap.size) (q:d.length<4611686018427387904):
  Calls Tryz.prog 211 #[.slice (some ⟨b,0,none⟩) d.length c,.func (.func 212) #[] #[]] w fun e w'=>e= .returned (.tuple #[])/\ ∃n os,w'=sortWorldK Iv 2 w b 0 n (sortCl d).toArray os:=by
 have z: ∀args w,(callFunc 212 args).run Tryz.prog w= .ok (.enter 212 args) w:=enters_of Tryz.func212 (by kernel_rfl) rfl
 have h:=AnyQ.slices_SortFunc_total Tryz.sortCl 2 Tryz.isAgg69 Tryz.sizeOf69 Iv (fun _=>rfl) (fun x v hv=>by simp [Iv] at hv;rcases hv with rfl|rfl<;>rfl) iY akz 212 #[] b 0 c d.toArray w z (fun _ _ _ _ x y=>Z6 x y _) hH hb q akV
 rw [ada] at h
 exact h
theorem akh (p:Option Addr) (c:Nat) (w:World):Calls Tryz.prog 211 #[.slice p 0 c,.func (.func 212) #[] #[]] w fun e w'=>e= .returned (.tuple #[])/\w'=w:=
 AnyF.slices_SortFunc_none Tryz.sortCl p c _ w
theorem akf {m:Nat} {d:Array Cl} {os:Array Obj} {w:World} {b k:Nat} (hk:k<w.heap.size) (q:k≠b):(sortWorldK Iv 2 w b 0 m d os).heap[k]? =w.heap[k]? :=by
 unfold sortWorldK putRowK putRow mapBlock
 rw [heap_grow_old _ _ (by simpa [ahead] using hk)]
 show (w.heap.modify b _)[k]? =_
 rw [Array.getElem?_modify,if_neg (Ne.symm q)]
theorem ake {m:Nat} {d:Array Cl} {os:Array Obj} {w:World} {b:Nat} {cur:Array Value} {e:TypeId} {q:Nat×Nat} (h:w.heap[b]? =some (.cells cur e q)):
  (sortWorldK Iv 2 w b 0 m d os).heap[b]? =some (.cells (putCells id 0 (flatK Iv 2 d) cur) e q):=by
 have hb:b<w.heap.size:=(Hu.1 h).1
 unfold sortWorldK putRowK putRow mapBlock
 rw [heap_grow_old _ _ (by simpa [ahead] using hb)]
 show (w.heap.modify b _)[b]? =_
 rw [Array.getElem?_modify,if_pos rfl,h];rfl
theorem Z4 (x:Cl) {k:Nat} {p:PU} (hp:(Ah .C x)[k]? =some p):k<2/\ ∀ (X:qx VV Tryz.prog) (w:World) (N:aN) (g:Gh UU),po X w N g (Iv x)[k]! p:=by
 match k,hp with
 |0,hp=>cases hp;exact ⟨by omega,fun X w N g=> .int _ _⟩
 |1,hp=>cases hp;exact ⟨by omega,fun X w N g=> .int _ _⟩
 |k+2,hp=>simp [Ah] at hp
theorem adf {w:World} {b c:Nat} {l:List Cl} {cur:Array Value} {e:TypeId} (hb:w.heap[b]? =some (.cells cur e (0,0))) (hs:cur.size=c*2) (hl:l.length<=c) (h: ∀ (j:Nat) (x:Cl),l[j]? =some x-> ∀k,k<2->w.cell? ⟨b,j*2+k,none⟩=some (Iv x)[k]!):HoldsK Iv 2 w b 0 l.toArray:=by
 intro t q
 rw [size_flatK] at q
 have z:t<l.length*2:=by simpa using q
 have hj:t/2<l.length:=by omega
 have A:l[t/2]? =some l.toArray[t/2]! :=by simp [hj]
 refine ⟨?_, ?_⟩
 ·rw [get_flatK _ _ _ _ q]
  have:=h _ _ A (t%2) (Nat.mod_lt _ (by omega))
  rw [Ej]
  rw [show t/2*2+t%2=t by omega] at this
  exact this
 ·simp [World.frozen?,hb]
theorem adl {f:Nat} {ps:List PU} {l l':List Cl} (h:EK f ps l=some l'):f=211/\ps=[.func 212 [] []]/\l'=sortCl l:=by
 unfold EK at h
 split at h
 ·injection h with h
  exact ⟨rfl,rfl,h.symm⟩
 ·cases h
theorem Ad (o:Obj):Se (LL o):=by
 intro f ps e l l' h
 have E:K9 f ps e l=some l':=h
 clear h
 cases e with
 |T=>cases E
 |B=>cases E
 |I=>cases E
 |F=>cases E
 |D=>cases E
 |G=>cases E
 |V=>cases E
 |P=>cases E
 |C=>
 obtain ⟨rfl,rfl,rfl⟩:=adl E
 refine ⟨⟨Tryz.f211,Tryz.func211,by kernel_rfl,rfl⟩,fun w vs N0 δ ο hg bf=> ?_⟩
 have hs:vs.size=2:=hg.size
 obtain ⟨v0,v1,rfl⟩: ∃v0 v1,vs= #[v0,v1]:=by
  obtain ⟨l⟩:=vs
  match l,hs with
  |[v,v'],_=>exact ⟨v,v',rfl⟩
 have h0:sZ (LL o) w (NB N0 0 (fun _=>0) δ) (gB UU 0 fun _=>0) ET.C l v0 .wr (δ 0):=hg.args 0 _ rfl
 have h1:po (LL o) w (NB N0 0 (fun _=>0) δ) (gB UU 0 fun _=>0) v1 (.func 212 [] []):=hg.args 1 _ rfl
 cases h1 with
 |func _ _ _ xs ys ha hb _ _=>
 have ad:xs= #[]:=by simpa using ha
 have ao:ys= #[]:=by simpa using hb
 subst ad;subst ao
 obtain ⟨A,n,c,rfl,hl,hc,q,W⟩:=h0.val
 have hl: @EO Cl l=n:=hl
 cases Y:δ 0 with
 |none=>
  rw [Y] at W q
  obtain ⟨rfl,rfl,rfl⟩:=W.1 rfl
  have:l=([]:List Cl):=Iy.1 hl
  subst this
  refine (akh none 0 w).mono ?_
  rintro e w' ⟨rfl,rfl⟩
  refine ⟨rfl,.refl _ _, ?_⟩
  rw [Y] at h0
  have:sortCl []=[]:=by simp [sortCl]
  rw [this]
  exact h0
 |some b=>
  rw [Y] at W q
  obtain ⟨hu,cur,rfl,hblk,ax,J⟩:=W
  have L:b<w.heap.size:=(Hu.1 hblk).1
  have M:cur.size=c*2:=ax
  have hH:HoldsK Iv 2 w b 0 l.toArray:=adf hblk M (hl▸hc) fun j x hx k hk=>by
   have hp: ∃p,(Ah ET.C x)[k]? =some p/\p= .int .u32 (if k=0 then x.pos else x.neg):=by
    match k,hk with
    |0,_=>exact ⟨_,rfl,rfl⟩
    |1,_=>exact ⟨_,rfl,rfl⟩
   obtain ⟨p,hp,az⟩:=hp
   obtain ⟨a,v,ha,hv,hr,_⟩:=q j x hx k p hp
   injection ha with ha
   subst ha
   subst az
   have a6:w.cell? ⟨b,j*2+k,none⟩=some v:=by
    have:(⟨b,0,none⟩:Addr).add (j*(LL o).aR ET.C+k)=⟨b,j*2+k,none⟩:=by
     rw [Addr.add_lit'];show (⟨b,0+(j*2+k),none⟩:Addr)=_;congr 1;omega
    rw [this] at hv;exact hv
   rw [a6]
   cases hr
   match k,hk with
   |0,_=>rfl
   |1,_=>rfl
  have a7: @EO Cl l<4611686018427387904:=by
   have:n<=1099511627776:=J.2
   omega
  have z:=akg b c l w hH L a7
  have he:(.slice (some ⟨b,0,none⟩) (@EO Cl l) c:Value)= .slice (some ⟨b,0,none⟩) n c:=by rw [hl]
  rw [he] at z
  refine z.mono ?_
  rintro e w' ⟨rfl,m,os,rfl⟩
  have hlen:(sortCl l).length= @EO Cl l:=List.length_mergeSort _
  have a8:=holdsK_sortWorldK_c Iv 2 w b 0 l.toArray (sortCl l).toArray m os hH L hlen
  refine ⟨rfl,⟨rfl,rfl,rfl,size_sortWorldK_c Iv 2 w b 0 m _ os,fun k hk bc=>akf hk fun e=>bc ?_⟩, ?_⟩
  ·subst e
   exact List.mem_append_right _ (List.mem_filterMap.2 ⟨0,by simp,Y⟩)
  ·refine ⟨_,n,c,rfl,hlen.trans hl,hc,fun j x hx k p hp=> ?_, ?_⟩
   ·obtain ⟨hk,O⟩:=Z4 x hp
    have hj:j<(sortCl l).length:=(Dg.1 hx).1
    have:=(a8.cell (i:=j) (c:=k) (by simpa using hj) hk).1
    have he:(sortCl l).toArray[j]! =x:=by
     have:=Dg.1 hx
     rw [getElem!_pos _ j (by simpa using hj)];exact this.2
    rw [he] at this
    refine ⟨_,_,rfl, ?_,O _ _ _ _,fun h=>by cases h⟩
    have e:(⟨b,0,none⟩:Addr).add (j*(LL o).aR ET.C+k)=⟨b,0+j*2+k,none⟩:=by
     rw [Addr.add_lit'];show (⟨b,0+(j*2+k),none⟩:Addr)=_;congr 1;omega
    show World.cell? _ (Addr.add _ _)=_
    rw [e];exact this
   ·exact ⟨hu,_,rfl,ake hblk,by simp [putCells];exact M,J⟩
end
section
open Go PI Go.ChangeShapes Go.WideShapes Go.ChangeAt Go.RowKit
theorem own:ownKnob Tryz.prog.godebug=none:=by kernel_rfl
theorem KM:Tryz.prog.globalNamed "math/bits.deBruijn32tab" =some 0:=by kernel_rfl
section
variable {H:Type} {enc:TypeId×Value->H}
structure Kept (W W':World):Prop where
 os:W'.os=W.os
 output:W'.output=W.output
 size:W.heap.size<=W'.heap.size
 block: ∀b,b<W.heap.size->W'.heap[b]? =W.heap[b]?
theorem Kept.sameAt {W W':World} (h:Kept W W') {p:MemPlace} (hp:p.block<W.heap.size):W.sameAt W' p:=by
 cases p with
 |cell b o=>simp only [World.sameAt,World.cell?];rw [h.block b hp]
 |map b=>exact h.block b hp
theorem Kept.kept {W W':World} (h:Kept W W') (may:MemPlace->Prop):W.keptBut W' may:=by
 refine ⟨h.os,h.output,fun i q=> ?_⟩
 rw [h.block i q]
 cases W.heap[i]? with
 |none=>rfl
 |some o=>cases o with
  |cells c t x=>exact ⟨rfl,rfl,rfl,fun _ _=>rfl⟩
  |map es clock=>exact .inr ⟨rfl,rfl⟩
  |_=>rfl
theorem Jk {W W':World} {sp:Nat->Bool} {held:Bool}: ∀ {A:List TypeId} {vs:List Value} {ds:List (DataW H)} {ps:List MemPlace},
  DataW.TrodAll enc Tryz.prog W 0 sp held A vs ds ps->(∀p∈ps,W.sameAt W' p)->DataW.TrodAll enc Tryz.prog W' 0 sp held A vs ds ps
 |[],[],[],_,h,_=>h
 |_::_,_::_,_::_,_,⟨p,q,⟨n,h1⟩,h2,e⟩,hs=>
  ⟨p,q,⟨n,DataW.trod_carry n _ _ _ h1 fun x z=>hs x (by rw [e];exact List.mem_append_left _ z)⟩,Jk h2 (fun x z=>hs x (by rw [e];exact List.mem_append_right _ z)),e⟩
theorem kids:Kids Tryz.prog (· <Tryz.prog.types.size):=kids_rows (by kernel_rfl) (by kernel_rfl)
theorem full: ∀t e,t<Tryz.prog.types.size->Tryz.prog.underlying t=some (.slice e)->0<Tryz.prog.cellsOf e:=slices_full_of Tryz.prog (by kernel_rfl)
theorem ahF {f:Func} {s:ChangeSpec} (hv:s.vars=[]) {dD fresh handsOn again:Bool} {W W':World} {args:Array Value} {ds gs:List (DataW H)} {before:List MemPlace} (hf:f.resultTypes= #[4])
  (hT: ∀t∈f.params.toList,t<Tryz.prog.types.size) (hs:s.fn H ds={results:=[.lit (.bool true)],args:=ds})
  (L:DataW.Whole enc Tryz.prog f.params.toList s.vars dD W args.toList ds gs before) (hk:Kept W W'):s.post enc Tryz.prog f dD fresh handsOn again W args (.bool true) W':=by
 have hold: ∀p∈before,(fun b=>decide (b<W.heap.size)) p.block=true:=fun p hp=>by simpa using L.lt p hp
 have E: ∀p∈before,p.block<W.heap.size:=fun p hp=>by simpa using L.lt p hp
 have I:=L
 obtain ⟨p,q,hA,hV,rfl,T,hn⟩:=L
 rw [hv] at hV
 obtain ⟨rfl,rfl⟩:=trodVars_none hV
 rw [xG] at hold E T hn I
 have F:s.fn H (ds++[])={results:=[.lit (.bool true)],args:=ds}:=by rw [xG];exact hs
 have Y:(Value.bool true).resultList f.resultTypes.size=[.bool true]:=by rw [hf];rfl
 have B: ∀ (b:Nat) (sp:Nat->Bool) (hd:Bool),DataW.TrodAll enc Tryz.prog W' b sp hd f.resultTypes.toList ((Value.bool true).resultList f.resultTypes.size) (s.fn H (ds++[])).results []:=fun b sp hd=>by
  rw [Y,F,hf]
  exact trodAll_cons_mk (shut_bool Tryz.underlying4 _) trodAll_mk0
 have z: ∀sp:Nat->Bool,(∀M∈p,sp M.block=true)->DataW.TrodAll enc Tryz.prog W' 0 sp true f.params.toList args.toList (s.fn H (ds++[])).args p:=fun sp O=>by
  rw [F]
  exact DataW.TrodAll.respare kids full hT (Jk hA fun x hx=>hk.sameAt (E x hx)) O
 have A: ∀sp:Nat->Bool,DataW.TrodVars enc Tryz.prog W' sp s.vars (s.fn H (ds++[])).vars []:=fun sp=>by rw [hv,F];rfl
 refine ⟨ds,[],p,[],p,[],I,B _ _ _,z _ hold,A _,World.keptBut_mono (fun M hp=>hp.elim) (hk.kept fun _=>False),fun _=> ?_⟩
 refine ⟨fun j t r h1 h2=> ?_,_,_,([]++p)++[],⟨[]++p,[],trodAll_append (z _ (fun _ _=>rfl)) (B _ _ _),A _,rfl, ?_, ?_⟩, ?_⟩
 ·rw [hf] at h1
  rw [Y] at h2
  match j,h1,h2 with
  |0,h1,h2=>cases h1;cases h2;exact okWide_bool_mk Tryz.underlying4 _
  |j+1,h1,h2=>simp at h2
 ·intro b off hp
  have J:MemPlace.cell b off∈p:=by simpa using hp
  have:=T b off J
  simp only [World.frozen?] at this ⊢
  rw [hk.block b (E _ J)]
  exact this
 ·intro ha
  have:=hn ha
  simpa using this
 ·intro M hp _
  simpa using hp
variable {w:World} {spare:Nat->Bool} {held:Bool} {o:Obj} {N:aN} {g:Gh UU}
theorem Zs {v:Value} {n:Nat} (h:v.cells.toList.length=n+2): ∃vs:Array Value,v= .agg vs/\vs.toList=v.cells.toList:=by
 cases v with
 |agg vs=>exact ⟨vs,rfl,rfl⟩
 |_=>simp [Value.cells] at h
theorem ZG (E: ∀b o,¬N b o) {v:Value} {d:DataW H} {ps:List MemPlace} (h:DataW.Trod enc Tryz.prog w 0 spare held 27 v d ps): ∃t:Tm,po (LL o) w N g v (.agg (Ah ET.T t))/\QT t d:=by
 obtain ⟨n,hn⟩:=h
 obtain ⟨t,F,I⟩:=(ahu (o:=o) (g:=g) E n).1 _ _ _ hn
 obtain ⟨_,_,_,_,hl,_,_⟩:=DataW.trod_struct Tryz.underlying27 hn
 have q:v.cells.toList.length=6:=hl.trans (by kernel_rfl)
 obtain ⟨vs,rfl,x⟩:=Zs (n:=4) q
 refine ⟨t,po.agg (X:=LL o) vs (Ah ET.T t) (by rw [<-Array.length_toList,x,q];rfl) fun j p hp=> ?_,I⟩
 obtain ⟨B,z,A⟩:=F j p hp
 have:vs.getD j undef=B:=by
  have h2:vs[j]? =some B:=by rw [<-Array.getElem?_toList,x];exact z
  rw [H5,h2];rfl
 rw [this];exact A
theorem adb {o:Obj} {W:World} (x:W.heap[0]? =some o) {vs:Array Value} {ps:List PU} (hs:vs.size=ps.length) (hp:ps.all PV.notFresh=true)
  (h: ∀ (j:Nat) p,ps[j]? =some p->po (LL o) W (NB (fun _ _=>False) 0 (fun _=>0) fun _=>none) (gB UU 0 fun _=>0) (vs.getD j undef) p):uL (LL o) W vs (fun _ _=>False) (fun _=>0) (fun _=>none) (fun _=> #[]) ps [] where
 iP:=⟨fun i j q=>absurd q (Nat.not_lt_zero i),fun i q=>absurd q (Nat.not_lt_zero i),fun j b h=>(by cases h),fun i j b h=>(by cases h),fun j b h=>(by cases h),fun b o h=>h.elim⟩
 size:=hs
 hJ:=fun j b h=>by cases h
 gF:=fun b z hb=>by
  simp [LL] at hb
  obtain ⟨rfl,rfl⟩:=hb
  exact ⟨x,fun i q=>absurd q (Nat.not_lt_zero i),fun j h=>by cases h⟩
 args:=fun j p hj=>uc.of (h j p hj)
 boxes:=fun k b h=>by simp at h
 oz:=fun _ _=>rfl
theorem uv: ∀b o,¬NB (fun _ _=>False) 0 (fun _=>0) (fun _=>none) b o:=by
 rintro b o (h|⟨k,hk,_⟩|⟨j,h⟩)
 ·exact h
 ·exact absurd hk (Nat.not_lt_zero k)
 ·cases h
theorem ZW {o:Obj} {f:FuncId} {ps:List PU} (q:ci (LL o) f ps [] (.ret (.bool true) [])) {W:World} {vs:Array Value} (A:uL (LL o) W vs (fun _ _=>False) (fun _=>0) (fun _=>none) (fun _=> #[]) ps []):
  Calls Tryz.prog f vs W fun e W'=>e= .returned (.bool true)/\Kept W W':=by
 refine (q.2 W vs _ _ _ _ A).mono ?_
 rintro e W' he
 cases e with
 |returned B=>
  obtain ⟨ν',δ',hb,x⟩:=he
  have x:po (LL o) W' _ _ B (.bool true):=x
  cases x
  refine ⟨rfl,hb.ext.os,hb.ext.output,hb.ext.size,fun b z=>hb.ext.block b z fun E=> ?_⟩
  simp [Su] at E
 |panicked F=>exact he.elim
 |outgrown=>exact he.elim
theorem akK {H:Type}:(Rows.laid_math_bits_deBruijn32tab:DataW H)=Lib.tabData .u8 (Lib.deBruijn32tab.map fun n:Nat=>(n:Int)):=rfl
theorem akL {W:World} (h:laidMetH Tryz.prog [("math/bits.deBruijn32tab",Rows.laid_math_bits_deBruijn32tab)] W): ∃o,ai o/\W.heap[0]? =some o:=by
 have h':laidMet Tryz.prog [("math/bits.deBruijn32tab",Rows.laid_math_bits_deBruijn32tab)] W:=h
 rw [akK] at h'
 have z:Lib.TabIs Tryz.prog W "math/bits.deBruijn32tab" .u8 (Lib.deBruijn32tab.map fun n:Nat=>(n:Int)):=
  Lib.tabIs_of_head (rest:=[]) KM (by kernel_rfl) Tryz.underlying234 Tryz.underlying5 (by kernel_rfl) (by kernel_rfl) h'
 have hc: ∀j,j<Lib.deBruijn32tab.length->W.cell? ⟨0,j,none⟩=some (.int .u8 (Lib.deBruijn32tab.getD j 0:Nat)):=fun j hj=>by
  rw [z.cell KM j (by simpa using hj)]
  simp [List.getD,hj]
 have x:=hc 0 (by decide)
 cases q:W.heap[0]? with
 |none=>simp [World.cell?,q] at x
 |some o=>
  cases o with
  |cells cur e A=>
   refine ⟨_,⟨cur,e,A,rfl,fun j hj=> ?_⟩,rfl⟩
   have:=hc j hj
   simpa [World.cell?,q] using this
  |_=>simp [World.cell?,q] at x
end
end
section
noncomputable section
abbrev Rw (S:Type):=List PU->List (py UU)->(Out UU->Option S)->Option S
abbrev Kn (S:Type):=(Out UU->Option S)->Option S
noncomputable def iI (n:Int):PU:= .int .i64 n
noncomputable def iU (n:Int):PU:= .int .u32 n
noncomputable def pt (i:Nat):PU:= .ptr i 0
noncomputable def aT (t:Tm):PU:= .agg [.int .i64 t.k,.int .i64 t.n,.str t.name,bZ t.r .none,dO t.c .none,dN t.s .none]
noncomputable def aC (c:Cl):PU:= .agg [.int .u32 c.pos,.int .u32 c.neg]
noncomputable def aB (b:Br Tm):PU:= .agg [bZ b.f .none,dO b.c .none]
noncomputable def bT (t:Tm):py UU:= .cells [.int .i64 t.k,.int .i64 t.n,.str t.name,bZ t.r .none,dO t.c .none,dN t.s .none]
noncomputable def bC (c:Cl):py UU:= .cells [.int .u32 c.pos,.int .u32 c.neg]
noncomputable def bB (b:Br Tm):py UU:= .cells [bZ b.f .none,dO b.c .none]
noncomputable def bI (n:Int):py UU:= .cells [.int .i64 n]
noncomputable def bb (b:Bool):py UU:= .cells [.bool b]
noncomputable def sC (l:List Cl):PU:=bZ l .none
noncomputable def sT (l:List Tm):PU:=dO l .none
noncomputable def sB (l:List (Br Tm)):PU:=dN l .none
structure Cd where
 D:Type->Type
 k:{ρ:Type}->ρ->D ρ
 dec:{ρ:Type}->D ρ->PU->Option ρ
 A:{ρ:Type}->D ρ->(PU->ρ->Prop)->Prop
 law: ∀ {ρ:Type} (f:D ρ) (v:PU) (r:ρ) (Q:PU->ρ->Prop),A f Q->dec f v=some r->Q v r
structure Cs where
 D:Type->Type
 n:Nat
 k:{ρ:Type}->ρ->D ρ
 dec:{ρ:Type}->D ρ->List PU->Option ρ
 A:{ρ:Type}->D ρ->(List PU->ρ->Prop)->Prop
 law: ∀ {ρ:Type} (f:D ρ) (v:List PU) (r:ρ) (Q:List PU->ρ->Prop),A f Q->dec f v=some r->Q v r
 len: ∀ {ρ:Type} (f:D ρ) (v:List PU) (r:ρ),dec f v=some r->v.length=n
structure Bs where
 D:Type->Type
 n:Nat
 k:{ρ:Type}->ρ->D ρ
 dec:{ρ:Type}->D ρ->List (py UU)->Option ρ
 A:{ρ:Type}->D ρ->(List (py UU)->ρ->Prop)->Prop
 law: ∀ {ρ:Type} (f:D ρ) (v:List (py UU)) (r:ρ) (Q:List (py UU)->ρ->Prop),A f Q->dec f v=some r->Q v r
 len: ∀ {ρ:Type} (f:D ρ) (v:List (py UU)) (r:ρ),dec f v=some r->v.length=n
noncomputable def cn:Cs where
 D ρ:=ρ
 n:=0
 k r:=r
 dec f:=fun|[]=>some f|_=> .none
 A f Q:=Q [] f
 law f v r Q h e:=by split at e<;>cases e;exact h
 len f v r e:=by split at e<;>cases e;rfl
noncomputable def cc (c:Cd) (s:Cs):Cs where
 D ρ:=c.D (s.D ρ)
 n:=s.n+1
 k r:=c.k (s.k r)
 dec f:=fun|v::l=>(c.dec f v).bind fun g=>s.dec g l|[]=> .none
 A f Q:=c.A f fun v g=>s.A g fun l r=>Q (v::l) r
 law f v r Q h e:=by
  split at e
  ·obtain ⟨g,h1,h2⟩:=Option.bind_eq_some_iff.1 e
   have:=s.law g _ r _ (c.law f _ g _ h h1) h2;exact this
  ·cases e
 len f v r e:=by
  split at e
  ·obtain ⟨g,h1,h2⟩:=Option.bind_eq_some_iff.1 e
   simp [s.len g _ r h2]
  ·cases e
noncomputable def xn:Bs where
 D ρ:=ρ
 n:=0
 k r:=r
 dec f:=fun|[]=>some f|_=> .none
 A f Q:=Q [] f
 law f v r Q h e:=by split at e<;>cases e;exact h
 len f v r e:=by split at e<;>cases e;rfl
noncomputable def xc (c:Cs) (s:Bs):Bs where
 D ρ:=c.D (s.D ρ)
 n:=s.n+1
 k r:=c.k (s.k r)
 dec f:=fun| .cells v::l=>(c.dec f v).bind fun g=>s.dec g l|_=> .none
 A f Q:=c.A f fun v g=>s.A g fun l r=>Q (.cells v::l) r
 law f v r Q h e:=by
  split at e
  ·obtain ⟨g,h1,h2⟩:=Option.bind_eq_some_iff.1 e
   have:=s.law g _ r _ (c.law f _ g _ h h1) h2;exact this
  ·cases e
 len f v r e:=by
  split at e
  ·obtain ⟨g,h1,h2⟩:=Option.bind_eq_some_iff.1 e
   simp [s.len g _ r h2]
  ·cases e
noncomputable def cI:Cd where
 D ρ:=Int->ρ
 k r:=fun _=>r
 dec f:=fun| .int .i64 n=>some (f n)|_=> .none
 A f Q:= ∀n:Int,Q (iI n) (f n)
 law f v r Q h e:=by split at e<;>cases e;exact h _
noncomputable def cU:Cd where
 D ρ:=Int->ρ
 k r:=fun _=>r
 dec f:=fun| .int .u32 n=>some (f n)|_=> .none
 A f Q:= ∀n:Int,Q (iU n) (f n)
 law f v r Q h e:=by split at e<;>cases e;exact h _
noncomputable def cN (kd:IntKind):Cd where
 D ρ:=Int->ρ
 k r:=fun _=>r
 dec f:=fun| .int q n=>(match decEq q kd with| .isTrue _=>some (f n)| .isFalse _=> .none)|_=> .none
 A f Q:= ∀n:Int,Q (.int kd n) (f n)
 law f v r Q h e:=by
  split at e
  ·split at e
   ·rename_i x _;subst x;cases e;exact h _
   ·cases e
  ·cases e
noncomputable def cb:Cd where
 D ρ:=Bool->ρ
 k r:=fun _=>r
 dec f:=fun| .bool n=>some (f n)|_=> .none
 A f Q:= ∀n:Bool,Q (.bool n) (f n)
 law f v r Q h e:=by split at e<;>cases e;exact h _
noncomputable def cs:Cd where
 D ρ:=ByteArray->ρ
 k r:=fun _=>r
 dec f:=fun| .str n=>some (f n)|_=> .none
 A f Q:= ∀n:ByteArray,Q (.str n) (f n)
 law f v r Q h e:=by split at e<;>cases e;exact h _
noncomputable def lC:Cd where
 D ρ:=List Cl->ρ
 k r:=fun _=>r
 dec f:=fun| .sl .C n .none=>some (f n)|_=> .none
 A f Q:= ∀n:List Cl,Q (sC n) (f n)
 law f v r Q h e:=by split at e<;>cases e;exact h _
noncomputable def lT:Cd where
 D ρ:=List Tm->ρ
 k r:=fun _=>r
 dec f:=fun| .sl .T n .none=>some (f n)|_=> .none
 A f Q:= ∀n:List Tm,Q (sT n) (f n)
 law f v r Q h e:=by split at e<;>cases e;exact h _
noncomputable def lB:Cd where
 D ρ:=List (Br Tm)->ρ
 k r:=fun _=>r
 dec f:=fun| .sl .B n .none=>some (f n)|_=> .none
 A f Q:= ∀n:List (Br Tm),Q (sB n) (f n)
 law f v r Q h e:=by split at e<;>cases e;exact h _
noncomputable def lI:Cd where
 D ρ:=List Int->ρ
 k r:=fun _=>r
 dec f:=fun| .sl .I n .none=>some (f n)|_=> .none
 A f Q:= ∀n:List Int,Q (la n .none) (f n)
 law f v r Q h e:=by split at e<;>cases e;exact h _
noncomputable def lF:Cd where
 D ρ:=List (List Cl)->ρ
 k r:=fun _=>r
 dec f:=fun| .sl .F n .none=>some (f n)|_=> .none
 A f Q:= ∀n:List (List Cl),Q (Hm n .none) (f n)
 law f v r Q h e:=by split at e<;>cases e;exact h _
noncomputable def lD:Cd where
 D ρ:=List Df->ρ
 k r:=fun _=>r
 dec f:=fun| .sl .D n .none=>some (f n)|_=> .none
 A f Q:= ∀n:List Df,Q (km n .none) (f n)
 law f v r Q h e:=by split at e<;>cases e;exact h _
noncomputable def lG:Cd where
 D ρ:=List Df->ρ
 k r:=fun _=>r
 dec f:=fun| .sl .G n .none=>some (f n)|_=> .none
 A f Q:= ∀n:List Df,Q (su n .none) (f n)
 law f v r Q h e:=by split at e<;>cases e;exact h _
noncomputable def hV:Cd where
 D ρ:=List Vd->ρ
 k r:=fun _=>r
 dec f:=fun| .fresh .V n=>some (f n)|_=> .none
 A f Q:= ∀n:List Vd,Q (frV n) (f n)
 law f v r Q h e:=by split at e<;>cases e;exact h _
noncomputable def hC:Cd where
 D ρ:=List Cl->ρ
 k r:=fun _=>r
 dec f:=fun| .fresh .C n=>some (f n)|_=> .none
 A f Q:= ∀n:List Cl,Q (Ev n) (f n)
 law f v r Q h e:=by split at e<;>cases e;exact h _
noncomputable def hT:Cd where
 D ρ:=List Tm->ρ
 k r:=fun _=>r
 dec f:=fun| .fresh .T n=>some (f n)|_=> .none
 A f Q:= ∀n:List Tm,Q (frT n) (f n)
 law f v r Q h e:=by split at e<;>cases e;exact h _
noncomputable def hB:Cd where
 D ρ:=List (Br Tm)->ρ
 k r:=fun _=>r
 dec f:=fun| .fresh .B n=>some (f n)|_=> .none
 A f Q:= ∀n:List (Br Tm),Q (uf n) (f n)
 law f v r Q h e:=by split at e<;>cases e;exact h _
noncomputable def nB:Cd where
 D ρ:=ρ
 k r:=r
 dec f:=fun| .sl .B l .nil=>(match (l:List (Br Tm)) with|[]=>some f|_::_=> .none)|_=> .none
 A f Q:=Q (dN [] .nil) f
 law f v r Q h e:=by
  split at e
  ·split at e
   ·cases e;exact h
   ·cases e
  ·cases e
noncomputable def cT:Cd where
 D ρ:=Tm->ρ
 k r:=fun _=>r
 dec f:=fun| .agg [.int .i64 a,.int .i64 b,.str c,.sl .C d .none,.sl .T e .none,.sl .B g .none]=>some (f (Tm.mk a b c d e g))|_=> .none
 A f Q:= ∀t:Tm,Q (aT t) (f t)
 law f v r Q h e:=by split at e<;>cases e;exact h (Tm.mk _ _ _ _ _ _)
noncomputable def cC:Cd where
 D ρ:=Cl->ρ
 k r:=fun _=>r
 dec f:=fun| .agg [.int .u32 a,.int .u32 b]=>some (f ⟨a,b⟩)|_=> .none
 A f Q:= ∀t:Cl,Q (aC t) (f t)
 law f v r Q h e:=by split at e<;>cases e;exact h (⟨_,_⟩)
noncomputable def cB:Cd where
 D ρ:=Br Tm->ρ
 k r:=fun _=>r
 dec f:=fun| .agg [.sl .C a .none,.sl .T b .none]=>some (f (Br.mk a b))|_=> .none
 A f Q:= ∀t:Br Tm,Q (aB t) (f t)
 law f v r Q h e:=by split at e<;>cases e;exact h (Br.mk _ _)
noncomputable def xT (s:Bs):Bs where
 D ρ:=Tm->s.D ρ
 n:=s.n+1
 k r:=fun _=>s.k r
 dec f:=fun| .cells [.int .i64 a,.int .i64 b,.str c,.sl .C d .none,.sl .T e .none,.sl .B g .none]::l=>s.dec (f (Tm.mk a b c d e g)) l|_=> .none
 A f Q:= ∀t:Tm,s.A (f t) fun l r=>Q (bT t::l) r
 law f v r Q h e:=by
  split at e
  ·have:=s.law _ _ r _ (h (Tm.mk _ _ _ _ _ _)) e;exact this
  ·cases e
 len f v r e:=by
  split at e
  ·simp [s.len _ _ r e]
  ·cases e
noncomputable def xC (s:Bs):Bs where
 D ρ:=Cl->s.D ρ
 n:=s.n+1
 k r:=fun _=>s.k r
 dec f:=fun| .cells [.int .u32 a,.int .u32 b]::l=>s.dec (f ⟨a,b⟩) l|_=> .none
 A f Q:= ∀t:Cl,s.A (f t) fun l r=>Q (bC t::l) r
 law f v r Q h e:=by
  split at e
  ·have:=s.law _ _ r _ (h (⟨_,_⟩)) e;exact this
  ·cases e
 len f v r e:=by
  split at e
  ·simp [s.len _ _ r e]
  ·cases e
noncomputable def xI (s:Bs):Bs where
 D ρ:=Int->s.D ρ
 n:=s.n+1
 k r:=fun _=>s.k r
 dec f:=fun| .cells [.int .i64 a]::l=>s.dec (f a) l|_=> .none
 A f Q:= ∀t:Int,s.A (f t) fun l r=>Q (bI t::l) r
 law f v r Q h e:=by
  split at e
  ·have:=s.law _ _ r _ (h _) e;exact this
  ·cases e
 len f v r e:=by
  split at e
  ·simp [s.len _ _ r e]
  ·cases e
noncomputable def cp (i:Nat):Cd where
 D ρ:=ρ
 k r:=r
 dec f:=fun| .ptr j 0=>(match decEq j i with| .isTrue _=>some f| .isFalse _=> .none)|_=> .none
 A f Q:=Q (pt i) f
 law f v r Q h e:=by
  split at e
  ·split at e
   ·rename_i q _;subst q;cases e;exact h
   ·cases e
  ·cases e
noncomputable def cg (s:Cs):Cd where
 D ρ:=s.D ρ
 k r:=s.k r
 dec f:=fun| .agg l=>s.dec f l|_=> .none
 A f Q:=s.A f fun l r=>Q (.agg l) r
 law f v r Q h e:=by
  split at e
  ·have:=s.law f _ r _ h e;exact this
  ·cases e
noncomputable def cf (i:Nat) (s:Cs) (u:Cs):Cd where
 D ρ:=s.D (u.D ρ)
 k r:=s.k (u.k r)
 dec f:=fun| .func j l m=>(match decEq j i with| .isTrue _=>(s.dec f l).bind fun g=>u.dec g m| .isFalse _=> .none)|_=> .none
 A f Q:=s.A f fun l g=>u.A g fun m r=>Q (.func i l m) r
 law f v r Q h e:=by
  split at e
  ·split at e
   ·rename_i q _
    subst q
    obtain ⟨g,h1,h2⟩:=Option.bind_eq_some_iff.1 e
    have:=u.law g _ r _ (s.law f _ g _ h h1) h2;exact this
   ·cases e
  ·cases e
noncomputable def aj {S:Type} (K:Cs) (B:Bs) (F:K.D (B.D (Kn S))):Rw S:=fun vs bs κ=>(K.dec F vs).bind fun g=>(B.dec g bs).bind fun h=>h κ
noncomputable def uy (K:Cs) (B:Bs) (vs:List PU) (bs:List (py UU)):Bool:=((K.dec (K.k (B.k ())) vs).bind fun g=>B.dec g bs).isSome
noncomputable def AA {S:Type} (K:Cs) (B:Bs) (F:K.D (B.D (Kn S))) (Q:List PU->List (py UU)->Kn S->Prop):Prop:=K.A F fun vs g=>B.A g fun bs h=>Q vs bs h
theorem Ay {S:Type} {K:Cs} {B:Bs} {F:K.D (B.D (Kn S))} {Q:List PU->List (py UU)->Kn S->Prop} (hA:AA K B F Q) {vs:List PU} {bs:List (py UU)} {κ:Out UU->Option S} {x:S} (h:aj K B F vs bs κ=some x):
  ∃g,Q vs bs g/\g κ=some x/\vs.length=K.n/\bs.length=B.n:=by
 obtain ⟨g,h1,h2⟩:=Option.bind_eq_some_iff.1 h
 obtain ⟨u,q,z⟩:=Option.bind_eq_some_iff.1 h2
 have:=K.law F vs g _ hA h1
 have:=B.law g bs u _ this q
 exact ⟨u,this,z,K.len _ _ _ h1,B.len _ _ _ q⟩
noncomputable def Tl {S:Type} (o:Obj) (f:Nat) (r:Rw S):Prop:= ∀vs bs κ x,r vs bs κ=some x-> ∃out,ci (LL o) f vs bs out/\κ out=some x
noncomputable def vt {S:Type}:List (Nat×Rw S)->sN UU S
 |[],_,_,_,_=> .none
 |(g,r)::l,f,vs,bs,κ=>bif qy f g then r vs bs κ else vt l f vs bs κ
noncomputable def TA {S:Type} (o:Obj):List (Nat×Rw S)->Prop
 |[]=>True
 |(f,r)::l=>Tl o f r/\TA o l
theorem TA.tells {S:Type} {o:Obj}: ∀ {l:List (Nat×Rw S)},TA o l->(vt l).Tells (ci (LL o))
 |[],_,f,vs,bs,κ,x,h=>by cases h
 |(g,r)::l,hl,f,vs,bs,κ,x,h=>by
  unfold vt at h
  cases hb:qy f g with
  |true=>
   rw [hb] at h
   have:=Nat.eq_of_beq_eq_true hb
   subst this
   exact hl.1 _ _ _ _ h
  |false=>
   rw [hb] at h
   exact TA.tells hl.2 _ _ _ _ _ h
noncomputable def ol {S:Type} (b:List PU->List (py UU)->Bool) (r q:Rw S):Rw S:=fun vs bs κ=>bif b vs bs then r vs bs κ else q vs bs κ
theorem vw {S:Type} {o:Obj} {f:Nat} {b:List PU->List (py UU)->Bool} {r q:Rw S} (h1:Tl o f r) (h2:Tl o f q):Tl o f (ol b r q):=fun vs bs κ x h=>by
 unfold ol at h
 rcases ZM h with h|h
 ·exact h1 _ _ _ _ h
 ·exact h2 _ _ _ _ h
structure Fx (S:Type) where
 sd:sY UU
 rows:List (Nat×Rw S)
 loops:List (Nat×B1×List Bool)
 k:Nat
 fn:Func
 kp:Bool
 hn:List Bool
 nb:Nat
 cd:Option (PU->sN UU S)
noncomputable def Jm:List (Nat×B1×List Bool)->Nat->Option B1
 |[],_=> .none
 |(i,a,_)::l,n=>bif qy n i then some a else Jm l n
noncomputable def Fl:List (Nat×B1×List Bool)->Nat->B1×List Bool
 |[],_=>(⟨[],[]⟩,[])
 |(i,a)::l,n=>bif qy n i then a else Fl l n
noncomputable def aS (rs:List Nat) (bs:List (Nat×Nat)):B1:=⟨rs.map fun n=>(n,.none),bs.map fun p=>(p.1,List.replicate p.2 .none)⟩
noncomputable def ap:Nat->Nat->List Bool
 |0,_=>[]
 |n+1,b=>qy (b%2) 1::ap n (b/2)
noncomputable def fx {S:Type} (nt:Nat) (q:Nat->List Bool) (ip:Nat->Bool) (rows:List (Nat×Rw S)) (loops:List (Nat×B1×List Bool)) (k:Nat) (fn:Func) (kp:Bool) (hn:List Bool) (nb:Nat):Fx S:=
 ⟨⟨nt,q,ip,.none,fun _=>false⟩,rows,loops,k,fn,kp,hn,nb,.none⟩
noncomputable def fp {S:Type} (nt:Nat) (rows:List (Nat×Rw S)) (loops:List (Nat×B1×List Bool)) (k:Nat) (fn:Func) (nb:Nat):Fx S:=fx nt (fun _=>[]) (fun _=>false) rows loops k fn false [] nb
variable {S:Type}
noncomputable def Fx.oc (F:Fx S):sN UU S:=vt F.rows
noncomputable def Fx.an (F:Fx S):Nat->Option B1:=Jm F.loops
noncomputable def Fx.go (F:Fx S) (c:Code) (σ:St UU) (κ:Ex UU->St UU->Option S):Option S:=PI.run VV F.sd F.oc F.an F.k c σ κ
noncomputable def Fx.kt (F:Fx S) (κ:Out UU->Option S) (p:List Bool) (q:List (St UU->Option S)):Ex UU->St UU->Option S:=match F.cd with
 | .none=>kn VV F.sd F.oc F.an F.k (Md F.fn) p q F.an (kF VV F.oc F.kp F.hn F.fn F.nb κ)
 |some C=>Lz VV F.sd F.oc F.an F.k (Md F.fn) p q F.an (kF VV F.oc F.kp F.hn F.fn F.nb κ) (kD VV F.oc C F.kp F.hn F.fn F.nb κ)
noncomputable def Fx.run (F:Fx S) (vs:List PU) (bs:List (py UU)) (κ:Out UU->Option S):Option S:=match F.cd with
 | .none=>rC VV F.sd F.oc F.an F.k F.kp F.hn F.fn vs bs κ
 |some C=>G4 VV F.sd F.oc F.an F.k C F.kp F.hn F.fn vs bs κ
noncomputable def Fx.A (F:Fx S) (i:Nat):B1:=(Fl F.loops i).1
noncomputable def Fx.p (F:Fx S) (i:Nat):List Bool:=(Fl F.loops i).2
noncomputable def Fx.lp (F:Fx S) (κ:Out UU->Option S) (i:Nat) (q:List (St UU->Option S)) (n:Nat) (σ:St UU):Option S:=
 uR (Ho (F.A i)) (fun σ κ=>F.go (g9 (Md F.fn) (F.p i++[false])) σ κ) n σ (F.kt κ (F.p i) q)
noncomputable def Fx.st (F:Fx S) (κ:Out UU->Option S) (i:Nat) (q:List (St UU->Option S)) (r:St UU->Option S) (σ:St UU):Option S:=
 F.go (g9 (Md F.fn) (F.p i++[false])) σ (back (Ho (F.A i)) r (F.kt κ (F.p i) q))
noncomputable def Fx.jn (F:Fx S) (κ:Out UU->Option S) (i:Nat) (q:List (St UU->Option S)) (n:Nat) (σ:St UU):Option S:=
 ER (fun σ κ=>F.go (g9 (Md F.fn) (F.p i)) σ κ) n σ (F.kt κ (F.p i) q)
noncomputable def Fx.sj (F:Fx S) (κ:Out UU->Option S) (i:Nat) (q:List (St UU->Option S)) (σ:St UU):Option S:=F.go (g9 (Md F.fn) (F.p i)) σ (F.kt κ (F.p i) q)
theorem Fx.lp_succ (F:Fx S) (κ:Out UU->Option S) (i:Nat) (q:List (St UU->Option S)) (n:Nat) (σ:St UU):F.lp κ i q (n+1) σ=F.st κ i q (fun τ=>F.lp κ i q n τ) σ:=rfl
theorem Fx.jn_succ (F:Fx S) (κ:Out UU->Option S) (i:Nat) (q:List (St UU->Option S)) (n:Nat) (σ:St UU):F.jn κ i q (n+1) σ=F.sj κ i q σ:=rfl
noncomputable def vu (F:Fx S) (n m:Nat):Bool:=(F.fn.name== "runtime.NumGoroutine")==false&&(F.fn.body.isNone==false&&(qy F.fn.ntmps F.sd.nt&&(xp F.sd.nt 1000000&&(xp n F.sd.nt&&xp m 1000000))))
theorem FV {F:Fx S} {n m:Nat} (h:vu F n m=true):(F.fn.name== "runtime.NumGoroutine")=false/\F.fn.body.isNone=false/\F.fn.ntmps=F.sd.nt/\F.sd.nt<=1000000/\n<=F.sd.nt/\m<=1000000:=by
 unfold vu at h
 simp only [pX,beq_iff_eq] at h
 obtain ⟨h1,h2,q,x,z,A⟩:=h
 exact ⟨h1,h2,Nat.eq_of_beq_eq_true q,Nat.le_of_ble_eq_true x,Nat.le_of_ble_eq_true z,Nat.le_of_ble_eq_true A⟩
theorem ak {o:Obj} {K:Cs} {B:Bs} {R:K.D (B.D (Kn S))} (F:Fx S) {f:FuncId} (z:TA o F.rows) (hf:Tryz.prog.funcs[f]? =some F.fn) (hb:vu F K.n B.n=true) (run:AA K B R fun vs bs g=> ∀κ x,g κ=some x->F.run vs bs κ=some x)
  (h1:F.sd.nj= .none:=by rfl) (h2:F.sd.ni=(fun _=>false):=by rfl) (A:F.cd= .none:=by rfl):Tl o f (aj K B R):=fun vs bs κ x h=>by
 obtain ⟨g,E,I,hl,T⟩:=Ay run h
 have q:=E κ x I
 unfold Fx.run at q
 rw [A] at q
 obtain ⟨J,L,M,O,W,Y⟩:=FV hb
 exact sw (QJ Ax (Ad o) h1 h2 z.tells hf J L M O (by omega) q)
open Classical in
noncomputable def DB {S:Type} (bs:List (py UU)) (κ:Out UU->Option S):Out UU->Option S
 | .ret v cs=>if cs=bs then κ (.ret v []) else .none
 | .panic .. => .none
theorem tlS {S:Type} {o:Obj} {K:Cs} {B:Bs} {R:K.D (B.D (Kn S))} {f:FuncId} {r:Rw S} (h:Tl o f r) (run:AA K B R fun vs bs g=> ∀κ x,g κ=some x->r vs bs (DB bs κ)=some x):Tl o f (aj K B R):=fun vs bs κ x z=>by
 obtain ⟨g,E,z,_⟩:=Ay run z
 obtain ⟨out,A,q⟩:=h _ _ _ _ (E κ x z)
 cases out with
 |panic v cs=>cases q
 |ret v cs=>
  simp only [DB] at q
  split at q
  case isFalse=>cases q
  rename_i hc
  subst hc
  refine ⟨.ret v [], ?_,q⟩
  have e:Out.full cs (.ret v [])=Out.full cs (.ret v cs):=by
   have hb:xp cs.length cs.length=true:=by simp
   simp only [Out.full,hb,cond_true]
   cases cs<;>rfl
  unfold ci
  rw [e]
  exact A
open Classical in
noncomputable def SJ {S:Type} (n m:Nat) (bs:List (py UU)) (κ:Out UU->Option S):Out UU->Option S
 | .ret v cs=>match cs[n]? with
  |some (.cells a)=>if xp bs.length 1=false/\Nb bs [.cells (.int .i64 n::a.take m)]=cs then κ (.ret v [.cells (.int .i64 n::a.take m)]) else .none
  |_=> .none
 | .panic .. => .none
theorem j3 {S:Type} {o:Obj} {K:Cs} {B:Bs} {R:K.D (B.D (Kn S))} {f:FuncId} {r:Rw S} {n m:Nat} (h:Tl o f r) (run:AA K B R fun vs bs g=> ∀κ x,g κ=some x->r vs bs (SJ n m bs κ)=some x):Tl o f (aj K B R):=fun vs bs κ x z=>by
 obtain ⟨g,E,z,_⟩:=Ay run z
 obtain ⟨out,A,q⟩:=h _ _ _ _ (E κ x z)
 cases out with
 |panic v cs=>cases q
 |ret v cs=>
  simp only [SJ] at q
  split at q
  case h_2=>cases q
  rename_i a ha
  split at q
  case isFalse=>cases q
  rename_i hc
  obtain ⟨hl,hc⟩:=hc
  refine ⟨.ret v _, ?_,q⟩
  have e:Out.full bs (.ret v [.cells (.int .i64 n::a.take m)])=Out.full bs (.ret v cs):=by
   have h1:Out.full bs (.ret v [.cells (.int .i64 n::a.take m)])= .ret v cs:=by
    simp only [Out.full]
    rw [show [(py.cells (.int .i64 n::a.take m):py UU)].length=1 from rfl,hl,cond_false,hc]
   have h2:cs.length=bs.length:=by
    rw [<-hc];unfold Nb;split<;>(try split)<;>simp
   have F:xp bs.length cs.length=true:=by rw [h2];simp
   rw [h1]
   simp only [Out.full,F,cond_true]
  unfold ci
  rw [e]
  exact A
theorem dz {o:Obj} {K:Cs} {B:Bs} {R:K.D (B.D (Kn S))} {f:FuncId} (q:AA K B R fun vs bs g=> ∀κ x,g κ=some x->False):Tl o f (aj K B R):=fun vs bs κ x h=>by
 obtain ⟨g,z,A,_⟩:=Ay q h
 exact (z κ x A).elim
noncomputable def o9 (nt f:Nat) (fn:Func) (k:Nat):PU->sN UU S:=fun v g vs bs κ=>bif qy g f&&xp vs.length nt then G5 VV ⟨nt,fun _=>[],fun _=>false,.none,fun _=>false⟩ (vt []) (fun _=> .none) k true [] fn v vs bs κ else .none
theorem yn (o:Obj) {nt f:Nat} {fn:Func} {k:Nat} (hf:Tryz.prog.funcs[f]? =some fn) (hb:vu (fp nt [] [] k fn 0:Fx S) 0 0=true): ∀v u q,BX v u q->(o9 (S:=S) nt f fn k v).Tells (jS (LL o) (jM Tryz.prog u q)):=by
 intro v u q hv g vs bs κ x h
 unfold o9 at h
 cases hc:qy g f&&xp vs.length nt with
 |false=>rw [hc] at h;cases h
 |true=>
  rw [hc] at h
  rw [pX] at hc
  have:=Nat.eq_of_beq_eq_true hc.1
  subst this
  obtain ⟨z,A,B,E,_,_⟩:=FV hb
  exact sw (aiz Ax (Ad o) rfl rfl (TA.tells (l:=[]) (o:=o) trivial) hf z A B E hv (Nat.le_of_ble_eq_true hc.2) h)
theorem BZ {o:Obj} {K:Cs} {B:Bs} {R:K.D (B.D (Kn S))} (F:Fx S) {f:FuncId} {C:PU->sN UU S} (A:F.cd=some C) (hC: ∀v u z,BX v u z->(C v).Tells (jS (LL o) (jM Tryz.prog u z))) (E:TA o F.rows) (hf:Tryz.prog.funcs[f]? =some F.fn) (hb:vu F K.n B.n=true)
  (run:AA K B R fun vs bs g=> ∀κ x,g κ=some x->F.run vs bs κ=some x) (h1:F.sd.nj= .none:=by rfl):Tl o f (aj K B R):=fun vs bs κ x h=>by
 obtain ⟨g,I,J,hl,W⟩:=Ay run h
 have q:=I κ x J
 unfold Fx.run at q
 rw [A] at q
 obtain ⟨L,M,O,T,Y,b6⟩:=FV hb
 exact sw (aix Ax (Ad o) h1 E.tells hC hf L M O T (by omega) (by omega) q)
theorem ou {o:Obj} {K:Cs} {B:Bs} {R:K.D (B.D (Kn S))} (F:Fx S) {f:FuncId} (q:TA o F.rows) (hf:Tryz.prog.funcs[f]? =some F.fn) (run:AA K B R fun vs bs g=> ∀κ x,g κ=some x->F.run vs bs κ=some x) (hb:vu F K.n B.n=true:=by kernel_rfl)
  (h1:F.sd.nj= .none:=by rfl) (h2:F.sd.ni=(fun _=>false):=by rfl) (z:F.cd= .none:=by rfl):Tl o f (aj K B R):=ak F q hf hb run h1 h2 z
theorem gL {F:Fx S} {κ:Out UU->Option S} {i:Nat} {q:List (St UU->Option S)} {mk:St UU} {l:Nat->Option S} (b:Option S) (x:l 0= .none:=by rfl) (hs: ∀n,l (n+1)=b:=by intros;rfl) (B:F.sj κ i q mk=b:=by intros;kernel_rfl): ∀ (n:Nat),F.jn κ i q n mk=l n:=by
 intro n
 cases n with
 |zero=>intros;rw [x];rfl
 |succ n=>intros;rw [hs,Fx.jn_succ];exact B
theorem cF {F:Fx S} {κ:Out UU->Option S} {i:Nat} {z:List (St UU->Option S)} {x:Type} {mk:x->St UU} {l:Nat->x->Option S} (b:(x->Option S)->x->Option S) (A:l 0=fun q=> .none:=by rfl) (hs: ∀n,l (n+1)=b (l n):=by intros;rfl) (B: ∀ (r:St UU->Option S) q,F.st κ i z r (mk q)=b (fun q=>r (mk q)) q:=by intros;kernel_rfl): ∀ (n:Nat) q,F.lp κ i z n (mk q)=l n q:=by
 intro n
 induction n with
 |zero=>intros;rw [A];rfl
 |succ n E=>
  intros
  rw [hs,Fx.lp_succ,B]
  exact congrArg (fun g=>b g _) (funext fun q=>E q)
theorem jn1 {F:Fx S} {κ:Out UU->Option S} {i:Nat} {z:List (St UU->Option S)} {q:Type} {mk:q->St UU} {l:Nat->q->Option S} (b:q->Option S) (A:l 0=fun x=> .none:=by rfl) (hs: ∀n,l (n+1)=b:=by intros;rfl) (B: ∀x,F.sj κ i z (mk x)=b x:=by intros;kernel_rfl): ∀ (n:Nat) x,F.jn κ i z n (mk x)=l n x:=by
 intro n
 cases n with
 |zero=>intros;rw [A];rfl
 |succ n=>intros;rw [hs,Fx.jn_succ];exact B _
theorem aL {F:Fx S} {κ:Out UU->Option S} {i:Nat} {A:List (St UU->Option S)} {x z:Type} {mk:x->z->St UU} {l:Nat->x->z->Option S} (b:(x->z->Option S)->x->z->Option S) (E:l 0=fun q x1=> .none:=by rfl) (hs: ∀n,l (n+1)=b (l n):=by intros;rfl) (B: ∀ (r:St UU->Option S) q x1,F.st κ i A r (mk q x1)=b (fun q x1=>r (mk q x1)) q x1:=by intros;kernel_rfl): ∀ (n:Nat) q x1,F.lp κ i A n (mk q x1)=l n q x1:=by
 intro n
 induction n with
 |zero=>intros;rw [E];rfl
 |succ n I=>
  intros
  rw [hs,Fx.lp_succ,B]
  exact congrArg (fun g=>b g _ _) (funext fun q=>funext fun x1=>I q x1)
theorem Lb {F:Fx S} {κ:Out UU->Option S} {i:Nat} {A:List (St UU->Option S)} {q x:Type} {mk:q->x->St UU} {l:Nat->q->x->Option S} (b:q->x->Option S) (E:l 0=fun z x1=> .none:=by rfl) (hs: ∀n,l (n+1)=b:=by intros;rfl) (B: ∀z x1,F.sj κ i A (mk z x1)=b z x1:=by intros;kernel_rfl): ∀ (n:Nat) z x1,F.jn κ i A n (mk z x1)=l n z x1:=by
 intro n
 cases n with
 |zero=>intros;rw [E];rfl
 |succ n=>intros;rw [hs,Fx.jn_succ];exact B _ _
theorem EG {F:Fx S} {κ:Out UU->Option S} {i:Nat} {E:List (St UU->Option S)} {x z A:Type} {mk:x->z->A->St UU} {l:Nat->x->z->A->Option S} (b:(x->z->A->Option S)->x->z->A->Option S) (I:l 0=fun q x1 x2=> .none:=by rfl) (hs: ∀n,l (n+1)=b (l n):=by intros;rfl) (B: ∀ (r:St UU->Option S) q x1 x2,F.st κ i E r (mk q x1 x2)=b (fun q x1 x2=>r (mk q x1 x2)) q x1 x2:=by intros;kernel_rfl): ∀ (n:Nat) q x1 x2,F.lp κ i E n (mk q x1 x2)=l n q x1 x2:=by
 intro n
 induction n with
 |zero=>intros;rw [I];rfl
 |succ n J=>
  intros
  rw [hs,Fx.lp_succ,B]
  exact congrArg (fun g=>b g _ _ _) (funext fun q=>funext fun x1=>funext fun x2=>J q x1 x2)
theorem lp9 {F:Fx S} {κ:Out UU->Option S} {i:Nat} {W:List (St UU->Option S)} {z A E I J L M O T:Type} {mk:z->A->E->I->J->L->M->O->T->St UU} {l:Nat->z->A->E->I->J->L->M->O->T->Option S} (b:(z->A->E->I->J->L->M->O->T->Option S)->z->A->E->I->J->L->M->O->T->Option S) (Y:l 0=fun q x1 x2 x3 x4 x5 x6 x x8=> .none:=by rfl) (hs: ∀n,l (n+1)=b (l n):=by intros;rfl) (B: ∀ (r:St UU->Option S) q x1 x2 x3 x4 x5 x6 x x8,F.st κ i W r (mk q x1 x2 x3 x4 x5 x6 x x8)=b (fun q x1 x2 x3 x4 x5 x6 x x8=>r (mk q x1 x2 x3 x4 x5 x6 x x8)) q x1 x2 x3 x4 x5 x6 x x8:=by intros;kernel_rfl): ∀ (n:Nat) q x1 x2 x3 x4 x5 x6 x x8,F.lp κ i W n (mk q x1 x2 x3 x4 x5 x6 x x8)=l n q x1 x2 x3 x4 x5 x6 x x8:=by
 intro n
 induction n with
 |zero=>intros;rw [Y];rfl
 |succ n ih=>
  intros
  rw [hs,Fx.lp_succ,B]
  exact congrArg (fun g=>b g _ _ _ _ _ _ _ _ _) (funext fun q=>funext fun x1=>funext fun x2=>funext fun x3=>funext fun x4=>funext fun x5=>funext fun x6=>funext fun x=>funext fun x8=>ih q x1 x2 x3 x4 x5 x6 x x8)
theorem aG2 {F:Fx S} {κ:Out UU->Option S} {i:Nat} {ax:List (St UU->Option S)} {I J L M O T W Y ad ao x:Type} {mk:I->J->L->M->O->T->W->Y->ad->ao->x->St UU} {l:Nat->I->J->L->M->O->T->W->Y->ad->ao->x->Option S} (b:(I->J->L->M->O->T->W->Y->ad->ao->x->Option S)->I->J->L->M->O->T->W->Y->ad->ao->x->Option S) (h0:l 0=fun z x1 x2 x3 x4 x5 x6 A x8 E q=> .none:=by rfl) (hs: ∀n,l (n+1)=b (l n):=by intros;rfl) (B: ∀ (r:St UU->Option S) z x1 x2 x3 x4 x5 x6 A x8 E q,F.st κ i ax r (mk z x1 x2 x3 x4 x5 x6 A x8 E q)=b (fun z x1 x2 x3 x4 x5 x6 A x8 E q=>r (mk z x1 x2 x3 x4 x5 x6 A x8 E q)) z x1 x2 x3 x4 x5 x6 A x8 E q:=by intros;kernel_rfl): ∀ (n:Nat) z x1 x2 x3 x4 x5 x6 A x8 E q,F.lp κ i ax n (mk z x1 x2 x3 x4 x5 x6 A x8 E q)=l n z x1 x2 x3 x4 x5 x6 A x8 E q:=by
 intro n
 induction n with
 |zero=>intros;rw [h0];rfl
 |succ n ih=>
  intros
  rw [hs,Fx.lp_succ,B]
  exact congrArg (fun g=>b g _ _ _ _ _ _ _ _ _ _ _) (funext fun z=>funext fun x1=>funext fun x2=>funext fun x3=>funext fun x4=>funext fun x5=>funext fun x6=>funext fun A=>funext fun x8=>funext fun E=>funext fun q=>ih z x1 x2 x3 x4 x5 x6 A x8 E q)
end
end
section
noncomputable def wG:sY UU:=⟨8,fun _=>[],fun _=>false,.none,fun _=>false⟩
noncomputable def AE {S:Type}:sN UU S:=fun _ _ _ _=> .none
theorem c1 {S:Type} (κ:Out UU->Option S):rC VV wG AE (fun _=> .none) 5 false [] Tryz.f79 [.sl (U:=UU) ET.C [] .void] [] κ=κ (.ret (bZ [] .none) []):=by kernel_rfl
theorem c2 {S:Type} (l:List Cl) (κ:Out UU->Option S):rC VV wG AE (fun _=> .none) 5 false [] Tryz.f79 [.sl (U:=UU) ET.C l .sure] [] κ=nW (aw 1099511627776 0 l.length) fun _=>κ (.ret (bZ l .none) []):=by kernel_rfl
theorem ahy {S:Type} (o:Obj):(AE (S:=S)).Tells (ci (LL o)):=fun _ _ _ _ _ h=>by cases h
theorem JC (o:Obj) {args:List PU} (hl:args.length=1) {out:Out UU} (h:rC VV wG AE (fun _=> .none) 5 false [] Tryz.f79 args [] some=some out):ci (LL o) 79 args [] out:=by
 obtain ⟨q,h1,h2⟩:=QJ Ax (Ad o) (S:=wG) rfl rfl (ahy o) (f:=79) Tryz.func79 (by kernel_rfl) rfl rfl (by decide) (by rw [hl];decide) h
 injection h1 with h1
 exact h1▸h2
theorem KS {X:qx VV Tryz.prog} {w:World} {vs:Array Value} {N0:aN} {ν:Nat->Nat} {δ:Nat->Option Nat} {ο:Nat->Array Value} {p q:PU} (h:uL X w vs N0 ν δ ο [p] [])
  (x:uc X w (NB N0 0 ν δ) (gB UU 0 ν) (vs.getD 0 undef) (δ 0) p->uc X w (NB N0 0 ν δ) (gB UU 0 ν) (vs.getD 0 undef) (δ 0) q):uL X w vs N0 ν δ ο [q] []:=
 {h with
  args:=fun j r hj=>by
   cases j with
   |zero=>
    injection hj with hj
    subst hj
    exact x (h.args 0 p rfl)
   |succ j=>simp at hj}
theorem Z5 (o:Obj) (l:List Cl) {u:Unit} (q:aw 1099511627776 0 l.length=some u):ci (LL o) 79 [bZ l .none] [] (.ret (bZ l .none) []):=by
 refine ⟨⟨Tryz.f79,Tryz.func79,by kernel_rfl,rfl⟩,fun w vs N0 ν δ ο z=> ?_⟩
 have E:po (LL o) w (NB N0 0 ν δ) (gB UU 0 ν) (vs.getD 0 undef) (bZ l .none):=z.args 0 _ rfl
 generalize hv:vs.getD 0 undef=v at E
 cases E with
 |sl A n c _ _ _ val hl hc _ h1 h2=>
 cases A with
 |none=>
  have B:l=[]:=by
   cases l with
   |nil=>rfl
   |cons x r=>
    obtain ⟨a,ha,_⟩:=h1 0 x rfl 0 _ rfl
    cases ha
  subst B
  exact (JC o (args:=[bZ [] .void]) rfl (c1 some)).2 w vs N0 ν δ ο (KS z fun _=>by
   rw [hv];exact po.sl (X:=LL o) none n c ET.C (show List Cl from []) .void val hl hc rfl h1 h2)
 |some a=>
  refine (JC o (args:=[bZ l .sure]) rfl (out:= .ret (bZ l .none) []) ((c2 l some).trans (by rw [q];rfl))).2 w vs N0 ν δ ο (KS z fun _=> ?_)
  rw [hv]
  exact po.sl (X:=LL o) (some a) n c ET.C l .sure val hl hc (fun h=>by cases h) h1 h2
theorem akS {S:Type} (o:Obj) (ho:ai o) (vs:List PU) (bs:List (py UU)) (κ:Out UU->Option S) (x:S) (h:G2 vs bs κ=some x): ∃out,ci (LL o) acO vs bs out/\κ out=some x:=by
 unfold G2 at h
 split at h
 case h_2=>cases h
 rename_i κ y
 unfold iu at h
 obtain ⟨u,q,h⟩:=Option.bind_eq_some_iff.1 h
 exact ⟨_,Z5 o y q,h⟩
end
section
noncomputable section
variable {S:Type}
noncomputable abbrev xP:Ob UU:=⟨0,ET.B,([]:List (Br Tm))⟩
noncomputable abbrev zn:Ob UU:=⟨0,ET.T,([]:List Tm)⟩
noncomputable abbrev xW:Ob UU:=⟨0,ET.C,([]:List Cl)⟩
noncomputable abbrev zw:PV UU:= .str oW
abbrev ql (n:Nat):Option (Nat×Bool):=some (n,true)
abbrev nM {α:Type}:Option α:= .none
theorem px {R S:Type} {k:Nat} {f:(R->Option S)->Option S} {g:R->Option S} {a:Option S} {x:S} (h:aa k f g=some x) (e:a=f g:=by kernel_rfl):a=some x:=e.trans (al h)
def pW:Cs:=cc cI (cc lT cn)
def dV:Cs:=cc cI (cc cI cn)
def Ag:Cs:=cc cT (cc cI cn)
def Lh:Cs:=cc cT (cc cI (cc cI (cc (cp 0) cn)))
def fh:Bs:=xI xn
def kX5:Cs:=cc cT (cc (cf 117 cn (cc (cp 0) cn)) cn)
def kX6:Cs:=cc cT (cc (cf 119 cn (cc (cp 0) cn)) cn)
def xX7:Bs:=xc (cc (cf 118 cn (cc (cp 1) (cc (cp 0) cn))) cn) (xI xn)
def kX8:Cs:=cc cT (cc (cp 0) (cc (cp 1) cn))
def xX9:Bs:=xI (xc (cc (cf 118 cn (cc (cp 0) (cc (cp 1) cn))) cn) xn)
def Ez:Cs:=cc cT cn
def Mw:Cs:=cc cI cn
def Ld:Cs:=cc cs cn
def uG:Cs:=cc cU cn
def ny:Cs:=cc cC cn
def uH:Cs:=cc cC (cc cC cn)
def EU:Cs:=cc cC (cc (cp 0) cn)
def wC:Bs:=xC xn
def Le:Cs:=cc lC (cc (cf 209 cn (cc (cp 0) cn)) cn)
def alt:Bs:=xc (cc lC cn) xn
def eo:Cs:=cc lC cn
def jk:Cs:=cc lC (cc lC cn)
def lS:Cs:=cc cU (cc cI cn)
def EV:Cs:=cc lC (cc cI cn)
def Lf:Cs:=cc lC (cc (cf 175 cn cn) cn)
def n1:Cs:=cc cT (cc cI (cc cI cn))
def Lg:Cs:=cc cT (cc cI (cc cI (cc cb cn)))
def adA:Cs:=cc cT (cc cI (cc cI (cc (cp 0) (cc (cp 1) (cc (cp 2) cn)))))
def Ut:Bs:=xI (xI (xc (cc cb cn) xn))
def adB:Cs:=cc cT (cc (cf 59 cn (cc (cp 0) (cc (cp 1) (cc (cp 2) cn)))) cn)
def EW:Cs:=cc lT cn
def EX:Cs:=cc (cp 0) cn
def adC:Cs:=cc cT (cc (cf 197 cn (cc (cp 0) cn)) cn)
def adD:Cs:=cc lF cn
def adE:Cs:=cc cU (cc cI (cc cI cn))
def Li:Cs:=cc cC (cc cI (cc cI cn))
def Lj:Cs:=cc hC (cc cC (cc (cp 0) (cc (cp 1) cn)))
def qE:Bs:=xI (xI xn)
def aGz:Cs:=cc lC (cc hC (cc (cf 203 cn (cc (cp 0) (cc (cp 1) cn))) cn))
def adG:Cs:=cc lC (cc cI (cc cI cn))
def EY:Cs:=cc (cg (cc cI (cc cI cn))) (cc lC (cc cI cn))
def adH:Cs:=cc (cg (cc cI (cc cI cn))) (cc cT (cc cI (cc cI cn)))
def adI:Cs:=cc (cp 0) (cc (cp 1) (cc (cp 2) cn))
def aDy:Bs:=xI (xI (xT xn))
def aGA:Cs:=cc cT (cc lI (cc (cf 155 cn (cc (cp 0) (cc (cp 1) (cc (cp 2) cn)))) cn))
def adJ:Cs:=cc cT (cc cI (cc cT (cc cI (cc cI cn))))
def E0:Cs:=cc cT (cc (cf 199 cn (cc (cp 0) cn)) cn)
def Ai:Cs:=cc cT (cc cI (cc cT cn))
def h3:Cs:=cc (cp 0) (cc cT (cc cI cn))
def je:Cs:=cc (cp 0) (cc cT (cc cT cn))
def adL:Cs:=cc cB cn
def E1:Cs:=cc lB (cc (cf 193 cn cn) cn)
def Lk:Cs:=cc lB cn
def aBu:Cs:=cc cT (cc cI (cc lC cn))
def adM:Cs:=cc (cf 221 cn cn) (cc (cp 0) (cc (cp 1) cn))
def gG:Bs:=xI (xc (cc lC cn) xn)
def adO:Cs:=cc (cf 222 cn cn) (cc (cp 0) (cc (cp 1) cn))
def adP:Cs:=cc cI (cc lC cn)
def Ll:Cs:=cc lC (cc (cf 190 cn cn) cn)
def adQ:Cs:=cc lC (cc (cf 189 cn (cc (cp 0) cn)) cn)
def Aj:Cs:=cc lC (cc cC cn)
def E2:Cs:=cc lC (cc lC (cc (cf 264 cn cn) cn))
def aBv:Cs:=cc lC (cc cI (cc lC cn))
def adS:Cs:=cc lC (cc cI (cc (cp 0) (cc (cp 1) (cc (cp 2) cn))))
def aJr:Bs:=xI (xc (cc lC cn) (xc (cc (cf 222 cn cn) cn) xn))
def aGD:Cs:=cc lC (cc cC (cc (cp 0) (cc (cp 1) cn)))
def E3:Cs:=cc lC (cc lC (cc (cf 244 cn (cc (cp 0) (cc (cp 1) cn))) cn))
def Je:Bs:=xI (xc (cc lC cn) (xc (cc (cf 221 cn cn) cn) xn))
def Lm:Cs:=cc (cg (cc (cf 218 cn (cc (cp 0) (cc (cp 1) (cc (cp 2) cn)))) (cc (cf 218 cn (cc (cp 0) (cc (cp 1) (cc (cp 3) cn)))) cn))) (cc cT (cc cI cn))
def hi:Bs:=xI (xc (cc lC cn) (xc (cc (cf 221 cn cn) cn) (xc (cc (cf 222 cn cn) cn) xn)))
def Ln:Cs:=cc cI (cc (cp 0) cn)
def Uw:Bs:=xT xn
def adV:Cs:=cc (cg (cc (cf 218 cn (cc (cp 0) (cc (cp 1) (cc (cp 2) cn)))) (cc (cf 218 cn (cc (cp 0) (cc (cp 1) (cc (cp 3) cn)))) cn))) (cc lT (cc cI (cc (cf 226 cn (cc (cp 4) cn)) cn)))
def alw:Bs:=xI (xc (cc lC cn) (xc (cc (cf 221 cn cn) cn) (xc (cc (cf 222 cn cn) cn) (xI xn))))
def adW:Cs:=cc (cg (cc (cf 218 cn (cc (cp 0) (cc (cp 1) (cc (cp 2) cn)))) (cc (cf 218 cn (cc (cp 0) (cc (cp 1) (cc (cp 3) cn)))) cn))) (cc lT (cc cI (cc (cf 225 cn (cc (cp 4) cn)) cn)))
def aJs:Bs:=xI (xc (cc lC cn) (xc (cc (cf 221 cn cn) cn) (xc (cc (cf 222 cn cn) cn) (xT xn))))
def Lp:Cs:=cc lC (cc cI (cc (cp 0) cn))
def adX:Cs:=cc (cg (cc (cf 227 cn (cc (cp 0) cn)) (cc (cf 227 cn (cc (cp 0) cn)) cn))) (cc cT (cc cI cn))
def aBw:Cs:=cc (cg (cc (cf 227 cn (cc (cp 0) cn)) (cc (cf 227 cn (cc (cp 0) cn)) cn))) (cc lT (cc cI (cc (cf 226 cn (cc (cp 1) cn)) cn)))
def Lq:Cs:=cc (cg (cc (cf 227 cn (cc (cp 0) cn)) (cc (cf 227 cn (cc (cp 0) cn)) cn))) (cc lT (cc cI (cc (cf 225 cn (cc (cp 1) cn)) cn)))
def aJt:Bs:=xI (xT xn)
def Lr:Cs:=cc (cp 0) (cc cT (cc lC cn))
def Ls:Cs:=cc (cp 0) (cc cT cn)
def adY:Cs:=cc cI (cc lC (cc lT cn))
def adZ:Cs:=cc lD (cc cT cn)
def Lt:Cs:=cc (cp 0) (cc cI cn)
def ad0:Cs:=cc (cp 0) (cc cT (cc cI (cc cI cn)))
def Lu:Cs:=cc (cp 0) (cc lC cn)
def u1:Bs:=xI (xT (xI xn))
def ad2:Cs:=cc cT (cc lI (cc (cf 149 cn (cc (cp 0) (cc (cp 1) (cc (cp 2) cn)))) cn))
def aBy:Cs:=cc cT (cc cT (cc lB cn))
def ad4:Cs:=cc (cp 0) (cc cT (cc cT (cc lB cn)))
def ad5:Cs:=cc cT (cc lI (cc (cf 147 cn (cc (cp 0) (cc (cp 1) (cc (cp 2) cn)))) cn))
def ad6:Cs:=cc cT (cc cI (cc cT (cc (cp 0) (cc (cp 1) (cc (cp 2) cn)))))
def aJv:Bs:=xT (xI (xc (cc (cp 3) cn) (xI xn)))
def Lv:Cs:=cc lC (cc lT cn)
def ad8:Cs:=cc (cp 0) (cc lC (cc lC cn))
def ad9:Cs:=cc cT (cc lC (cc cT (cc cC (cc lC cn))))
def ad_:Cs:=cc cT (cc lC (cc cT cn))
def aea:Cs:=cc (cp 0) (cc cT (cc lC (cc cT cn)))
def fe:Bs:=xc (cc cI (cc lC (cc cI (cc cI (cc cs (cc lC (cc lT (cc lB cn)))))))) xn
def adv:Cs:=cc cI (cc cC (cc (cp 0) (cc (cp 1) (cc (cp 2) cn))))
def aJl:Bs:=xc (cc (cp 3) cn) (xT (xT (xc (cc cI (cc lC (cc cI (cc cI (cc cs (cc lC (cc lT (cc lB cn)))))))) xn)))
def adx:Cs:=cc (cp 0) (cc lC (cc cI cn))
def ady:Cs:=cc cI (cc lB (cc lT cn))
def adz:Cs:=cc lB (cc (cf 171 cn cn) cn)
def gi:Cs:=cc cT (cc lB cn)
def aGj:Cs:=cc lC (cc (cf 234 cn (cc (cp 0) cn)) cn)
def cZ:Cs:=cc (cp 0) (cc (cp 1) cn)
def aAw:Bs:=xc (cc (cp 2) cn) (xT (xc (cc cI (cc lC (cc cI (cc cI (cc cs (cc lC (cc lT (cc lB (cc lB (cc cI (cc cI (cc cs (cc lC (cc lT (cc lB (cc cI (cc cI (cc cs (cc lC (cc lT (cc lB cn))))))))))))))))))))) xn))
def aGk:Cs:=cc (cp 0) (cc (cf 162 cn (cc (cp 1) (cc (cp 2) cn))) cn)
def aJm:Bs:=xc (cc cI (cc lC (cc cI (cc cI (cc cs (cc lC (cc lT (cc lB (cc lB (cc cI (cc cI (cc cs (cc lC (cc lT (cc lB (cc cI (cc cI (cc cs (cc lC (cc lT (cc lB cn))))))))))))))))))))) (xc (cc (cp 0) cn) (xT xn))
def aBm:Cs:=cc cB (cc (cp 0) cn)
def qo:Bs:=xc (cc (cp 1) cn) (xc (cc cI (cc lC (cc cI (cc cI (cc cs (cc lC (cc lT (cc lB (cc lB (cc cI (cc cI (cc cs (cc lC (cc lT (cc lB (cc cI (cc cI (cc cs (cc lC (cc lT (cc lB cn))))))))))))))))))))) xn)
def aGl:Cs:=cc lB (cc (cf 163 cn (cc (cp 0) cn)) cn)
def aJn:Bs:=xc (cc cI (cc lC (cc cI (cc cI (cc cs (cc lC (cc lT (cc lB (cc nB (cc cI (cc cI (cc cs (cc lC (cc lT (cc lB (cc cI (cc cI (cc cs (cc lC (cc lT (cc lB cn))))))))))))))))))))) xn
def aBn:Cs:=cc (cp 0) (cc cT (cc cT (cc cT (cc cT cn))))
def aGm:Cs:=cc cT (cc cT (cc cT (cc cT cn)))
def hK:Bs:=xc (cc (cf 164 cn (cc (cp 1) (cc (cp 2) cn))) cn) (xc (cc (cp 3) cn) (xT (xc (cc cI (cc lC (cc cI (cc cI (cc cs (cc lC (cc lT (cc lB (cc lB (cc cI (cc cI (cc cs (cc lC (cc lT (cc lB (cc cI (cc cI (cc cs (cc lC (cc lT (cc lB cn))))))))))))))))))))) xn)))
def aGn:Cs:=cc (cp 0) (cc (cf 166 cn (cc (cp 1) (cc (cp 2) cn))) cn)
def aJo:Bs:=xc (cc cI (cc lC (cc cI (cc cI (cc cs (cc lC (cc lT (cc lB (cc lB (cc cI (cc cI (cc cs (cc lC (cc lT (cc lB (cc cI (cc cI (cc cs (cc lC (cc lT (cc lB cn))))))))))))))))))))) (xc (cc (cf 164 cn (cc (cp 2) (cc (cp 3) cn))) cn) (xc (cc (cp 0) cn) (xT xn)))
def azp:Cs:=cc cB (cc (cp 0) (cc (cp 1) cn))
def aGo:Cs:=cc lB (cc (cf 167 cn (cc (cp 0) (cc (cp 1) cn))) cn)
def aJp:Bs:=xc (cc cI (cc lC (cc cI (cc cI (cc cs (cc lC (cc lT (cc lB (cc lB (cc cI (cc cI (cc cs (cc lC (cc lT (cc lB (cc cI (cc cI (cc cs (cc lC (cc lT (cc lB cn))))))))))))))))))))) xn
def aGp:Cs:=cc lB (cc (cf 99 cn (cc (cp 0) cn)) cn)
def aGq:Cs:=cc (cp 0) (cc (cf 102 cn (cc (cp 1) cn)) cn)
def aJq:Bs:=xc (cc cI (cc lC (cc cI (cc cI (cc cs (cc lC (cc lT (cc lB (cc lB (cc cI (cc cI (cc cs (cc lC (cc lT (cc lB (cc cI (cc cI (cc cs (cc lC (cc lT (cc lB cn))))))))))))))))))))) (xc (cc (cp 0) cn) xn)
def azq:Cs:=cc cT (cc (cp 0) cn)
def aAx:Bs:=xc (cc (cp 1) cn) (xc (cc cI (cc cI (cc cI (cc cs (cc lC (cc lT (cc lB (cc lB cn)))))))) xn)
def aBo:Cs:=cc (cp 0) (cc (cf 105 cn (cc (cp 1) cn)) cn)
def tc:Bs:=xc (cc cI (cc cI (cc cI (cc cs (cc lC (cc lT (cc lB (cc lB cn)))))))) (xc (cc (cp 0) cn) xn)
def n':Bs:=xc (cc cI (cc cI (cc cI (cc cs (cc lC (cc lT (cc lB (cc lB cn)))))))) xn
def aBp:Cs:=cc (cp 0) (cc (cf 107 cn (cc (cp 1) cn)) cn)
def aDw:Bs:=xc (cc cI (cc cI (cc cI (cc cs (cc lC (cc lT (cc lB (cc lB cn)))))))) (xI xn)
def azr:Cs:=cc cT (cc cT cn)
def aBq:Cs:=cc (cp 0) (cc (cf 108 cn (cc (cp 1) cn)) cn)
def aDx:Bs:=xc (cc (cp 2) cn) (xc (cc lB cn) (xI xn))
def aGr:Cs:=cc lB (cc (cf 113 cn (cc (cp 0) (cc (cp 1) cn))) cn)
def aGs:Cs:=cc cB (cc (cp 0) (cc (cp 1) (cc (cp 2) cn)))
def aAy:Bs:=xc (cc (cp 3) cn) (xT (xT (xI xn)))
def aBr:Cs:=cc lB (cc (cf 115 cn (cc (cp 0) (cc (cp 1) (cc (cp 2) cn)))) cn)
def aAz:Bs:=xT (xT xn)
def aBs:Cs:=cc lB (cc (cf 116 cn (cc (cp 0) (cc (cp 1) cn))) cn)
def S0:Bs:=xc (cc lD (cc cI cn)) xn
def aGt:Cs:=cc lT (cc lT (cc (cf 215 cn cn) cn))
def aGu:Cs:=cc cB (cc cB cn)
def aGv:Cs:=cc lB (cc lB (cc (cf 240 cn cn) cn))
def aGw:Cs:=cc lD (cc cT (cc cI cn))
def aBt:Cs:=cc lB (cc lB (cc (cf 70 cn cn) cn))
def aGx:Cs:=cc cC (cc cI cn)
def aGy:Cs:=cc cT (cc cC cn)
def aIR:Cs:=cc (cp 0) (cc cI (cc lC (cc lT (cc lT cn))))
def aOJ:Cs:=cc (cp 0) (cc cI (cc lB (cc lB cn)))
def aOK:Cs:=cc lD (cc cT (cc cT (cc cI cn)))
def aKN:Cs:=cc lG cn
def aOL:Cs:=cc lG (cc cT (cc cT (cc cT (cc cI cn))))
def aE (κ:Out UU->Option S):Int×Int×ByteArray×List Tm->Option S:=fun r=>κ (.ret (.agg [(iI r.1),(iI r.2.1),(.str r.2.2.1),(bZ [] .nil),(sT r.2.2.2),(dN [] .nil)]) [])
def aA (κ:Out UU->Option S):Int×Int->Option S:=fun r=>κ (.ret (.tuple [(iI r.1),(iI r.2)]) [])
def F9 (κ:Out UU->Option S):Bool->Option S:=fun r=>κ (.ret (.bool r) [])
def kT (c0:Int) (κ:Out UU->Option S):Bool->Option S:=fun r=>κ (.ret (.bool r) [bI c0])
def eJ (κ:Out UU->Option S):Bool×Int->Option S:=fun r=>κ (.ret (.bool r.1) [.cells [(.func 118 [] [(pt 1),(pt 0)])],bI r.2])
def gf (κ:Out UU->Option S):Bool×Int->Option S:=fun r=>κ (.ret (.bool r.1) [bI r.2,.cells [(.func 118 [] [(pt 0),(pt 1)])]])
def da (κ:Out UU->Option S):Int->Option S:=fun r=>κ (.ret (iI r) [])
def Oa (κ:Out UU->Option S):Cl->Option S:=fun r=>κ (.ret (aC r) [])
def Oc (c0:Cl) (κ:Out UU->Option S):Bool->Option S:=fun r=>κ (.ret (.bool r) [bC c0])
def A1 (c0:Cl) (κ:Out UU->Option S):Int->Option S:=fun r=>κ (.ret (iI r) [bC c0])
def ahX (c0:List Cl) (κ:Out UU->Option S):Bool->Option S:=fun r=>κ (.ret (.bool r) [.cells [(sC c0)]])
def ua (κ:Out UU->Option S):List Cl×Int->Option S:=fun r=>κ (.ret (.tuple [(sC r.1),(iI r.2)]) [])
def b_ (κ:Out UU->Option S):Int->Option S:=fun r=>κ (.ret (iU r) [])
def gc (c0 c1:Int) (c2:Bool) (κ:Out UU->Option S):Bool->Option S:=fun r=>κ (.ret (.bool r) [bI c0,bI c1,.cells [(.bool c2)]])
def aF (κ:Out UU->Option S):Tm->Option S:=fun r=>κ (.ret (aT r) [])
def AN (κ:Out UU->Option S):List Tm->Option S:=fun r=>κ (.ret (sT r) [])
def N7 (κ:Out UU->Option S):Bool×Int->Option S:=fun r=>κ (.ret (.bool r.1) [bI r.2])
def ahY (κ:Out UU->Option S):List Cl->Option S:=fun r=>κ (.ret (Ev r) [])
def AO (κ:Out UU->Option S):Int×Int->Option S:=fun r=>κ (.ret (.tuple [(iU r.1),(iI r.2)]) [])
def ahZ (κ:Out UU->Option S):Cl×Int->Option S:=fun r=>κ (.ret (.tuple [(aC r.1),(iI r.2)]) [])
def vA (c0 c1:Int) (κ:Out UU->Option S):List Cl×Int->Option S:=fun r=>κ (.ret (.tuple [(Ev r.1),(iI r.2)]) [bI c0,bI c1])
def N8 (c0 c1:Int) (κ:Out UU->Option S):List Cl×Int->Option S:=fun r=>κ (.ret (.tuple [(sC r.1),(iI r.2)]) [bI c0,bI c1])
def ah0 (κ:Out UU->Option S):pr Int (List Cl)->Option S:=fun r=>pr.elim r (fun r=>κ (.ret (sC r) [])) (fun e=>κ (.panic (.iface 35 (iI e)) []))
def AP (κ:Out UU->Option S):pr Int Tm->Option S:=fun r=>pr.elim r (fun r=>κ (.ret (aT r) [])) (fun e=>κ (.panic (.iface 35 (iI e)) []))
def ah1 (c0 c1:Int) (c2:Tm) (κ:Out UU->Option S):pr Int Tm->Option S:=fun r=>pr.elim r (fun r=>κ (.ret (aT r) [bI c0,bI c1,bT c2])) (fun e=>κ (.panic (.iface 35 (iI e)) [bI c0,bI c1,bT c2]))
def ah (c0 c1:Int) (c2:Tm) (κ:Out UU->Option S):Tm×Int->Option S:=fun r=>κ (.ret (.tuple [(aT r.1),(iI r.2)]) [bI c0,bI c1,bT c2])
def BC (κ:Out UU->Option S):Tm×Int->Option S:=fun r=>κ (.ret (.tuple [(aT r.1),(iI r.2)]) [])
def AQ (κ:Out UU->Option S):Tm×Int->Option S:=fun r=>κ (.ret (aT r.1) [bI r.2])
def cM (κ:Out UU->Option S):List Cl->Option S:=fun r=>κ (.ret (sC r) [])
def gR (c0:Int) (c1:List Cl) (κ:Out UU->Option S):Unit->Option S:=fun r=>κ (.ret (.func 218 [] [(pt 0),(pt 1),(pt 2)]) [bI c0,.cells [(sC c1)],.cells [(.func 221 [] [])]])
def ah3 (c0:Int) (c1:List Cl) (κ:Out UU->Option S):Unit->Option S:=fun r=>κ (.ret (.func 218 [] [(pt 0),(pt 1),(pt 2)]) [bI c0,.cells [(sC c1)],.cells [(.func 222 [] [])]])
def N9 (κ:Out UU->Option S):Int×List Cl->Option S:=fun r=>κ (.ret (.agg [(.func 218 [] [(pt 0),(pt 1),(pt 2)]),(.func 218 [] [(pt 0),(pt 1),(pt 3)])]) [bI r.1,.cells [(sC r.2)],.cells [(.func 221 [] [])],.cells [(.func 222 [] [])]])
def N_ (κ:Out UU->Option S):Cl×Bool->Option S:=fun r=>κ (.ret (.tuple [(aC r.1),(.bool r.2)]) [])
def mt (c0:Cl) (κ:Out UU->Option S):Cl×Bool->Option S:=fun r=>κ (.ret (.tuple [(aC r.1),(.bool r.2)]) [bC c0])
def k5 (c0:Cl) (κ:Out UU->Option S):List Cl->Option S:=fun r=>κ (.ret (sC r) [bC c0])
def ah5 (c0:Int) (c1:List Cl) (κ:Out UU->Option S):List Cl×Int->Option S:=fun r=>κ (.ret (.tuple [(sC r.1),(iI r.2)]) [bI c0,.cells [(sC c1)],.cells [(.func 222 [] [])]])
def q6 (c0:Int) (c1:List Cl) (κ:Out UU->Option S):List Cl×Int->Option S:=fun r=>κ (.ret (.tuple [(sC r.1),(iI r.2)]) [bI c0,.cells [(sC c1)]])
def aHm (c0:Int) (c1:List Cl) (κ:Out UU->Option S):List Cl×Int->Option S:=fun r=>κ (.ret (.tuple [(sC r.1),(iI r.2)]) [bI c0,.cells [(sC c1)],.cells [(.func 221 [] [])]])
def ah7 (c0:Int) (c1:List Cl) (κ:Out UU->Option S):List Cl×Int->Option S:=fun r=>κ (.ret (.tuple [(sC r.1),(iI r.2)]) [bI c0,.cells [(sC c1)],.cells [(.func 221 [] [])],.cells [(.func 222 [] [])]])
def ah8 (c0:Tm) (κ:Out UU->Option S):Int->Option S:=fun r=>κ (.ret (iI r) [bT c0])
def AR (c0:Int) (κ:Out UU->Option S):Int->Option S:=fun r=>κ (.ret (iI r) [bI c0])
def fA (c0:Int) (c1:List Cl) (κ:Out UU->Option S):Tm×Int->Option S:=fun r=>κ (.ret (.tuple [(aT r.1),(iI r.2)]) [bI c0,.cells [(sC c1)],.cells [(.func 221 [] [])],.cells [(.func 222 [] [])]])
def vB (c0:Int) (c1:List Cl) (c4:Int) (κ:Out UU->Option S):List Tm×Int->Option S:=fun r=>κ (.ret (.tuple [(sT r.1),(iI r.2)]) [bI c0,.cells [(sC c1)],.cells [(.func 221 [] [])],.cells [(.func 222 [] [])],bI c4])
def e2 (c0:Int) (c1:List Cl) (c4:Tm) (κ:Out UU->Option S):List Tm×Int->Option S:=fun r=>κ (.ret (.tuple [(sT r.1),(iI r.2)]) [bI c0,.cells [(sC c1)],.cells [(.func 221 [] [])],.cells [(.func 222 [] [])],bT c4])
def aia (κ:Out UU->Option S):Int->Option S:=fun r=>κ (.ret (.agg [(.func 227 [] [(pt 0)]),(.func 227 [] [(pt 0)])]) [bI r])
def ml (c0:Int) (κ:Out UU->Option S):List Cl×Int->Option S:=fun r=>κ (.ret (.tuple [(sC r.1),(iI r.2)]) [bI c0])
def v' (c0:Int) (κ:Out UU->Option S):Tm×Int->Option S:=fun r=>κ (.ret (.tuple [(aT r.1),(iI r.2)]) [bI c0])
def AT (c0 c1:Int) (κ:Out UU->Option S):List Tm×Int->Option S:=fun r=>κ (.ret (.tuple [(sT r.1),(iI r.2)]) [bI c0,bI c1])
def AU (c0:Int) (c1:Tm) (κ:Out UU->Option S):List Tm×Int->Option S:=fun r=>κ (.ret (.tuple [(sT r.1),(iI r.2)]) [bI c0,bT c1])
def AV (κ:Out UU->Option S):Tm×Bool×Int->Option S:=fun r=>κ (.ret (.tuple [(aT r.1),(.bool r.2.1)]) [bI r.2.2])
def SM (κ:Out UU->Option S):Tm×Bool->Option S:=fun r=>κ (.ret (.tuple [(aT r.1),(.bool r.2)]) [])
def vC (κ:Out UU->Option S):Int×Int×ByteArray×List Cl×List Tm->Option S:=fun r=>κ (.ret (.agg [(iI r.1),(iI r.2.1),(.str r.2.2.1),(sC r.2.2.2.1),(sT r.2.2.2.2),(dN [] .nil)]) [])
def AW (κ:Out UU->Option S):Tm×Bool×Int×Int->Option S:=fun r=>κ (.ret (.tuple [(aT r.1),(.bool r.2.1),(iI r.2.2.1)]) [bI r.2.2.2])
def AX (κ:Out UU->Option S):Tm×Bool×Int->Option S:=fun r=>κ (.ret (.tuple [(aT r.1),(.bool r.2.1),(iI r.2.2)]) [])
def AY (κ:Out UU->Option S):Int×Int×ByteArray×List Tm×List (Br Tm)->Option S:=fun r=>κ (.ret (.agg [(iI r.1),(iI r.2.1),(.str r.2.2.1),(bZ [] .nil),(dO r.2.2.2.1 .full),(sB r.2.2.2.2)]) [])
def cO (κ:Out UU->Option S):Int->Option S:=fun r=>κ (.ret (.tuple []) [bI r])
def AZ (κ:Out UU->Option S):Int->Option S:=fun r=>κ (.ret (pt 0) [bI r])
def aie (κ:Out UU->Option S):Tm×Int×Int->Option S:=fun r=>κ (.ret (.tuple [(aT r.1),(iI r.2.1)]) [bI r.2.2])
def s4 (κ:Out UU->Option S):List Cl×Int->Option S:=fun r=>κ (.ret (sC r.1) [bI r.2])
def aCG (c0:Int) (c1:Tm) (c2:Int) (κ:Out UU->Option S):pr Int Tm->Option S:=fun r=>pr.elim r (fun r=>κ (.ret (aT r) [bI c0,bT c1,bI c2])) (fun e=>κ (.panic (.iface 35 (iI e)) [bI c0,bT c1,bI c2]))
def RT (c0:Int) (c1:Tm) (c2:Int) (κ:Out UU->Option S):Tm×Int->Option S:=fun r=>κ (.ret (.tuple [(aT r.1),(iI r.2)]) [bI c0,bT c1,bI c2])
def A0 (c0:Tm) (c1:Int) (κ:Out UU->Option S):Int×Int×ByteArray×List Tm×Int->Option S:=fun r=>κ (.ret (.agg [(iI r.1),(iI r.2.1),(.str r.2.2.1),(bZ [] .nil),(sT r.2.2.2.1),(dN [] .nil)]) [bT c0,bI c1,.cells [(pt 3)],bI r.2.2.2.2])
def aii (κ:Out UU->Option S):(Br Tm)->Option S:=fun r=>κ (.ret (aB r) [])
def aCH (κ:Out UU->Option S):Int×Int×ByteArray->Option S:=fun r=>κ (.ret (.agg [(iI r.1),(iI r.2.1),(.str r.2.2),(bZ [] .nil),(dO [] .nil),(dN [] .nil)]) [])
def aM (nV:Int) (nN:List Cl) (oI oE:Int) (oV:ByteArray) (oT:List Cl) (oU:List Tm) (nU:List (Br Tm)) (κ:Out UU->Option S):Int×Int×ByteArray×List Cl×List Tm->Option S:=fun r=>κ (.ret (.agg [(iI r.1),(iI r.2.1),(.str r.2.2.1),(sC r.2.2.2.1),(sT r.2.2.2.2),(dN [] .nil)]) [.cells [(iI nV),(sC nN),(iI oI),(iI oE),(.str oV),(sC oT),(sT oU),(sB nU)]])
def azN (nN:List Cl) (oI oE:Int) (oV:ByteArray) (oT:List Cl) (oU:List Tm) (nU:List (Br Tm)) (κ:Out UU->Option S):Int×Int×ByteArray×List Tm×Int->Option S:=fun r=>κ (.ret (.agg [(iI r.1),(iI r.2.1),(.str r.2.2.1),(bZ [] .nil),(sT r.2.2.2.1),(dN [] .nil)]) [.cells [(iI r.2.2.2.2),(sC nN),(iI oI),(iI oE),(.str oV),(sC oT),(sT oU),(sB nU)]])
def aHn (nN:List Cl) (oI oE:Int) (oV:ByteArray) (oT:List Cl) (oU:List Tm) (nU:List (Br Tm)) (κ:Out UU->Option S):Tm×Int->Option S:=fun r=>κ (.ret (aT r.1) [.cells [(iI r.2),(sC nN),(iI oI),(iI oE),(.str oV),(sC oT),(sT oU),(sB nU)]])
def aHo (c1 c2:Tm) (uu:List Cl) (tY tX:Int) (tW:ByteArray) (tV:List Cl) (tU:List Tm) (tT:List (Br Tm)) (κ:Out UU->Option S):Int×Int×ByteArray×List Cl×List Tm×Int->Option S:=fun r=>κ (.ret (.agg [(iI r.1),(iI r.2.1),(.str r.2.2.1),(sC r.2.2.2.1),(sT r.2.2.2.2.1),(dN [] .nil)]) [.cells [(pt 3)],bT c1,bT c2,.cells [(iI r.2.2.2.2.2),(sC uu),(iI tY),(iI tX),(.str tW),(sC tV),(sT tU),(sB tT)]])
def aCI (κ:Out UU->Option S):Int×Int×ByteArray×List Tm×List (Br Tm)->Option S:=fun r=>κ (.ret (.agg [(iI r.1),(iI r.2.1),(.str r.2.2.1),(bZ [] .nil),(sT r.2.2.2.1),(sB r.2.2.2.2)]) [])
def kr (κ:Out UU->Option S):List (Br Tm)->Option S:=fun r=>κ (.ret (uf r) [])
def aCJ (κ:Out UU->Option S):List (Br Tm)->Option S:=fun r=>κ (.ret (sB r) [])
def aHp (c0:Int) (κ:Out UU->Option S):Cl×Bool->Option S:=fun r=>κ (.ret (.tuple [(aC r.1),(.bool r.2)]) [bI c0])
def dn (c0:Int) (κ:Out UU->Option S):List Cl->Option S:=fun r=>κ (.ret (sC r) [bI c0])
def aCK (c1:Tm) (q:List Cl) (x z:Int) (A:ByteArray) (B:List Cl) (E:List Tm) (F I:List (Br Tm)) (J L:Int) (M:ByteArray) (O:List Cl) (T:List Tm) (W:List (Br Tm)) (Y ad:Int) (ao:ByteArray) (ax:List Cl) (az:List Tm) (a6:List (Br Tm)) (κ:Out UU->Option S):Tm×Int->Option S:=fun r=>κ (.ret (aT r.1) [.cells [(pt 2)],bT c1,.cells [(iI r.2),(sC q),(iI x),(iI z),(.str A),(sC B),(sT E),(sB F),(sB I),(iI J),(iI L),(.str M),(sC O),(sT T),(sB W),(iI Y),(iI ad),(.str ao),(sC ax),(sT az),(sB a6)]])
def aHq (κ:Out UU->Option S):Tm×Int->Option S:=fun r=>κ (.ret (aT r.1) [.cells [.int .i64 2,(iI r.2)]])
def aHr (nN:List Cl) (oI oE:Int) (oV:ByteArray) (oT:List Cl) (oU:List Tm) (nU q:List (Br Tm)) (uN uW:Int) (uV:ByteArray) (uU:List Cl) (uT:List Tm) (uO:List (Br Tm)) (tR tQ:Int) (tP:ByteArray) (tM:List Cl) (th:List Tm) (tg:List (Br Tm)) (c2:Tm) (κ:Out UU->Option S):List (Br Tm)×Int->Option S:=fun r=>κ (.ret (dN r.1 .full) [.cells [(iI r.2),(sC nN),(iI oI),(iI oE),(.str oV),(sC oT),(sT oU),(sB nU),(sB q),(iI uN),(iI uW),(.str uV),(sC uU),(sT uT),(sB uO),(iI tR),(iI tQ),(.str tP),(sC tM),(sT th),(sB tg)],.cells [(pt 0)],bT c2])
def aHs (qM:List Cl) (qK qJ:Int) (qI:ByteArray) (qH:List Cl) (qG:List Tm) (qR sK:List (Br Tm)) (rm rL:Int) (rK:ByteArray) (rE:List Cl) (rq:List Tm) (rO:List (Br Tm)) (sJ sI:Int) (sH:ByteArray) (rP:List Cl) (sM:List Tm) (sL:List (Br Tm)) (κ:Out UU->Option S):(Br Tm)×Int->Option S:=fun r=>κ (.ret (aB r.1) [.cells [(pt 1)],.cells [(iI r.2),(sC qM),(iI qK),(iI qJ),(.str qI),(sC qH),(sT qG),(sB qR),(sB sK),(iI rm),(iI rL),(.str rK),(sC rE),(sT rq),(sB rO),(iI sJ),(iI sI),(.str sH),(sC rP),(sT sM),(sB sL)]])
def e0 (qM:List Cl) (qK qJ:Int) (qI:ByteArray) (qH:List Cl) (qG:List Tm) (qR sK:List (Br Tm)) (rm rL:Int) (rK:ByteArray) (rE:List Cl) (rq:List Tm) (rO:List (Br Tm)) (sJ sI:Int) (sH:ByteArray) (rP:List Cl) (sM:List Tm) (sL:List (Br Tm)) (κ:Out UU->Option S):List (Br Tm)×Int->Option S:=fun r=>κ (.ret (uf r.1) [.cells [(pt 1)],.cells [(iI r.2),(sC qM),(iI qK),(iI qJ),(.str qI),(sC qH),(sT qG),(sB qR),(sB sK),(iI rm),(iI rL),(.str rK),(sC rE),(sT rq),(sB rO),(iI sJ),(iI sI),(.str sH),(sC rP),(sT sM),(sB sL)]])
def hh (nN:List Cl) (oI oE:Int) (oV:ByteArray) (oT:List Cl) (oU:List Tm) (nU:List (Br Tm)) (tR tQ:Int) (tP:ByteArray) (tM:List Cl) (th:List Tm) (tg:List (Br Tm)) (κ:Out UU->Option S):Int×List (Br Tm)×Int×Int×ByteArray×List Cl×List Tm×List (Br Tm)->Option S:=fun r=>κ (.ret (.tuple []) [.cells [(iI r.1),(sC nN),(iI oI),(iI oE),(.str oV),(sC oT),(sT oU),(sB nU),(sB r.2.1),(iI r.2.2.1),(iI r.2.2.2.1),(.str r.2.2.2.2.1),(sC r.2.2.2.2.2.1),(sT r.2.2.2.2.2.2.1),(sB r.2.2.2.2.2.2.2),(iI tR),(iI tQ),(.str tP),(sC tM),(sT th),(sB tg)]])
def aCL (κ:Out UU->Option S):Int×Int×ByteArray×List Tm×Int->Option S:=fun r=>κ (.ret (.agg [(iI r.1),(iI r.2.1),(.str r.2.2.1),(bZ [] .nil),(sT r.2.2.2.1),(dN [] .nil)]) [bI r.2.2.2.2])
def aHt (c1:Tm) (q:List Cl) (x z:Int) (A:ByteArray) (B:List Cl) (E:List Tm) (F I:List (Br Tm)) (J L:Int) (M:ByteArray) (O:List Cl) (T:List Tm) (W:List (Br Tm)) (Y ad:Int) (ao:ByteArray) (ax:List Cl) (az:List Tm) (a6:List (Br Tm)) (κ:Out UU->Option S):Int×Int×ByteArray×List Cl×List Tm×Int->Option S:=fun r=>κ (.ret (.agg [(iI r.1),(iI r.2.1),(.str r.2.2.1),(sC r.2.2.2.1),(sT r.2.2.2.2.1),(dN [] .nil)]) [.cells [(pt 2)],bT c1,.cells [(iI r.2.2.2.2.2),(sC q),(iI x),(iI z),(.str A),(sC B),(sT E),(sB F),(sB I),(iI J),(iI L),(.str M),(sC O),(sT T),(sB W),(iI Y),(iI ad),(.str ao),(sC ax),(sT az),(sB a6)]])
def aCM (c2:Tm) (uu:List Cl) (tY tX:Int) (tW:ByteArray) (tV:List Cl) (tU:List Tm) (tT vi:List (Br Tm)) (vh wc:Int) (v8:ByteArray) (v7:List Cl) (aq_:List Tm) (vn:List (Br Tm)) (vm vl:Int) (vk:ByteArray) (vg:List Cl) (vj:List Tm) (arg:List (Br Tm)) (κ:Out UU->Option S):Int×Int×ByteArray×List Cl×List Tm×Int->Option S:=fun r=>κ (.ret (.agg [(iI r.1),(iI r.2.1),(.str r.2.2.1),(sC r.2.2.2.1),(sT r.2.2.2.2.1),(dN [] .nil)]) [.cells [(.func 164 [] [(pt 1),(pt 2)])],.cells [(pt 3)],bT c2,.cells [(iI r.2.2.2.2.2),(sC uu),(iI tY),(iI tX),(.str tW),(sC tV),(sT tU),(sB tT),(sB vi),(iI vh),(iI wc),(.str v8),(sC v7),(sT aq_),(sB vn),(iI vm),(iI vl),(.str vk),(sC vg),(sT vj),(sB arg)]])
def aHu (κ:Out UU->Option S):Int×Int×ByteArray×List Cl×List Tm×Int->Option S:=fun r=>κ (.ret (.agg [(iI r.1),(iI r.2.1),(.str r.2.2.1),(sC r.2.2.2.1),(sT r.2.2.2.2.1),(dN [] .nil)]) [.cells [.int .i64 3,(iI r.2.2.2.2.2)]])
def aHv (nN:List Cl) (oI oE:Int) (oV:ByteArray) (oT:List Cl) (oU:List Tm) (nU q:List (Br Tm)) (uN uW:Int) (uV:ByteArray) (uU:List Cl) (uT:List Tm) (uO:List (Br Tm)) (tR tQ:Int) (tP:ByteArray) (tM:List Cl) (th:List Tm) (tg:List (Br Tm)) (c3:Tm) (κ:Out UU->Option S):List (Br Tm)×Int->Option S:=fun r=>κ (.ret (dN r.1 .full) [.cells [(iI r.2),(sC nN),(iI oI),(iI oE),(.str oV),(sC oT),(sT oU),(sB nU),(sB q),(iI uN),(iI uW),(.str uV),(sC uU),(sT uT),(sB uO),(iI tR),(iI tQ),(.str tP),(sC tM),(sT th),(sB tg)],.cells [(.func 164 [] [(pt 2),(pt 3)])],.cells [(pt 0)],bT c3])
def aHw (c2:Tm) (uu:List Cl) (tY tX:Int) (tW:ByteArray) (tV:List Cl) (tU:List Tm) (tT vi:List (Br Tm)) (vh wc:Int) (v8:ByteArray) (v7:List Cl) (aq_:List Tm) (vn:List (Br Tm)) (vm vl:Int) (vk:ByteArray) (vg:List Cl) (vj:List Tm) (arg:List (Br Tm)) (κ:Out UU->Option S):(Br Tm)×Int->Option S:=fun r=>κ (.ret (aB r.1) [.cells [(.func 164 [] [(pt 1),(pt 2)])],.cells [(pt 3)],bT c2,.cells [(iI r.2),(sC uu),(iI tY),(iI tX),(.str tW),(sC tV),(sT tU),(sB tT),(sB vi),(iI vh),(iI wc),(.str v8),(sC v7),(sT aq_),(sB vn),(iI vm),(iI vl),(.str vk),(sC vg),(sT vj),(sB arg)]])
def eu (c2:Tm) (uu:List Cl) (tY tX:Int) (tW:ByteArray) (tV:List Cl) (tU:List Tm) (tT vi:List (Br Tm)) (vh wc:Int) (v8:ByteArray) (v7:List Cl) (aq_:List Tm) (vn:List (Br Tm)) (vm vl:Int) (vk:ByteArray) (vg:List Cl) (vj:List Tm) (arg:List (Br Tm)) (κ:Out UU->Option S):List (Br Tm)×Int->Option S:=fun r=>κ (.ret (uf r.1) [.cells [(.func 164 [] [(pt 1),(pt 2)])],.cells [(pt 3)],bT c2,.cells [(iI r.2),(sC uu),(iI tY),(iI tX),(.str tW),(sC tV),(sT tU),(sB tT),(sB vi),(iI vh),(iI wc),(.str v8),(sC v7),(sT aq_),(sB vn),(iI vm),(iI vl),(.str vk),(sC vg),(sT vj),(sB arg)]])
def aHx (nN:List Cl) (oI oE:Int) (oV:ByteArray) (oT:List Cl) (oU:List Tm) (nU q:List (Br Tm)) (uN uW:Int) (uV:ByteArray) (uU:List Cl) (uT:List Tm) (uO:List (Br Tm)) (tR tQ:Int) (tP:ByteArray) (tM:List Cl) (th:List Tm) (tg:List (Br Tm)) (κ:Out UU->Option S):Int×Int×ByteArray×List Tm×List (Br Tm)×Int->Option S:=fun r=>κ (.ret (.agg [(iI r.1),(iI r.2.1),(.str r.2.2.1),(bZ [] .nil),(sT r.2.2.2.1),(sB r.2.2.2.2.1)]) [.cells [(iI r.2.2.2.2.2),(sC nN),(iI oI),(iI oE),(.str oV),(sC oT),(sT oU),(sB nU),(sB q),(iI uN),(iI uW),(.str uV),(sC uU),(sT uT),(sB uO),(iI tR),(iI tQ),(.str tP),(sC tM),(sT th),(sB tg)]])
def aHy (qM:List Cl) (qK qJ:Int) (qI:ByteArray) (qH:List Cl) (qG:List Tm) (qR sK:List (Br Tm)) (rm rL:Int) (rK:ByteArray) (rE:List Cl) (rq:List Tm) (rO:List (Br Tm)) (sJ sI:Int) (sH:ByteArray) (rP:List Cl) (sM:List Tm) (sL:List (Br Tm)) (κ:Out UU->Option S):Int×Int×ByteArray×List Tm×List (Br Tm)×Int->Option S:=fun r=>κ (.ret (.agg [(iI r.1),(iI r.2.1),(.str r.2.2.1),(bZ [] .nil),(sT r.2.2.2.1),(sB r.2.2.2.2.1)]) [.cells [(pt 1)],.cells [(iI r.2.2.2.2.2),(sC qM),(iI qK),(iI qJ),(.str qI),(sC qH),(sT qG),(sB qR),(sB sK),(iI rm),(iI rL),(.str rK),(sC rE),(sT rq),(sB rO),(iI sJ),(iI sI),(.str sH),(sC rP),(sT sM),(sB sL)]])
def ys (qM:List Cl) (qK qJ:Int) (qI:ByteArray) (qH:List Cl) (qG:List Tm) (qR sK:List (Br Tm)) (rm rL:Int) (rK:ByteArray) (rE:List Cl) (rq:List Tm) (rO:List (Br Tm)) (sJ sI:Int) (sH:ByteArray) (rP:List Cl) (sM:List Tm) (sL:List (Br Tm)) (κ:Out UU->Option S):List Tm×Int->Option S:=fun r=>κ (.ret (frT r.1) [.cells [(pt 1)],.cells [(iI r.2),(sC qM),(iI qK),(iI qJ),(.str qI),(sC qH),(sT qG),(sB qR),(sB sK),(iI rm),(iI rL),(.str rK),(sC rE),(sT rq),(sB rO),(iI sJ),(iI sI),(.str sH),(sC rP),(sT sM),(sB sL)]])
def aCN (qM:List Cl) (qK qJ:Int) (qI:ByteArray) (qH:List Cl) (qG:List Tm) (qR sK:List (Br Tm)) (rm rL:Int) (rK:ByteArray) (rE:List Cl) (rq:List Tm) (rO:List (Br Tm)) (sJ sI:Int) (sH:ByteArray) (rP:List Cl) (sM:List Tm) (sL:List (Br Tm)) (κ:Out UU->Option S):Tm×Int->Option S:=fun r=>κ (.ret (aT r.1) [.cells [(pt 1)],.cells [(iI r.2),(sC qM),(iI qK),(iI qJ),(.str qI),(sC qH),(sT qG),(sB qR),(sB sK),(iI rm),(iI rL),(.str rK),(sC rE),(sT rq),(sB rO),(iI sJ),(iI sI),(.str sH),(sC rP),(sT sM),(sB sL)]])
def aHz (κ:Out UU->Option S):Tm×Int->Option S:=fun r=>κ (.ret (aT r.1) [.cells [.int .i64 1,(iI r.2)]])
def aHA (nN:List Cl) (oI oE:Int) (oV:ByteArray) (oT:List Cl) (oU:List Tm) (nU q:List (Br Tm)) (uN uW:Int) (uV:ByteArray) (uU:List Cl) (uT:List Tm) (uO:List (Br Tm)) (tR tQ:Int) (tP:ByteArray) (tM:List Cl) (th:List Tm) (tg:List (Br Tm)) (κ:Out UU->Option S):List (Br Tm)×Int->Option S:=fun r=>κ (.ret (dN r.1 .full) [.cells [(iI r.2),(sC nN),(iI oI),(iI oE),(.str oV),(sC oT),(sT oU),(sB nU),(sB q),(iI uN),(iI uW),(.str uV),(sC uU),(sT uT),(sB uO),(iI tR),(iI tQ),(.str tP),(sC tM),(sT th),(sB tg)],.cells [(pt 0)]])
def aCO (qM qK:Int) (qJ:ByteArray) (qI:List Cl) (qH:List Tm) (qG qR:List (Br Tm)) (κ:Out UU->Option S):List Tm×Int->Option S:=fun r=>κ (.ret (sT r.1) [.cells [(pt 1)],.cells [(iI r.2),(iI qM),(iI qK),(.str qJ),(sC qI),(sT qH),(sB qG),(sB qR)]])
def MT (nN oI:Int) (oE:ByteArray) (oV:List Cl) (oT:List Tm) (oU nU:List (Br Tm)) (κ:Out UU->Option S):List (Br Tm)×Int->Option S:=fun r=>κ (.ret (sB r.1) [.cells [(iI r.2),(iI nN),(iI oI),(.str oE),(sC oV),(sT oT),(sB oU),(sB nU)],.cells [(pt 0)]])
def aCP (κ:Out UU->Option S):List (Br Tm)×Int->Option S:=fun r=>κ (.ret (sB r.1) [.cells [.int .i64 0,(iI r.2)]])
def jg (nN oI:Int) (oE:ByteArray) (oV:List Cl) (oT:List Tm) (oU nU:List (Br Tm)) (κ:Out UU->Option S):Int×Int×ByteArray×List Tm×Int->Option S:=fun r=>κ (.ret (.agg [(iI r.1),(iI r.2.1),(.str r.2.2.1),(bZ [] .nil),(sT r.2.2.2.1),(dN [] .nil)]) [.cells [(iI r.2.2.2.2),(iI nN),(iI oI),(.str oE),(sC oV),(sT oT),(sB oU),(sB nU)]])
def aHB (c0:Int) (κ:Out UU->Option S):List Tm->Option S:=fun r=>κ (.ret (sT r) [bI c0])
def iB (nV nN oI:Int) (oE:ByteArray) (oV:List Cl) (oT:List Tm) (oU nU:List (Br Tm)) (c1:Int) (κ:Out UU->Option S):List (Br Tm)->Option S:=fun r=>κ (.ret (sB r) [.cells [(iI nV),(iI nN),(iI oI),(.str oE),(sC oV),(sT oT),(sB oU),(sB nU)],bI c1])
def aHC (uA qM qK:Int) (qJ:ByteArray) (qI:List Cl) (qH:List Tm) (qG qR:List (Br Tm)) (κ:Out UU->Option S):Int×Int×ByteArray×List Tm×List (Br Tm)->Option S:=fun r=>κ (.ret (.tuple [(.agg [(iI r.1),(iI r.2.1),(.str r.2.2.1),(bZ [] .nil),(sT r.2.2.2.1),(dN [] .nil)]),(sB r.2.2.2.2)]) [.cells [(pt 1)],.cells [(iI uA),(iI qM),(iI qK),(.str qJ),(sC qI),(sT qH),(sB qG),(sB qR)]])
def aHD (κ:Out UU->Option S):Int×Int×ByteArray×List Cl×List Tm->Option S:=fun r=>κ (.ret (.agg [(iI r.1),(iI r.2.1),(.str r.2.2.1),(sC r.2.2.2.1),(dO r.2.2.2.2 .full),(dN [] .nil)]) [])
def aHh (nN oI:Int) (oE:ByteArray) (oV:List Cl) (oT:List Tm) (oU nU:List (Br Tm)) (κ:Out UU->Option S):Int×Int×ByteArray×List Tm×List (Br Tm)×Int->Option S:=fun r=>κ (.ret (.agg [(iI r.1),(iI r.2.1),(.str r.2.2.1),(bZ [] .nil),(sT r.2.2.2.1),(sB r.2.2.2.2.1)]) [.cells [(iI r.2.2.2.2.2),(iI nN),(iI oI),(.str oE),(sC oV),(sT oT),(sB oU),(sB nU)]])
def aHi (c1:List (Br Tm)) (κ:Out UU->Option S):(Br Tm)×Int->Option S:=fun r=>κ (.ret (aB r.1) [.cells [(pt 2)],.cells [(sB c1)],bI r.2])
def hq (c1:List (Br Tm)) (κ:Out UU->Option S):List (Br Tm)×Int->Option S:=fun r=>κ (.ret (uf r.1) [.cells [(pt 2)],.cells [(sB c1)],bI r.2])
def aHj (c1 c2:Tm) (κ:Out UU->Option S):(Br Tm)×Int->Option S:=fun r=>κ (.ret (aB r.1) [.cells [(pt 3)],bT c1,bT c2,bI r.2])
def sU (c1 c2:Tm) (κ:Out UU->Option S):List (Br Tm)×Int->Option S:=fun r=>κ (.ret (uf r.1) [.cells [(pt 3)],bT c1,bT c2,bI r.2])
def aHk (c0 c1:Tm) (κ:Out UU->Option S):(Br Tm)->Option S:=fun r=>κ (.ret (aB r) [bT c0,bT c1])
def Ir (c0 c1:Tm) (κ:Out UU->Option S):List (Br Tm)->Option S:=fun r=>κ (.ret (uf r) [bT c0,bT c1])
def Na (nV:List Df) (κ:Out UU->Option S):pr (Int×Int) (Tm×Bool×Int)->Option S:=fun r=>pr.elim r (fun r=>κ (.ret (.tuple [(aT r.1),(.bool r.2.1)]) [.cells [(km nV .none),(iI r.2.2)]])) (fun e=>κ (.panic (.iface 35 (iI e.1)) [.cells [(km nV .none),(iI e.2)]]))
def P' (nV:List Df) (κ:Out UU->Option S):pr (Int×Int) (Tm×Int)->Option S:=fun r=>pr.elim r (fun r=>κ (.ret (aT r.1) [.cells [(km nV .none),(iI r.2)]])) (fun e=>κ (.panic (.iface 35 (iI e.1)) [.cells [(km nV .none),(iI e.2)]]))
def aHl (κ:Out UU->Option S):Tm×Int×Int->Option S:=fun r=>κ (.ret (.tuple [(aT r.1),(iI r.2.1),(iI r.2.2)]) [])
def ays (c0:Int) (κ:Out UU->Option S):pr Int Tm->Option S:=fun r=>pr.elim r (fun r=>κ (.ret (aT r) [bI c0])) (fun e=>κ (.panic (.iface 35 (iI e)) [bI c0]))
def aK2 (κ:Out UU->Option S):pr Int Cl->Option S:=fun r=>pr.elim r (fun r=>κ (.ret (aC r) [])) (fun e=>κ (.panic (.iface 35 (iI e)) []))
def E9 (nV:List Df) (κ:Out UU->Option S):pr (Int×Int) (Bool×Int)->Option S:=fun r=>pr.elim r (fun r=>κ (.ret (.bool r.1) [.cells [(km nV .none),(iI r.2)]])) (fun e=>κ (.panic (.iface 35 (iI e.1)) [.cells [(km nV .none),(iI e.2)]]))
def o3 (κ:Out UU->Option S):Bool×Int×Int->Option S:=fun r=>κ (.ret (.tuple [(.bool r.1),(iI r.2.1),(iI r.2.2)]) [])
def x' (κ:Out UU->Option S):List Df->Option S:=fun r=>κ (.ret (km r .none) [])
end
end
section
open Go PI _root_.Go.Proofs.Tryz
noncomputable section
variable {S:Type} {o:Obj} (k:Nat)
def F_:Rw S:=aj pW xn fun kind kids Z=>aa k (F6 k kind kids) (aE Z)
def mH:Fx S:=fx 8 (fun _=>[]) (fun _=>false) [] [] k f15 true [] 0
theorem eX0 (ho:ai o):Tl o 15 (F_ k:Rw S):=ou (mH k) trivial func15 fun kind kids Z x h=>px h
def Od:Rw S:=aj dV xn fun kind bV Z=>aa k (gI k kind bV) (aA Z)
def UA:Fx S:=fp 26 [] [] k f126 0
theorem sr (ho:ai o):Tl o 126 (Od k:Rw S):=ou (UA k) trivial func126 fun kind bV Z x h=>px h
def Pe (hd:du S):Rw S:=aj Ag xn fun t left Z=>hd t left (F9 Z)
def jA (hd:du S) (k:Nat):Rw S:=aj Lh fh fun Dd p q c0 Z=>aa k (uk hd k Dd p q c0) (kT c0 Z)
def V3 (hd:du S) (k:Nat):Fx S:=fp 12 [(55,Pe hd)] [] k f117 1
theorem kc (o:Obj) (ho:ai o) (hd:du S) (Hd:Tl o 55 (Pe hd)) (k:Nat):Tl o 117 (jA hd k:Rw S):=ou (V3 hd k) ⟨Hd,trivial⟩ func117 fun Dd p q c0 Z x h=>px h
def rX4 (hd:du S) (k:Nat):Rw S:=aj kX5 fh fun t c0 Z=>aa k (DX hd k t c0) (kT c0 Z)
def V_ (hd:du S) (k:Nat):Fx S:=fp 60 [(117,jA hd k),(126,Od k)] [(2,aS [1,2,15,16,17] [(2,6),(1000000,1)],ap 4 5),(12,aS [1,9,40,41,42] [(1000000,1)],ap 7 47),(15,aS [1,9,40,41,42,47,48,49] [(1000000,1)],ap 15 13103)] k f58 1
def azC (c0:Int) (t:Tm) (ov:Int):St UU:=⟨[(1,(.func 117 [] [(pt 1000000)])),(2,(pt 2)),(15,(sT t.c)),(16,(iI t.c.length)),(17,(iI ov))],[(2,bT t),(1000000,bI c0)],[],[]⟩
def W2 (c0:Int) (t:Tm) (ox q:Int):St UU:=⟨[(1,(.func 117 [] [(pt 1000000)])),(9,(iI q)),(40,(sB t.s)),(41,(iI t.s.length)),(42,(iI ox))],[(1000000,bI c0)],[],[]⟩
def aCh (c0:Int) (t:Tm) (ox:Int) (x4:(Br Tm)) (q:Int) (qC:Int):St UU:=⟨[(1,(.func 117 [] [(pt 1000000)])),(9,(iI q)),(40,(sB t.s)),(41,(iI t.s.length)),(42,(iI ox)),(47,(sT x4.c)),(48,(iI x4.c.length)),(49,(iI qC))],[(1000000,bI c0)],[],[]⟩
section
variable (hd:du S) (k:Nat) (t:Tm) (c0:Int) (Z:Out UU->Option S)
theorem aEu (ox x4 q Z1): ∀n qC,(V_ hd k).lp Z 15 [Z1] n (aCh c0 t ox x4 q qC)=SL hd k (kT c0 Z) (fun ox q=>Z1 (W2 c0 t ox q)) c0 t ox x4 q n qC:=cF (yi hd k (kT c0 Z) c0 t ox x4 q (fun ox q=>Z1 (W2 c0 t ox q)))
theorem aEt: ∀n ox q,(V_ hd k).lp Z 12 [] n (W2 c0 t ox q)=jp hd k (kT c0 Z) c0 t n ox q:=aL (fun own=>tp hd k (kT c0 Z) c0 t (fun ox x4 q qC=>SL hd k (kT c0 Z) own c0 t ox x4 q k qC) own) rfl (fun _=>rfl) fun r ox q=>o0 (b:=tp hd k (kT c0 Z) c0 t (fun ox x4 q qC=>(V_ hd k).lp Z 15 [r] k (aCh c0 t ox x4 q qC)) (fun ox q=>r (W2 c0 t ox q)) ox q) (by kernel_rfl) (by simp only [aEu])
theorem aEs: ∀n ov,(V_ hd k).lp Z 2 [] n (azC c0 t ov)=qS hd k (kT c0 Z) c0 t n ov:=cF (fun own=>tn hd k (kT c0 Z) c0 t (fun ox q=>jp hd k (kT c0 Z) c0 t k ox q) own) rfl (fun _=>rfl) fun r ov=>o0 (b:=tn hd k (kT c0 Z) c0 t (fun ox q=>(V_ hd k).lp Z 12 [] k (W2 c0 t ox q)) (fun ov=>r (azC c0 t ov)) ov) (by kernel_rfl) (by simp only [aEt])
end
theorem eX4 (o:Obj) (ho:ai o) (hd:du S) (Hd:Tl o 55 (Pe hd)) (k:Nat):Tl o 58 (rX4 hd k:Rw S):=ou (V_ hd k) ⟨kc o ho hd Hd k,sr k ho,trivial⟩ func58 fun t c0 Z x h=>o0 (b:=IV hd k (kT c0 Z) (fun ov=>(V_ hd k).lp Z 2 [] k (azC c0 t ov)) t c0) (by kernel_rfl) (o0 (by simp only [aEs];rfl) (al h))
def VF (hd:du S) (k:Nat):Fx S:=fp 12 [(58,rX4 hd k)] [] k f55 0
theorem hX2 (o:Obj) (ho:ai o): ∀k:Nat,Tl o 55 (Pe (jf k:du S))
 |0=>dz fun t left Z x h=>by cases h
 |k+1=>ou (VF (jf k) k) ⟨eX4 o ho (jf k) (hX2 o ho k) k,trivial⟩ func55 fun t left Z x h=>o0 (by kernel_rfl) h
def PN (hd:HN S):Rw S:=aj kX6 xX7 fun t c1 Z=>hd t c1 (eJ Z)
def PX (hd:HN S) (k:Nat):Rw S:=aj kX8 xX9 fun t c0 Z=>aa k (pB hd k t c0) (gf Z)
def mT (hd:HN S) (k:Nat):Fx S:=fp 14 [(58,PN hd)] [] k f118 2
theorem eX6 (o:Obj) (ho:ai o) (hd:HN S) (Hd:Tl o 58 (PN hd)) (k:Nat):Tl o 118 (PX hd k:Rw S):=ou (mT hd k) ⟨Hd,trivial⟩ func118 fun t c0 Z x h=>px h
def Bh (hd:HN S) (k:Nat):Rw S:=aj Lh xX7 fun Dd p q c1 Z=>aa k (ul hd k Dd p q c1) (eJ Z)
def mU (hd:HN S) (k:Nat):Fx S:=fp 11 [(118,PX hd k)] [] k f119 2
theorem eX7 (o:Obj) (ho:ai o) (hd:HN S) (Hd:Tl o 58 (PN hd)) (k:Nat):Tl o 119 (Bh hd k:Rw S):=ou (mU hd k) ⟨eX6 o ho hd Hd k,trivial⟩ func119 fun Dd p q c1 Z x h=>px h
def Wh (hd:HN S) (k:Nat):Fx S:=fp 60 [(119,Bh hd k),(126,Od k)] [(2,aS [1,2,15,16,17] [(2,6),(1000000,1),(1000001,1)],ap 4 5),(12,aS [1,9,40,41,42] [(1000000,1),(1000001,1)],ap 7 47),(15,aS [1,9,40,41,42,47,48,49] [(1000000,1),(1000001,1)],ap 15 13103)] k f58 2
def azE (t:Tm) (arm ov:Int):St UU:=⟨[(1,(.func 119 [] [(pt 1000000)])),(2,(pt 2)),(15,(sT t.c)),(16,(iI t.c.length)),(17,(iI ov))],[(2,bT t),(1000000,.cells [(.func 118 [] [(pt 1000001),(pt 1000000)])]),(1000001,bI arm)],[],[]⟩
def p6 (t:Tm) (sX ox q:Int):St UU:=⟨[(1,(.func 119 [] [(pt 1000000)])),(9,(iI q)),(40,(sB t.s)),(41,(iI t.s.length)),(42,(iI ox))],[(1000000,.cells [(.func 118 [] [(pt 1000001),(pt 1000000)])]),(1000001,bI sX)],[],[]⟩
def aCm (t:Tm) (ox:Int) (x4:(Br Tm)) (q:Int) (tc qC:Int):St UU:=⟨[(1,(.func 119 [] [(pt 1000000)])),(9,(iI q)),(40,(sB t.s)),(41,(iI t.s.length)),(42,(iI ox)),(47,(sT x4.c)),(48,(iI x4.c.length)),(49,(iI qC))],[(1000000,.cells [(.func 118 [] [(pt 1000001),(pt 1000000)])]),(1000001,bI tc)],[],[]⟩
section
variable (hd:HN S) (k:Nat) (t:Tm) (c1:Int) (Z:Out UU->Option S)
theorem aEE (ox x4 q Z1): ∀n tc qC,(Wh hd k).lp Z 15 [Z1] n (aCm t ox x4 q tc qC)=kL hd k (eJ Z) (fun sX ox q=>Z1 (p6 t sX ox q)) t ox x4 q n tc qC:=aL (yg hd k (eJ Z) t ox x4 q (fun sX ox q=>Z1 (p6 t sX ox q)))
theorem aED: ∀n sX ox q,(Wh hd k).lp Z 12 [] n (p6 t sX ox q)=Ms hd k (eJ Z) t n sX ox q:=EG (fun own=>tj hd k (eJ Z) t (fun ox x4 q tc qC=>kL hd k (eJ Z) own t ox x4 q k tc qC) own) rfl (fun _=>rfl) fun r sX ox q=>o0 (b:=tj hd k (eJ Z) t (fun ox x4 q tc qC=>(Wh hd k).lp Z 15 [r] k (aCm t ox x4 q tc qC)) (fun sX ox q=>r (p6 t sX ox q)) sX ox q) (by kernel_rfl) (by simp only [aEE])
theorem aEC: ∀n arm ov,(Wh hd k).lp Z 2 [] n (azE t arm ov)=nY hd k (eJ Z) t n arm ov:=aL (fun own=>ti hd k (eJ Z) t (fun sX ox q=>Ms hd k (eJ Z) t k sX ox q) own) rfl (fun _=>rfl) fun r arm ov=>o0 (b:=ti hd k (eJ Z) t (fun sX ox q=>(Wh hd k).lp Z 12 [] k (p6 t sX ox q)) (fun arm ov=>r (azE t arm ov)) arm ov) (by kernel_rfl) (by simp only [aED])
end
theorem hX5 (o:Obj) (ho:ai o): ∀k:Nat,Tl o 58 (PN (K3 k:HN S))
 |0=>dz fun t c1 Z x h=>by cases h
 |k+1=>ou (Wh (K3 k) k) ⟨eX7 o ho (K3 k) (hX5 o ho k) k,sr k ho,trivial⟩ func58 fun t c1 Z x h=>o0 (b:=IT (K3 k) k (eJ Z) (fun arm ov=>(Wh (K3 k) k).lp Z 2 [] k (azE t arm ov)) t c1) (by kernel_rfl) (o0 (by simp only [aEC];rfl) h)
def GR:Rw S:=aj Ag xn fun t ot Z=>aa k (zE k t ot) (F9 Z)
def WI:Fx S:=fp 10 [(118,PX (K3 k) k)] [] k f56 0
theorem Kw (ho:ai o):Tl o 56 (GR k:Rw S):=ou (WI k) ⟨eX6 o ho (K3 k) (hX5 o ho k) k,trivial⟩ func56 fun t ot Z x h=>px h
def Qg:Rw S:=aj Ez xn fun t Z=>aa k (zD k t) (da Z)
def WO:Fx S:=fp 11 [(55,Pe (jf k)),(56,GR k)] [] k f25 0
theorem eX9 (ho:ai o):Tl o 25 (Qg k:Rw S):=ou (WO k) ⟨hX2 o ho k,Kw k ho,trivial⟩ func25 fun t Z x h=>px h
def Oe:Rw S:=aj Mw xn fun kind Z=>aa k (zA k kind) (da Z)
def UB:Fx S:=fp 38 [] [] k f120 0
theorem aat (ho:ai o):Tl o 120 (Oe k:Rw S):=ou (UB k) trivial func120 fun kind Z x h=>px h
def Ol:Rw S:=aj Mw xn fun kind Z=>aa k (lJ k kind) (da Z)
def UI:Fx S:=fp 10 [] [] k f121 0
theorem aaA (ho:ai o):Tl o 121 (Ol k:Rw S):=ou (UI k) trivial func121 fun kind Z x h=>px h
def Ov:Rw S:=aj Ld xn fun s Z=>aa k (zC k s) (F9 Z)
def UO:Fx S:=fp 49 [] [(2,aS [0,7,8] [],ap 4 5),(1000006,aS [0,3,4,5,7,8] [],ap 12 3685)] k f122 0
def Hi (s:ByteArray) (q:Int):St UU:=⟨[(0,(.str s)),(7,(.int .i64 (s.size:Int))),(8,(iI q))],[],[],[]⟩
def aBH (s:ByteArray) (x:Int) (x1:UInt8) (q:Bool):St UU:=⟨[(0,(.str s)),(3,(iI x)),(4,(.int .u8 (x1.toNat:Int))),(5,(.bool q)),(7,(.int .i64 (s.size:Int))),(8,(iI x))],[],[],[]⟩
section
variable (k:Nat) (s:ByteArray) (Z:Out UU->Option S)
theorem aDK (x x1 Z0): ∀n q,(UO k).jn Z 1000006 [Z0] n (aBH s x x1 q)=Aq k (F9 Z) (fun x=>Z0 (Hi s x)) s x x1 n q:=jn1 (Dk k (F9 Z) s x x1 (fun x=>Z0 (Hi s x)))
theorem aDJ: ∀n x,(UO k).lp Z 2 [] n (Hi s x)=n7 k (F9 Z) s n x:=cF (fun own=>tv k (F9 Z) s (fun x x1 q=>Aq k (F9 Z) own s x x1 k q) own) rfl (fun _=>rfl) fun r x=>o0 (b:=tv k (F9 Z) s (fun x x1 q=>(UO k).jn Z 1000006 [r] k (aBH s x x1 q)) (fun x=>r (Hi s x)) x) (by kernel_rfl) (by simp only [aDK])
end
theorem aaH (ho:ai o):Tl o 122 (Ov k:Rw S):=ou (UO k) trivial func122 fun s Z x h=>o0 (b:=IY k (F9 Z) (fun q=>(UO k).lp Z 2 [] k (Hi s q)) s) (by kernel_rfl) (o0 (by simp only [aDJ];rfl) (al h))
def OC:Rw S:=aj uG xn fun s Z=>aa k (pm k s) (F9 Z)
def UX:Fx S:=fp 6 [] [] k f229 0
theorem aaO (ho:ai o):Tl o 229 (OC k:Rw S):=ou (UX k) trivial func229 fun s Z x h=>px h
def OM:Rw S:=aj ny xn fun c Z=>aa k (tC k c) (F9 Z)
def rU:Fx S:=fp 11 [(229,OC k)] [] k f184 0
theorem aaY (ho:ai o):Tl o 184 (OM k:Rw S):=ou (rU k) ⟨aaO k ho,trivial⟩ func184 fun c Z x h=>px h
def OU:Rw S:=aj uH xn fun a b Z=>aa k (pb k a b) (Oa Z)
def Vb:Fx S:=fp 16 [] [] k f191 0
theorem aa6 (ho:ai o):Tl o 191 (OU k:Rw S):=ou (Vb k) trivial func191 fun a b Z x h=>px h
def Gn:Rw S:=aj uH xn fun a b Z=>aa k (yA k a b) (F9 Z)
def Vg:Fx S:=fp 10 [(191,OU k)] [] k f210 0
theorem J7 (ho:ai o):Tl o 210 (Gn k:Rw S):=ou (Vg k) ⟨aa6 k ho,trivial⟩ func210 fun a b Z x h=>px h
def A7:Rw S:=aj EU wC fun d c0 Z=>aa k (yC k d c0) (Oc c0 Z)
def Vn:Fx S:=fp 12 [(210,Gn k)] [] k f209 1
theorem Eb (ho:ai o):Tl o 209 (A7 k:Rw S):=ou (Vn k) ⟨J7 k ho,trivial⟩ func209 fun d c0 Z x h=>px h
def O5:Rw S:=aj Le wC fun s c0 Z=>aa k (DV k s c0) (A1 c0 Z)
def Vr:Fx S:=fp 19 [(209,A7 k)] [(2,aS [0,1,7,8] [(1000000,2)],ap 4 5)] k f214 1
def aBP (c0:Cl) (s:List Cl) (q:Int):St UU:=⟨[(0,(sC s)),(1,(.func 209 [] [(pt 1000000)])),(7,(iI s.length)),(8,(iI q))],[(1000000,bC c0)],[],[]⟩
section
variable (k:Nat) (s:List Cl) (c0:Cl) (Z:Out UU->Option S)
theorem aDS: ∀n q,(Vr k).lp Z 2 [] n (aBP c0 s q)=qO k (A1 c0 Z) c0 s n q:=cF (yc k (A1 c0 Z) c0 s)
end
theorem abg (ho:ai o):Tl o 214 (O5 k:Rw S):=ou (Vr k) ⟨Eb k ho,trivial⟩ func214 fun s c0 Z x h=>o0 (b:=IM k (A1 c0 Z) (fun q=>(Vr k).lp Z 2 [] k (aBP c0 s q)) s c0) (by kernel_rfl) (o0 (by simp only [aDS];rfl) (al h))
def O9:Rw S:=aj Le wC fun s c0 Z=>aa k (DT k s c0) (Oc c0 Z)
def Vx:Fx S:=fp 9 [(214,O5 k)] [] k f174 1
theorem abk (ho:ai o):Tl o 174 (O9 k:Rw S):=ou (Vx k) ⟨abg k ho,trivial⟩ func174 fun s c0 Z x h=>px h
def Pf:Rw S:=aj EU alt fun c c0 Z=>aa k (yB k c c0) (ahX c0 Z)
def CK:Fx S:=fp 7 [(174,O9 k)] [] k f208 1
theorem abr (ho:ai o):Tl o 208 (Pf k:Rw S):=ou (CK k) ⟨abk k ho,trivial⟩ func208 fun c c0 Z x h=>px h
def Pp:Rw S:=aj eo xn fun l Z=>aa k (gy k l) (ua Z)
def VK:Fx S:=fx 55 (fun _=>[]) (fun|53=>true|_=>false) [(184,OM k),(208,Pf k)] [(4,⟨[(4,nM),(5,nM),(13,nM),(14,nM),(15,nM)],[(5,[ql 200320]),(12,[])]⟩,ap 6 23),(15,⟨[(8,nM),(9,ql 100009),(34,nM),(35,nM),(36,nM)],[(5,[nM])]⟩,ap 9 191)] k f172 false [] 0
def a6 (l:List Cl) (x:List (Cl×Bool)) (q:List Cl) (z:Int):St UU:=⟨[(4,(.mp 12)),(5,(pt 5)),(13,(sC l)),(14,(iI l.length)),(15,(iI z))],[(5,.cells [(.own 200320 0)]),(12,.map ET.C x)],[(200320,⟨0,ET.C,q⟩)],[(200320,.wr)]⟩
def aBS (q:List Cl) (H8:Int) (x:List Cl):St UU:=⟨[(8,(.func 208 [] [(pt 5)])),(9,(.own 100009 0)),(34,(sC q)),(35,(iI q.length)),(36,(iI H8))],[(5,.cells [(sC q)])],[(100009,⟨0,ET.C,x⟩)],[(100009,.wr)]⟩
section
variable (k:Nat) (l:List Cl) (Z:Out UU->Option S)
theorem aDW (q): ∀n H8 x,(VK k).lp Z 15 [] n (aBS q H8 x)=nz k (ua Z) q n H8 x:=aL (wM k (ua Z) q)
theorem aDV: ∀n z q A,(VK k).lp Z 4 [] n (a6 l z q A)=pZ k (ua Z) l n z q A:=EG (fun own=>m' k (ua Z) l (fun q H8 x=>nz k (ua Z) q k H8 x) own) rfl (fun _=>rfl) fun r z q A=>o0 (b:=m' k (ua Z) l (fun q H8 x=>(VK k).lp Z 15 [] k (aBS q H8 x)) (fun z q A=>r (a6 l z q A)) z q A) (by kernel_rfl) (by simp only [aDW])
end
theorem M5 (ho:ai o):Tl o 172 (Pp k:Rw S):=ou (VK k) ⟨aaY k ho,abr k ho,trivial⟩ func172 fun l Z x h=>o0 (b:=Hw k (ua Z) (fun z q A=>(VK k).lp Z 4 [] k (a6 l z q A)) l) (by kernel_rfl) (o0 (by simp only [aDV];rfl) (al h))
def Pu:Rw S:=aj jk xn fun s1 s2 Z=>aa k (zz k s1 s2) (F9 Z)
def VS:Fx S:=fp 26 [] [(4,aS [0,1,12,13] [],ap 5 11)] k f31 0
def aBW (s1 s2:List Cl) (q:Int):St UU:=⟨[(0,(sC s1)),(1,(sC s2)),(12,(iI s1.length)),(13,(iI q))],[],[],[]⟩
section
variable (k:Nat) (s1 s2:List Cl) (Z:Out UU->Option S)
theorem aD0: ∀n q,(VS k).lp Z 4 [] n (aBW s1 s2 q)=qN k (F9 Z) s1 s2 n q:=cF (yb k (F9 Z) s1 s2)
end
theorem k7 (ho:ai o):Tl o 31 (Pu k:Rw S):=ou (VS k) trivial func31 fun s1 s2 Z x h=>o0 (b:=IL k (F9 Z) (fun q=>(VS k).lp Z 4 [] k (aBW s1 s2 q)) s1 s2) (by kernel_rfl) (o0 (by simp only [aD0];rfl) (al h))
def jz:Rw S:=aj eo xn fun f Z=>aa k (hY k f) (F9 Z)
def anH:Fx S:=fp 17 [(31,Pu k),(172,Pp k)] [] k f123 0
theorem j_ (ho:ai o):Tl o 123 (jz k:Rw S):=ou (anH k) ⟨k7 k ho,M5 k ho,trivial⟩ func123 fun f Z x h=>px h
def PE:Rw S:=aj Mw xn fun i Z=>aa k (nd k i) (F9 Z)
def CU:Fx S:=fp 9 [] [] k f238 0
theorem hy (ho:ai o):Tl o 238 (PE k:Rw S):=ou (CU k) trivial func238 fun i Z x h=>px h
def K2:Rw S:=aj lS xn fun s i Z=>aa k (jX k s i) (b_ Z)
def VZ:Fx S:=fp 16 [(238,PE k)] [] k f213 0
theorem pL (ho:ai o):Tl o 213 (K2 k:Rw S):=ou (VZ k) ⟨hy k ho,trivial⟩ func213 fun s i Z x h=>px h
def vL:Rw S:=aj eo xn fun f Z=>aa k (pg k f) (b_ Z)
def V0:Fx S:=fp 22 [(213,K2 k)] [(3,aS [3,6,7,8] [],ap 5 11)] k f173 0
def aB8 (f:List Cl) (q x:Int):St UU:=⟨[(3,(iU q)),(6,(sC f)),(7,(iI f.length)),(8,(iI x))],[],[],[]⟩
section
variable (k:Nat) (f:List Cl) (Z:Out UU->Option S)
theorem aEc: ∀n q x,(V0 k).lp Z 3 [] n (aB8 f q x)=qb k (b_ Z) f n q x:=aL (wY k (b_ Z) f)
end
theorem zN (ho:ai o):Tl o 173 (vL k:Rw S):=ou (V0 k) ⟨pL k ho,trivial⟩ func173 fun f Z x h=>o0 (b:=HL k (b_ Z) (fun q z=>(V0 k).lp Z 3 [] k (aB8 f q z)) f) (by kernel_rfl) (o0 (by simp only [aEc];rfl) (al h))
def Ba:Rw S:=aj EV xn fun f nP Z=>aa k (lK k f nP) (F9 Z)
def V1:Fx S:=fp 15 [(173,vL k)] [] k f124 0
theorem Ef (ho:ai o):Tl o 124 (Ba k:Rw S):=ou (V1 k) ⟨zN k ho,trivial⟩ func124 fun f nP Z x h=>px h
def Bb:Rw S:=aj ny xn fun c Z=>aa k (tB k c) (F9 Z)
def CV:Fx S:=fp 9 [] [] k f175 0
theorem Eg (ho:ai o):Tl o 175 (Bb k:Rw S):=ou (CV k) trivial func175 fun c Z x h=>px h
def PF:Rw S:=aj Lf xn fun s Z=>aa k (DW k s) (da Z)
def V2:Fx S:=fp 19 [(175,Bb k)] [(2,aS [0,1,7,8] [],ap 4 5)] k f214 0
def aB9 (s:List Cl) (q:Int):St UU:=⟨[(0,(sC s)),(1,(.func 175 [] [])),(7,(iI s.length)),(8,(iI q))],[],[],[]⟩
section
variable (k:Nat) (s:List Cl) (Z:Out UU->Option S)
theorem aEd: ∀n q,(V2 k).lp Z 2 [] n (aB9 s q)=qP k (da Z) s n q:=cF (yd k (da Z) s)
end
theorem abR (ho:ai o):Tl o 214 (PF k:Rw S):=ou (V2 k) ⟨Eg k ho,trivial⟩ func214 fun s Z x h=>o0 (b:=IN k (da Z) (fun q=>(V2 k).lp Z 2 [] k (aB9 s q)) s) (by kernel_rfl) (o0 (by simp only [aEd];rfl) (al h))
def GH:Rw S:=aj Lf xn fun s Z=>aa k (DU k s) (F9 Z)
def V4:Fx S:=fp 9 [(214,PF k)] [] k f174 0
theorem Kl (ho:ai o):Tl o 174 (GH k:Rw S):=ou (V4 k) ⟨abR k ho,trivial⟩ func174 fun s Z x h=>px h
def PG:Rw S:=aj eo xn fun f Z=>aa k (pd k f) (F9 Z)
def CW:Fx S:=fp 10 [(123,jz k),(174,GH k)] [] k f125 0
theorem x9 (ho:ai o):Tl o 125 (PG k:Rw S):=ou (CW k) ⟨j_ k ho,Kl k ho,trivial⟩ func125 fun f Z x h=>px h
def PH:Rw S:=aj n1 xn fun t vars nP Z=>aa k (uj k t vars nP) (F9 Z)
def V5:Fx S:=fp 138 [(120,Oe k),(121,Ol k),(122,Ov k),(123,jz k),(124,Ba k),(125,PG k)] [(1000003,aS [1,2,3] [(3,6)],ap 2 3),(15,aS [2,3,107,108,109] [(3,6)],ap 6 23)] k f57 0
def aB_ (t:Tm) (vars nP:Int):St UU:=⟨[(1,(iI vars)),(2,(iI nP)),(3,(pt 3))],[(3,bT t)],[],[]⟩
def aCa (t:Tm) (nP:Int) (v109:Int):St UU:=⟨[(2,(iI nP)),(3,(pt 3)),(107,(sB t.s)),(108,(iI t.s.length)),(109,(iI v109))],[(3,bT t)],[],[]⟩
section
variable (k:Nat) (t:Tm) (vars nP:Int) (Z:Out UU->Option S)
theorem aEf: ∀n v109,(V5 k).lp Z 15 [] n (aCa t nP v109)=kO k (F9 Z) t nP n v109:=cF (yl k (F9 Z) t nP)
theorem aEe: ∀n,(V5 k).jn Z 1000003 [] n (aB_ t vars nP)=Ar k (F9 Z) t vars nP n:=gL (tw k (F9 Z) t vars nP (fun v109=>kO k (F9 Z) t nP k v109)) rfl (fun _=>rfl) (o0 (b:=tw k (F9 Z) t vars nP (fun v109=>(V5 k).lp Z 15 [] k (aCa t nP v109))) (by kernel_rfl) (by simp only [aEf]))
end
theorem abT (ho:ai o):Tl o 57 (PH k:Rw S):=ou (V5 k) ⟨aat k ho,aaA k ho,aaH k ho,j_ k ho,Ef k ho,x9 k ho,trivial⟩ func57 fun t vars nP Z x h=>o0 (b:=IZ k (F9 Z) ((V5 k).jn Z 1000003 [] k (aB_ t vars nP)) t vars nP) (by kernel_rfl) (o0 (by simp only [aEe];rfl) (al h))
def GI (hd:dr S):Rw S:=aj Lg xn fun t vars nP bound Z=>hd t vars nP bound (F9 Z)
def PJ (hd:dr S) (k:Nat):Rw S:=aj adA Ut fun Dd v d c0 c1 c2 Z=>aa k (uh hd k Dd v d c0 c1 c2) (gc c0 c1 c2 Z)
def aRx (hd:dr S) (k:Nat):Fx S:=fp 21 [(26,GI hd)] [] k f59 3
theorem abU (o:Obj) (ho:ai o) (hd:dr S) (Hd:Tl o 26 (GI hd)) (k:Nat):Tl o 59 (PJ hd k:Rw S):=ou (aRx hd k) ⟨Hd,trivial⟩ func59 fun Dd v d c0 c1 c2 Z x h=>px h
def vM (hd:dr S) (k:Nat):Rw S:=aj adB Ut fun t c0 c1 c2 Z=>aa k (zB hd k t c0 c1 c2) (gc c0 c1 c2 Z)
def V7 (hd:dr S) (k:Nat):Fx S:=fp 60 [(59,PJ hd k),(126,Od k)] [(2,aS [1,2,15,16,17] [(2,6),(1000000,1),(1000001,1),(1000002,1)],ap 4 5),(12,aS [1,9,40,41,42] [(1000000,1),(1000001,1),(1000002,1)],ap 7 47),(15,aS [1,9,40,41,42,47,48,49] [(1000000,1),(1000001,1),(1000002,1)],ap 15 13103)] k f58 3
def azz (c0 c1:Int) (c2:Bool) (t:Tm) (ov:Int):St UU:=⟨[(1,(.func 59 [] [(pt 1000000),(pt 1000001),(pt 1000002)])),(2,(pt 2)),(15,(sT t.c)),(16,(iI t.c.length)),(17,(iI ov))],[(2,bT t),(1000000,bI c0),(1000001,bI c1),(1000002,.cells [(.bool c2)])],[],[]⟩
def y8 (c0 c1:Int) (c2:Bool) (t:Tm) (ox q:Int):St UU:=⟨[(1,(.func 59 [] [(pt 1000000),(pt 1000001),(pt 1000002)])),(9,(iI q)),(40,(sB t.s)),(41,(iI t.s.length)),(42,(iI ox))],[(1000000,bI c0),(1000001,bI c1),(1000002,.cells [(.bool c2)])],[],[]⟩
def aCb (c0 c1:Int) (c2:Bool) (t:Tm) (ox:Int) (x4:(Br Tm)) (q:Int) (qC:Int):St UU:=⟨[(1,(.func 59 [] [(pt 1000000),(pt 1000001),(pt 1000002)])),(9,(iI q)),(40,(sB t.s)),(41,(iI t.s.length)),(42,(iI ox)),(47,(sT x4.c)),(48,(iI x4.c.length)),(49,(iI qC))],[(1000000,bI c0),(1000001,bI c1),(1000002,.cells [(.bool c2)])],[],[]⟩
section
variable (hd:dr S) (k:Nat) (t:Tm) (c0 c1:Int) (c2:Bool) (Z:Out UU->Option S)
theorem aEi (ox x4 q Z1): ∀n qC,(V7 hd k).lp Z 15 [Z1] n (aCb c0 c1 c2 t ox x4 q qC)=mi hd k (gc c0 c1 c2 Z) (fun ox q=>Z1 (y8 c0 c1 c2 t ox q)) c0 c1 c2 t ox x4 q n qC:=cF (yh hd k (gc c0 c1 c2 Z) c0 c1 c2 t ox x4 q (fun ox q=>Z1 (y8 c0 c1 c2 t ox q)))
theorem aEh: ∀n ox q,(V7 hd k).lp Z 12 [] n (y8 c0 c1 c2 t ox q)=iC hd k (gc c0 c1 c2 Z) c0 c1 c2 t n ox q:=aL (fun own=>tl hd k (gc c0 c1 c2 Z) c0 c1 c2 t (fun ox x4 q qC=>mi hd k (gc c0 c1 c2 Z) own c0 c1 c2 t ox x4 q k qC) own) rfl (fun _=>rfl) fun r ox q=>o0 (b:=tl hd k (gc c0 c1 c2 Z) c0 c1 c2 t (fun ox x4 q qC=>(V7 hd k).lp Z 15 [r] k (aCb c0 c1 c2 t ox x4 q qC)) (fun ox q=>r (y8 c0 c1 c2 t ox q)) ox q) (by kernel_rfl) (by simp only [aEi])
theorem aEg: ∀n ov,(V7 hd k).lp Z 2 [] n (azz c0 c1 c2 t ov)=nZ hd k (gc c0 c1 c2 Z) c0 c1 c2 t n ov:=cF (fun own=>tk hd k (gc c0 c1 c2 Z) c0 c1 c2 t (fun ox q=>iC hd k (gc c0 c1 c2 Z) c0 c1 c2 t k ox q) own) rfl (fun _=>rfl) fun r ov=>o0 (b:=tk hd k (gc c0 c1 c2 Z) c0 c1 c2 t (fun ox q=>(V7 hd k).lp Z 12 [] k (y8 c0 c1 c2 t ox q)) (fun ov=>r (azz c0 c1 c2 t ov)) ov) (by kernel_rfl) (by simp only [aEh])
end
theorem aFF (o:Obj) (ho:ai o) (hd:dr S) (Hd:Tl o 26 (GI hd)) (k:Nat):Tl o 58 (vM hd k:Rw S):=ou (V7 hd k) ⟨abU o ho hd Hd k,sr k ho,trivial⟩ func58 fun t c0 c1 c2 Z x h=>o0 (b:=IU hd k (gc c0 c1 c2 Z) (fun ov=>(V7 hd k).lp Z 2 [] k (azz c0 c1 c2 t ov)) t c0 c1 c2) (by kernel_rfl) (o0 (by simp only [aEg];rfl) (al h))
def V6 (hd:dr S) (k:Nat):Fx S:=fp 24 [(57,PH k),(58,vM hd k)] [] k f26 0
theorem azl (o:Obj) (ho:ai o): ∀k:Nat,Tl o 26 (GI (KW k:dr S))
 |0=>dz fun t vars nP bound Z x h=>by cases h
 |k+1=>ou (V6 (KW k) k) ⟨abT k ho,aFF o ho (KW k) (azl o ho k) k,trivial⟩ func26 fun t vars nP bound Z x h=>o0 (by kernel_rfl) h
def PK:Rw S:=aj Ez xn fun t Z=>aa k (Dh k t) (da Z)
def V8:Fx S:=fp 12 [(25,Qg k),(26,GI (KW k))] [] k f14 0
theorem FK (ho:ai o):Tl o 14 (PK k:Rw S):=ou (V8 k) ⟨eX9 k ho,azl o ho k,trivial⟩ func14 fun t Z x h=>px h
def PL (hd:eP S):Rw S:=aj Ez xn fun t Z=>hd t (aF Z)
def iJ (hd:eP S) (k:Nat):Rw S:=aj EW xn fun l Z=>aa k (ui hd k l) (AN Z)
def V9 (hd:eP S) (k:Nat):Fx S:=fp 19 [(34,PL hd)] [(3,⟨[(3,ql 100003),(6,nM),(7,nM),(8,nM)],[]⟩,ap 5 11)] k f80 0
def aCc (l:List Tm) (q:List Tm) (x:Int):St UU:=⟨[(3,(.own 100003 0)),(6,(sT l)),(7,(iI l.length)),(8,(iI x))],[],[(100003,⟨0,ET.T,q⟩)],[(100003,.wr)]⟩
section
variable (hd:eP S) (k:Nat) (l:List Tm) (Z:Out UU->Option S)
theorem aEj: ∀n q x,(V9 hd k).lp Z 3 [] n (aCc l q x)=mb hd k (AN Z) l n q x:=aL (yf hd k (AN Z) l)
end
theorem jh (o:Obj) (ho:ai o) (hd:eP S) (Hd:Tl o 34 (PL hd)) (k:Nat):Tl o 80 (iJ hd k:Rw S):=ou (V9 hd k) ⟨Hd,trivial⟩ func80 fun l Z x h=>o0 (b:=IS hd k (AN Z) (fun q z=>(V9 hd k).lp Z 3 [] k (aCc l q z)) l) (by kernel_rfl) (o0 (by simp only [aEj];rfl) (al h))
def mS (hd:eP S) (k:Nat):Fx S:=fp 40 [(79,G2),(80,iJ hd k)] [(3,⟨[(2,nM),(3,nM),(20,nM),(21,nM),(22,nM)],[(2,[nM,nM,nM,ql 200131,ql 200132,ql 200133]),(3,[nM,nM,nM,nM,nM,ql 200197])]⟩,ap 5 11)] k f34 0
def FH (t:Tm) (r1:List Cl) (r2:List Tm) (q:List (Br Tm)) (v22:Int):St UU:=⟨[(2,(pt 2)),(3,(pt 3)),(20,(sB t.s)),(21,(iI t.s.length)),(22,(iI v22))],[(2,.cells [(iI 0),(iI 0),zw,(.own 200131 0),(.own 200132 0),(.own 200133 0)]),(3,.cells [(iI t.k),(iI t.n),(.str t.name),(sC r1),(sT r2),(.own 200197 0)])],[(200197,⟨0,ET.B,q⟩),(200133,xP),(200132,zn),(200131,xW)],[(200197,.wr),(200133,.wr),(200132,.wr),(200131,.wr)]⟩
section
variable (hd:eP S) (k:Nat) (t:Tm) (Z:Out UU->Option S)
theorem YS (r1 r2): ∀n q v22,(mS hd k).lp Z 3 [] n (FH t r1 r2 q v22)=qQ hd k (aF Z) t r1 r2 n q v22:=aL (ye hd k (aF Z) t r1 r2)
end
theorem IK (o:Obj) (ho:ai o): ∀k:Nat,Tl o 34 (PL (dJ k:eP S))
 |0=>dz fun t Z x h=>by cases h
 |k+1=>ou (mS (dJ k) k) ⟨akS o ho,jh o ho (dJ k) (IK o ho k) k,trivial⟩ func34 fun t Z x h=>o0 (b:=IP (dJ k) k (aF Z) (fun r1 z q v22=>(mS (dJ k) k).lp Z 3 [] k (FH t r1 z q v22)) t) (by kernel_rfl) (o0 (by simp only [YS];rfl) h)
def aHL:Rw S:=aj EX fh fun c0 Z=>aa k (dG k c0) (kT c0 Z)
def IJ:Rw S:=aj EX fh fun c0 Z=>aa k (dG k c0) (F9 Z)
def CX:Fx S:=fp 8 [] [] k f82 1
theorem aFG (ho:ai o):Tl o 82 (aHL k:Rw S):=ou (CX k) trivial func82 fun c0 Z x h=>px h
theorem K0 (ho:ai o):Tl o 82 (IJ k:Rw S):=tlS (aFG k ho) fun c0 Z x h=>o0 (b:=aa k (dG k c0) (kT c0 (DB _ Z))) (by kernel_rfl) (o0 (congrArg (aa k (dG k c0)) (funext fun r=>if_pos rfl)) h)
def PM (hd:dq S):Rw S:=aj Ez xn fun t Z=>hd t (da Z)
def jB (hd:dq S) (k:Nat):Rw S:=aj Lh fh fun Dd p q c0 Z=>aa k (ug hd k Dd p q c0) (N7 Z)
def Wa (hd:dq S) (k:Nat):Fx S:=fp 12 [(150,PM hd)] [] k f197 1
theorem ke (o:Obj) (ho:ai o) (hd:dq S) (Hd:Tl o 150 (PM hd)) (k:Nat):Tl o 197 (jB hd k:Rw S):=ou (Wa hd k) ⟨Hd,trivial⟩ func197 fun Dd p q c0 Z x h=>px h
def Bc (hd:dq S) (k:Nat):Rw S:=aj adC fh fun t c0 Z=>aa k (DY hd k t c0) (N7 Z)
def SD (hd:dq S) (k:Nat):Fx S:=fp 60 [(126,Od k),(197,jB hd k)] [(2,aS [1,2,15,16,17] [(2,6),(1000000,1)],ap 4 5),(12,aS [1,9,40,41,42] [(1000000,1)],ap 7 47),(15,aS [1,9,40,41,42,47,48,49] [(1000000,1)],ap 15 13103)] k f58 1
def azA (t:Tm) (q ov:Int):St UU:=⟨[(1,(.func 197 [] [(pt 1000000)])),(2,(pt 2)),(15,(sT t.c)),(16,(iI t.c.length)),(17,(iI ov))],[(2,bT t),(1000000,bI q)],[],[]⟩
def tS (t:Tm) (qn ox q:Int):St UU:=⟨[(1,(.func 197 [] [(pt 1000000)])),(9,(iI q)),(40,(sB t.s)),(41,(iI t.s.length)),(42,(iI ox))],[(1000000,bI qn)],[],[]⟩
def aCd (t:Tm) (ox:Int) (x4:(Br Tm)) (q:Int) (qB qC:Int):St UU:=⟨[(1,(.func 197 [] [(pt 1000000)])),(9,(iI q)),(40,(sB t.s)),(41,(iI t.s.length)),(42,(iI ox)),(47,(sT x4.c)),(48,(iI x4.c.length)),(49,(iI qC))],[(1000000,bI qB)],[],[]⟩
section
variable (hd:dq S) (k:Nat) (t:Tm) (c0:Int) (Z:Out UU->Option S)
theorem aEm (ox x4 q Z1): ∀n qB qC,(SD hd k).lp Z 15 [Z1] n (aCd t ox x4 q qB qC)=n4 hd k (N7 Z) (fun qn ox q=>Z1 (tS t qn ox q)) t ox x4 q n qB qC:=aL (yj hd k (N7 Z) t ox x4 q (fun qn ox q=>Z1 (tS t qn ox q)))
theorem aEl: ∀n qn ox q,(SD hd k).lp Z 12 [] n (tS t qn ox q)=kM hd k (N7 Z) t n qn ox q:=EG (fun own=>tr hd k (N7 Z) t (fun ox x4 q qB qC=>n4 hd k (N7 Z) own t ox x4 q k qB qC) own) rfl (fun _=>rfl) fun r qn ox q=>o0 (b:=tr hd k (N7 Z) t (fun ox x4 q qB qC=>(SD hd k).lp Z 15 [r] k (aCd t ox x4 q qB qC)) (fun qn ox q=>r (tS t qn ox q)) qn ox q) (by kernel_rfl) (by simp only [aEm])
theorem aEk: ∀n x ov,(SD hd k).lp Z 2 [] n (azA t x ov)=iv hd k (N7 Z) t n x ov:=aL (fun own=>tq hd k (N7 Z) t (fun qn ox q=>kM hd k (N7 Z) t k qn ox q) own) rfl (fun _=>rfl) fun r x ov=>o0 (b:=tq hd k (N7 Z) t (fun qn ox q=>(SD hd k).lp Z 12 [] k (tS t qn ox q)) (fun x ov=>r (azA t x ov)) x ov) (by kernel_rfl) (by simp only [aEl])
end
theorem Eh (o:Obj) (ho:ai o) (hd:dq S) (Hd:Tl o 150 (PM hd)) (k:Nat):Tl o 58 (Bc hd k:Rw S):=ou (SD hd k) ⟨sr k ho,ke o ho hd Hd k,trivial⟩ func58 fun t c0 Z x h=>o0 (b:=IW hd k (N7 Z) (fun q ov=>(SD hd k).lp Z 2 [] k (azA t q ov)) t c0) (by kernel_rfl) (o0 (by simp only [aEk];rfl) (al h))
def CY (hd:dq S) (k:Nat):Fx S:=fp 8 [(58,Bc hd k)] [] k f150 0
theorem aBg (o:Obj) (ho:ai o): ∀k:Nat,Tl o 150 (PM (j6 k:dq S))
 |0=>dz fun t Z x h=>by cases h
 |k+1=>ou (CY (j6 k) k) ⟨Eh o ho (j6 k) (aBg o ho k) k,trivial⟩ func150 fun t Z x h=>o0 (by kernel_rfl) h
def GJ (hd:fK S):Rw S:=aj Ag xn fun t qm Z=>hd t qm (da Z)
def Wc (hd:fK S) (k:Nat):Fx S:=fp 68 [(126,Od k),(151,GJ hd)] [(1000003,aS [1,2] [(2,6)],ap 2 3),(5,aS [1,2,5,24,25,26] [(2,6)],ap 6 23),(11,aS [1,5,47,48,49] [],ap 7 47),(14,aS [1,5,47,48,49,54,55,56] [],ap 15 13103)] k f151 0
def aCe (t:Tm) (qm:Int):St UU:=⟨[(1,(iI qm)),(2,(pt 2))],[(2,bT t)],[],[]⟩
def azB (t:Tm) (qm:Int) (Fk q:Int):St UU:=⟨[(1,(iI qm)),(2,(pt 2)),(5,(iI q)),(24,(sT t.c)),(25,(iI t.c.length)),(26,(iI Fk))],[(2,bT t)],[],[]⟩
def iL (qm:Int) (t:Tm) (qC q:Int):St UU:=⟨[(1,(iI qm)),(5,(iI q)),(47,(sB t.s)),(48,(iI t.s.length)),(49,(iI qC))],[],[],[]⟩
def aCf (qm:Int) (t:Tm) (qC:Int) (x4:(Br Tm)) (q x:Int):St UU:=⟨[(1,(iI qm)),(5,(iI q)),(47,(sB t.s)),(48,(iI t.s.length)),(49,(iI qC)),(54,(sT x4.c)),(55,(iI x4.c.length)),(56,(iI x))],[],[],[]⟩
section
variable (hd:fK S) (k:Nat) (t:Tm) (qm:Int) (Z:Out UU->Option S)
theorem aEq (qC x4 Z2): ∀n x z,(Wc hd k).lp Z 14 [Z2] n (aCf qm t qC x4 x z)=nG hd k (da Z) (fun qC q=>Z2 (iL qm t qC q)) qm t qC x4 n x z:=aL (xh hd k (da Z) qm t qC x4 (fun qC q=>Z2 (iL qm t qC q)))
theorem aEp: ∀n qC q,(Wc hd k).lp Z 11 [] n (iL qm t qC q)=ku hd k (da Z) qm t n qC q:=aL (fun own=>sE hd k (da Z) qm t (fun qC x4 x z=>nG hd k (da Z) own qm t qC x4 k x z) own) rfl (fun _=>rfl) fun r qC q=>o0 (b:=sE hd k (da Z) qm t (fun qC x4 x z=>(Wc hd k).lp Z 14 [r] k (aCf qm t qC x4 x z)) (fun qC q=>r (iL qm t qC q)) qC q) (by kernel_rfl) (by simp only [aEq])
theorem aEo: ∀n Fk q,(Wc hd k).lp Z 5 [] n (azB t qm Fk q)=nF hd k (da Z) t qm n Fk q:=aL (fun own=>sD hd k (da Z) t qm (fun qC x=>ku hd k (da Z) qm t k qC x) own) rfl (fun _=>rfl) fun r Fk q=>o0 (b:=sD hd k (da Z) t qm (fun qC x=>(Wc hd k).lp Z 11 [] k (iL qm t qC x)) (fun Fk q=>r (azB t qm Fk q)) Fk q) (by kernel_rfl) (by simp only [aEp])
theorem aEn: ∀n,(Wc hd k).jn Z 1000003 [] n (aCe t qm)=Ak hd k (da Z) t qm n:=gL (xg hd k (da Z) t qm (fun Fk q=>nF hd k (da Z) t qm k Fk q)) rfl (fun _=>rfl) (o0 (b:=xg hd k (da Z) t qm (fun Fk q=>(Wc hd k).lp Z 5 [] k (azB t qm Fk q))) (by kernel_rfl) (by simp only [aEo]))
end
theorem aBh (o:Obj) (ho:ai o): ∀k:Nat,Tl o 151 (GJ (gz k:fK S))
 |0=>dz fun t qm Z x h=>by cases h
 |k+1=>ou (Wc (gz k) k) ⟨sr k ho,aBh o ho k,trivial⟩ func151 fun t qm Z x h=>o0 (b:=BU (gz k) k (da Z) ((Wc (gz k) k).jn Z 1000003 [] k (aCe t qm)) t qm) (by kernel_rfl) (o0 (by simp only [aEn];rfl) h)
def o1:Rw S:=aj adD xn fun l Z=>aa k (pi k l) (da Z)
def Wd:Fx S:=fp 15 [(123,jz k)] [(2,aS [5,6,7] [],ap 4 5)] k f201 0
def aCg (l:List (List Cl)) (q:Int):St UU:=⟨[(5,(Hm l .none)),(6,(iI l.length)),(7,(iI q))],[],[],[]⟩
section
variable (k:Nat) (l:List (List Cl)) (Z:Out UU->Option S)
theorem aEr: ∀n q,(Wd k).lp Z 2 [] n (aCg l q)=qi k (da Z) l n q:=cF (w9 k (da Z) l)
end
theorem pM (ho:ai o):Tl o 201 (o1 k:Rw S):=ou (Wd k) ⟨j_ k ho,trivial⟩ func201 fun l Z x h=>o0 (b:=HT k (da Z) (fun q=>(Wd k).lp Z 2 [] k (aCg l q)) l) (by kernel_rfl) (o0 (by simp only [aEr];rfl) (al h))
def GK:Rw S:=aj cn xn fun Z=>aa k (tK k) (ahY Z)
def CZ:Fx S:=fx 1 (fun _=>[]) (fun _=>false) [] [] k f186 false [true] 0
theorem Kp (ho:ai o):Tl o 186 (GK k:Rw S):=ou (CZ k) trivial func186 fun Z x h=>px h
def my:Rw S:=aj Mw xn fun i Z=>aa k (pn k i) (b_ Z)
def We:Fx S:=fp 9 [] [] k f230 0
theorem nq (ho:ai o):Tl o 230 (my k:Rw S):=ou (We k) trivial func230 fun i Z x h=>px h
def Bd:Rw S:=aj adE xn fun s ow qu Z=>aa k (lx k s ow qu) (AO Z)
def C0:Fx S:=fp 46 [(230,my k)] [] k f185 0
theorem Ei (ho:ai o):Tl o 185 (Bd k:Rw S):=ou (C0 k) ⟨nq k ho,trivial⟩ func185 fun s ow qu Z x h=>px h
def GL:Rw S:=aj Li xn fun c ow qu Z=>aa k (yD k c ow qu) (ahZ Z)
def Wf:Fx S:=fp 42 [(184,OM k),(185,Bd k)] [] k f133 0
theorem Kq (ho:ai o):Tl o 133 (GL k:Rw S):=ou (Wf k) ⟨aaY k ho,Ei k ho,trivial⟩ func133 fun c ow qu Z x h=>px h
def GM:Rw S:=aj Lj qE fun sU c c0 c1 Z=>aa k (DN k sU c c0 c1) (vA c0 c1 Z)
def Wg:Fx S:=fx 22 (fun _=>[]) (fun _=>false) [(133,GL k)] [] k f203 false [true,false] 2
theorem Kr (ho:ai o):Tl o 203 (GM k:Rw S):=ou (Wg k) ⟨Kq k ho,trivial⟩ func203 fun sU c c0 c1 Z x h=>px h
def PO:Rw S:=aj aGz qE fun l ow c0 c1 Z=>aa k (yT k l ow c0 c1) (N8 c0 c1 Z)
def Wi:Fx S:=fx 33 (fun|23=>[true,false]|_=>[]) (fun _=>false) [(203,GM k)] [(2,⟨[(1,ql 100001),(2,nM),(13,nM),(14,nM),(15,nM)],[(1000000,[nM]),(1000001,[nM])]⟩,ap 4 5)] k f202 false [] 2
def aCi (c0 c1:Int) (l:List Cl) (v1:List Cl) (q:Int):St UU:=⟨[(1,(.own 100001 0)),(2,(.func 203 [] [(pt 1000000),(pt 1000001)])),(13,(sC l)),(14,(iI l.length)),(15,(iI q))],[(1000000,bI c0),(1000001,bI c1)],[(100001,⟨0,ET.C,v1⟩)],[(100001,.wr)]⟩
section
variable (k:Nat) (l ow:List Cl) (c0 c1:Int) (Z:Out UU->Option S)
theorem aEv: ∀n v1 q,(Wi k).lp Z 2 [] n (aCi c0 c1 l v1 q)=qf k (N8 c0 c1 Z) c0 c1 l n v1 q:=aL (l1 k (N8 c0 c1 Z) c0 c1 l)
end
theorem ab0 (ho:ai o):Tl o 202 (PO k:Rw S):=ou (Wi k) ⟨Kr k ho,trivial⟩ func202 fun l ow c0 c1 Z x h=>o0 (b:=HQ k (N8 c0 c1 Z) (fun v1 q=>(Wi k).lp Z 2 [] k (aCi c0 c1 l v1 q)) l ow c0 c1) (by kernel_rfl) (o0 (by simp only [aEv];rfl) (al h))
def PP:Rw S:=aj adG xn fun f ow qu Z=>aa k (jV k f ow qu) (ua Z)
def Wj:Fx S:=fx 31 (fun|21=>[false,true,false]|_=>[]) (fun _=>false) [(172,Pp k),(186,GK k),(201,o1 k),(202,PO k)] [] k f160 false [] 0
theorem jq (ho:ai o):Tl o 160 (PP k:Rw S):=ou (Wj k) ⟨M5 k ho,Kp k ho,pM k ho,ab0 k ho,trivial⟩ func160 fun f ow qu Z x h=>px h
def PQ:Rw S:=aj EY xn fun l_0 l_1 f ow Z=>aa k (tN k l_0 l_1 f ow) (ah0 Z)
def Wl:Fx S:=fp 31 [(160,PP k)] [] k f196 0
theorem ab2 (ho:ai o):Tl o 196 (PQ k:Rw S):=ou (Wl k) ⟨jq k ho,trivial⟩ func196 fun l_0 l_1 f ow Z x h=>px h
def PR (hd:fJ S):Rw S:=aj adH xn fun l_0 l_1 t v d Z=>hd l_0 l_1 t v d (AP Z)
def C1 (hd:fJ S) (k:Nat):Fx S:=fp 128 [(126,Od k),(148,PR hd),(196,PQ k)] [(1000006,⟨[(2,nM),(3,nM),(4,nM),(5,nM),(8,nM),(9,nM)],[(4,[nM,nM]),(5,[nM,nM,nM,nM,nM,nM]),(8,[nM,nM,nM,ql 200515,ql 200516,ql 200517]),(9,[nM,nM,nM,nM,ql 200580,ql 200581])]⟩,ap 3 7),(7,⟨[(2,nM),(3,nM),(4,nM),(5,nM),(8,nM),(9,nM),(55,nM),(56,nM),(57,nM)],[(4,[nM,nM]),(5,[nM,nM,nM,nM,nM,nM]),(8,[nM,nM,nM,ql 200515,ql 200516,ql 200517]),(9,[nM,nM,nM,nM,ql 200580,ql 200581])]⟩,ap 6 23),(16,⟨[(2,nM),(3,nM),(4,nM),(8,nM),(9,nM),(14,nM),(88,nM),(89,nM),(90,nM)],[(4,[nM,nM]),(8,[nM,nM,nM,ql 200515,ql 200516,ql 200517]),(9,[nM,nM,nM,nM,ql 200580,ql 200581])]⟩,ap 9 191),(20,⟨[(2,nM),(3,nM),(4,nM),(8,nM),(9,nM),(14,nM),(17,nM),(88,nM),(89,nM),(90,nM),(101,nM),(102,nM),(103,nM)],[(4,[nM,nM]),(8,[nM,nM,nM,ql 200515,ql 200516,ql 200517]),(9,[nM,nM,nM,nM,ql 200580,ql 200581]),(17,[nM,ql 201089])]⟩,ap 19 183487)] k f148 0
def Ng (l_0 l_1:Int) (t:Tm) (r2:List Cl) (v d:Int) (q:Int):St UU:=⟨[(2,(iI v)),(3,(iI d)),(4,(pt 4)),(5,(pt 5)),(8,(pt 8)),(9,(pt 9))],[(4,.cells [(iI l_0),(iI l_1)]),(5,bT t),(8,.cells [(iI 0),(iI 0),zw,(.own 200515 0),(.own 200516 0),(.own 200517 0)]),(9,.cells [(iI t.k),(iI q),(.str t.name),(sC r2),(.own 200580 0),(.own 200581 0)])],[(200581,xP),(200580,zn),(200517,xP),(200516,zn),(200515,xW)],[(200581,.wr),(200580,.wr),(200517,.wr),(200516,.wr),(200515,.wr)]⟩
def azD (l_0 l_1:Int) (t:Tm) (x:Int) (r2:List Cl) (v d:Int) (q:List Tm) (z:Int):St UU:=⟨[(2,(iI v)),(3,(iI d)),(4,(pt 4)),(5,(pt 5)),(8,(pt 8)),(9,(pt 9)),(55,(sT t.c)),(56,(iI t.c.length)),(57,(iI z))],[(4,.cells [(iI l_0),(iI l_1)]),(5,bT t),(8,.cells [(iI 0),(iI 0),zw,(.own 200515 0),(.own 200516 0),(.own 200517 0)]),(9,.cells [(iI t.k),(iI x),(.str t.name),(sC r2),(.own 200580 0),(.own 200581 0)])],[(200581,xP),(200580,⟨0,ET.T,q⟩),(200517,xP),(200516,zn),(200515,xW)],[(200581,.wr),(200580,.wr),(200517,.wr),(200516,.wr),(200515,.wr)]⟩
def F' (l_0 l_1:Int) (t:Tm) (A:Int) (r2:List Cl) (x:List Tm) (v d:Int) (z:List (Br Tm)) (q xk:Int):St UU:=⟨[(2,(iI v)),(3,(iI d)),(4,(pt 4)),(8,(pt 8)),(9,(pt 9)),(14,(iI q)),(88,(sB t.s)),(89,(iI t.s.length)),(90,(iI xk))],[(4,.cells [(iI l_0),(iI l_1)]),(8,.cells [(iI 0),(iI 0),zw,(.own 200515 0),(.own 200516 0),(.own 200517 0)]),(9,.cells [(iI t.k),(iI A),(.str t.name),(sC r2),(.own 200580 0),(.own 200581 0)])],[(200581,⟨0,ET.B,z⟩),(200580,⟨0,ET.T,x⟩),(200517,xP),(200516,zn),(200515,xW)],[(200581,.wr),(200580,.wr),(200517,.wr),(200516,.wr),(200515,.wr)]⟩
def aCj (tf:List Cl) (l_0 l_1:Int) (t:Tm) (I:Int) (r2:List Cl) (z:List Tm) (A:List (Br Tm)) (E:(Br Tm)) (q v d xk:Int) (x:List Tm) (F:Int):St UU:=⟨[(2,(iI v)),(3,(iI d)),(4,(pt 4)),(8,(pt 8)),(9,(pt 9)),(14,(iI q)),(17,(pt 17)),(88,(sB t.s)),(89,(iI t.s.length)),(90,(iI xk)),(101,(sT E.c)),(102,(iI E.c.length)),(103,(iI F))],[(4,.cells [(iI l_0),(iI l_1)]),(8,.cells [(iI 0),(iI 0),zw,(.own 200515 0),(.own 200516 0),(.own 200517 0)]),(9,.cells [(iI t.k),(iI I),(.str t.name),(sC r2),(.own 200580 0),(.own 200581 0)]),(17,.cells [(sC tf),(.own 201089 0)])],[(201089,⟨0,ET.T,x⟩),(200581,⟨0,ET.B,A⟩),(200580,⟨0,ET.T,z⟩),(200517,xP),(200516,zn),(200515,xW)],[(201089,.wr),(200581,.wr),(200580,.wr),(200517,.wr),(200516,.wr),(200515,.wr)]⟩
section
variable (hd:fJ S) (k:Nat) (l_0 l_1:Int) (t:Tm) (v d:Int) (Z:Out UU->Option S)
theorem aEy (tf A r2 z x F q xk Z2): ∀n B E,(C1 hd k).lp Z 20 [Z2] n (aCj tf l_0 l_1 t A r2 z x F q v d xk B E)=l7 hd k (AP Z) (fun x q xk=>Z2 (F' l_0 l_1 t A r2 z v d x q xk)) tf l_0 l_1 t A r2 z x F q v d xk n B E:=aL (xe hd k (AP Z) tf l_0 l_1 t A r2 z x F q v d xk (fun x q xk=>Z2 (F' l_0 l_1 t A r2 z v d x q xk)))
theorem aEx (A r2 z): ∀n x q xk,(C1 hd k).lp Z 16 [] n (F' l_0 l_1 t A r2 z v d x q xk)=Mv hd k (AP Z) l_0 l_1 t A r2 z v d n x q xk:=EG (fun own=>sA hd k (AP Z) l_0 l_1 t A r2 z v d (fun F x I q xk B E=>l7 hd k (AP Z) own F l_0 l_1 t A r2 z x I q v d xk k B E) own) rfl (fun _=>rfl) fun r x q xk=>o0 (b:=sA hd k (AP Z) l_0 l_1 t A r2 z v d (fun F x I q xk B E=>(C1 hd k).lp Z 20 [r] k (aCj F l_0 l_1 t A r2 z x I q v d xk B E)) (fun x q xk=>r (F' l_0 l_1 t A r2 z v d x q xk)) x q xk) (by kernel_rfl) (by simp only [aEy])
theorem aEw (z r2): ∀n q A,(C1 hd k).lp Z 7 [] n (azD l_0 l_1 t z r2 v d q A)=Nc hd k (AP Z) l_0 l_1 t z r2 v d n q A:=aL (fun own=>sz hd k (AP Z) l_0 l_1 t z r2 v d (fun q B x E=>Mv hd k (AP Z) l_0 l_1 t z r2 q v d k B x E) own) rfl (fun _=>rfl) fun r q A=>o0 (b:=sz hd k (AP Z) l_0 l_1 t z r2 v d (fun q B x E=>(C1 hd k).lp Z 16 [] k (F' l_0 l_1 t z r2 q v d B x E)) (fun q A=>r (azD l_0 l_1 t z r2 v d q A)) q A) (by kernel_rfl) (by simp only [aEx])
theorem YZ (r2): ∀n q,(C1 hd k).jn Z 1000006 [] n (Ng l_0 l_1 t r2 v d q)=uJ hd k (AP Z) l_0 l_1 t r2 v d n q:=jn1 (Da hd k (AP Z) l_0 l_1 t r2 v d (fun q x z=>Nc hd k (AP Z) l_0 l_1 t q r2 v d k x z)) rfl (fun _=>rfl) (fun q=>o0 (b:=Da hd k (AP Z) l_0 l_1 t r2 v d (fun q x z=>(C1 hd k).lp Z 7 [] k (azD l_0 l_1 t q r2 v d x z)) q) (by kernel_rfl) (by simp only [aEw]))
end
theorem u3 (o:Obj) (ho:ai o): ∀k:Nat,Tl o 148 (PR (dk k:fJ S))
 |0=>dz fun l_0 l_1 t v d Z x h=>by cases h
 |k+1=>ou (C1 (dk k) k) ⟨sr k ho,u3 o ho k,ab2 k ho,trivial⟩ func148 fun l_0 l_1 t v d Z x h=>o0 (b:=HY (dk k) k (AP Z) (fun z q=>(C1 (dk k) k).jn Z 1000006 [] k (Ng l_0 l_1 t z v d q)) l_0 l_1 t v d) (by kernel_rfl) (o0 (by simp only [YZ];rfl) h)
def aC2:Rw S:=aj adI aDy fun c0 c1 c2 Z=>aa k (yW k c0 c1 c2) (ah1 c0 c1 c2 Z)
def Wm:Fx S:=fp 11 [(148,PR (dk k))] [] k f155 3
theorem pN (ho:ai o):Tl o 155 (aC2 k:Rw S):=ou (Wm k) ⟨u3 o ho k,trivial⟩ func155 fun c0 c1 c2 Z x h=>px h
def PS:Rw S:=aj aGA aDy fun t numbers c0 c1 c2 Z=>aa k (y7 k t numbers c0 c1 c2) (ah c0 c1 c2 Z)
def Wn:Fx S:=⟨⟨30,(fun _=>[]),(fun _=>false),nM,fun|6=>true|7=>true|_=>false⟩,[(14,PK k),(155,aC2 k)],[(5,⟨[(2,nM),(6,nM),(7,nM),(17,nM),(18,nM),(19,nM)],[(1000000,[nM]),(1000001,[nM]),(1000002,[nM,nM,nM,nM,nM,nM]),(5000006,[nM,nM,nM,ql 320200387,ql 320200388,ql 320200389]),(5000007,[nM])]⟩,ap 5 11)],k,f146,false,[],3,some (o9 16 195 f195 k)⟩
def aCk (c0 c1:Int) (c2:Tm) (numbers:List Int) (q:Int):St UU:=⟨[(2,(.func 155 [] [(pt 1000000),(pt 1000001),(pt 1000002)])),(6,(pt 5000006)),(7,(pt 5000007)),(17,(la numbers .none)),(18,(iI numbers.length)),(19,(iI q))],[(1000000,bI c0),(1000001,bI c1),(1000002,bT c2),(5000006,.cells [(iI 0),(iI 0),zw,(.own 320200387 0),(.own 320200388 0),(.own 320200389 0)]),(5000007,bI 0)],[(320200389,xP),(320200388,zn),(320200387,xW)],[(320200389,.wr),(320200388,.wr),(320200387,.wr)]⟩
section
variable (k:Nat) (t:Tm) (numbers:List Int) (c0 c1:Int) (c2:Tm) (Z:Out UU->Option S)
theorem aEz: ∀n q,(Wn k).lp Z 5 [] n (aCk c0 c1 c2 numbers q)=nE k (ah c0 c1 c2 Z) c0 c1 c2 numbers n q:=cF (xd k (ah c0 c1 c2 Z) c0 c1 c2 numbers)
end
theorem ab4 (ho:ai o):Tl o 146 (PS k:Rw S):=BZ (Wn k) rfl (yn o func195 (by kernel_rfl)) ⟨FK k ho,pN k ho,trivial⟩ func146 (by kernel_rfl) fun t numbers c0 c1 c2 Z x h=>o0 (b:=BS k (ah c0 c1 c2 Z) (fun q=>(Wn k).lp Z 5 [] k (aCk c0 c1 c2 numbers q)) t numbers c0 c1 c2) (by kernel_rfl) (o0 (by simp only [aEz];rfl) (al h))
def vO:Rw S:=aj n1 xn fun t vars nP Z=>aa k (lu k t vars nP) (BC Z)
def jQ:Fx S:=fp 18 [(146,PS k)] [] k f87 0
theorem ad (ho:ai o):Tl o 87 (vO k:Rw S):=ou (jQ k) ⟨ab4 k ho,trivial⟩ func87 fun t vars nP Z x h=>px h
def PT:Rw S:=aj Ez xn fun t Z=>aa k (ze k t) (da Z)
def Wo:Fx S:=fp 6 [] [] k f198 0
theorem ab5 (ho:ai o):Tl o 198 (PT k:Rw S):=ou (Wo k) trivial func198 fun t Z x h=>px h
def PW (hd:gX S):Rw S:=aj adJ xn fun t qm u vars nP Z=>hd t qm u vars nP (AP Z)
def C2 (hd:gX S) (k:Nat):Fx S:=fp 137 [(87,vO k),(126,Od k),(153,PW hd),(198,PT k)] [(12,⟨[(1,nM),(3,nM),(4,nM),(5,nM),(7,nM),(10,nM),(13,nM),(66,nM),(67,nM),(68,nM)],[(5,[nM,nM,nM,nM,nM,nM]),(7,[nM,nM,nM,nM,nM,nM]),(10,[nM,nM,nM,ql 200643,ql 200644,ql 200645]),(13,[nM,nM,nM,ql 200835,ql 200836,ql 200837])]⟩,ap 6 23),(18,⟨[(1,nM),(3,nM),(4,nM),(5,nM),(7,nM),(10,nM),(13,nM),(97,nM),(98,nM),(99,nM)],[(5,[nM,nM,nM,nM,nM,nM]),(7,[nM,nM,nM,nM,nM,nM]),(10,[nM,nM,nM,ql 200643,ql 200644,ql 200645]),(13,[nM,nM,nM,ql 200835,ql 200836,ql 200837])]⟩,ap 7 47),(22,⟨[(1,nM),(3,nM),(4,nM),(5,nM),(7,nM),(10,nM),(13,nM),(20,nM),(97,nM),(98,nM),(99,nM),(108,nM),(109,nM),(110,nM)],[(5,[nM,nM,nM,nM,nM,nM]),(7,[nM,nM,nM,nM,nM,nM]),(10,[nM,nM,nM,ql 200643,ql 200644,ql 200645]),(13,[nM,nM,nM,ql 200835,ql 200836,ql 200837]),(20,[ql 201280,ql 201281])]⟩,ap 17 45871)] k f153 0
def Nj (t u:Tm) (qm vars nP:Int) (q:List Tm) (Hg:Int):St UU:=⟨[(1,(iI qm)),(3,(iI vars)),(4,(iI nP)),(5,(pt 5)),(7,(pt 7)),(10,(pt 10)),(13,(pt 13)),(66,(sT t.c)),(67,(iI t.c.length)),(68,(iI Hg))],[(5,bT t),(7,bT u),(10,.cells [(iI 0),(iI 0),zw,(.own 200643 0),(.own 200644 0),(.own 200645 0)]),(13,.cells [(iI t.k),(iI 0),(.str t.name),(.own 200835 0),(.own 200836 0),(.own 200837 0)])],[(200837,xP),(200836,⟨0,ET.T,q⟩),(200835,⟨0,ET.C,t.r⟩),(200645,xP),(200644,zn),(200643,xW)],[(200837,.wr),(200836,.wr),(200835,.wr),(200645,.wr),(200644,.wr),(200643,.wr)]⟩
def p5 (t:Tm) (q:List Tm) (u:Tm) (qm vars nP:Int) (x:List (Br Tm)) (z:Int):St UU:=⟨[(1,(iI qm)),(3,(iI vars)),(4,(iI nP)),(5,(pt 5)),(7,(pt 7)),(10,(pt 10)),(13,(pt 13)),(97,(sB t.s)),(98,(iI t.s.length)),(99,(iI z))],[(5,bT t),(7,bT u),(10,.cells [(iI 0),(iI 0),zw,(.own 200643 0),(.own 200644 0),(.own 200645 0)]),(13,.cells [(iI t.k),(iI 0),(.str t.name),(.own 200835 0),(.own 200836 0),(.own 200837 0)])],[(200837,⟨0,ET.B,x⟩),(200836,⟨0,ET.T,q⟩),(200835,⟨0,ET.C,t.r⟩),(200645,xP),(200644,zn),(200643,xW)],[(200837,.wr),(200836,.wr),(200835,.wr),(200645,.wr),(200644,.wr),(200643,.wr)]⟩
def aCl (t:Tm) (q:List Tm) (x:List (Br Tm)) (E:(Br Tm)) (u:Tm) (qm vars nP F:Int) (z:List Tm) (A:Int):St UU:=⟨[(1,(iI qm)),(3,(iI vars)),(4,(iI nP)),(5,(pt 5)),(7,(pt 7)),(10,(pt 10)),(13,(pt 13)),(20,(pt 20)),(97,(sB t.s)),(98,(iI t.s.length)),(99,(iI F)),(108,(sT E.c)),(109,(iI E.c.length)),(110,(iI A))],[(5,bT t),(7,bT u),(10,.cells [(iI 0),(iI 0),zw,(.own 200643 0),(.own 200644 0),(.own 200645 0)]),(13,.cells [(iI t.k),(iI 0),(.str t.name),(.own 200835 0),(.own 200836 0),(.own 200837 0)]),(20,.cells [(.own 201280 0),(.own 201281 0)])],[(201281,⟨0,ET.T,z⟩),(201280,⟨0,ET.C,E.f⟩),(200837,⟨0,ET.B,x⟩),(200836,⟨0,ET.T,q⟩),(200835,⟨0,ET.C,t.r⟩),(200645,xP),(200644,zn),(200643,xW)],[(201281,.wr),(201280,.wr),(200837,.wr),(200836,.wr),(200835,.wr),(200645,.wr),(200644,.wr),(200643,.wr)]⟩
section
variable (hd:gX S) (k:Nat) (t:Tm) (qm:Int) (u:Tm) (vars nP:Int) (Z:Out UU->Option S)
theorem aEB (x q E z Z1): ∀n A B,(C2 hd k).lp Z 22 [Z1] n (aCl t x q E u qm vars nP z A B)=Sv hd k (AP Z) (fun q z=>Z1 (p5 t x u qm vars nP q z)) t x q E u qm vars nP z n A B:=aL (xj hd k (AP Z) t x q E u qm vars nP z (fun q z=>Z1 (p5 t x u qm vars nP q z)))
theorem aEA (x): ∀n q z,(C2 hd k).lp Z 18 [] n (p5 t x u qm vars nP q z)=kw hd k (AP Z) t x u qm vars nP n q z:=aL (fun own=>fg hd k (AP Z) t x u qm vars nP (fun q E z A B=>Sv hd k (AP Z) own t x q E u qm vars nP z k A B) own) rfl (fun _=>rfl) fun r q z=>o0 (b:=fg hd k (AP Z) t x u qm vars nP (fun q E z A B=>(C2 hd k).lp Z 22 [r] k (aCl t x q E u qm vars nP z A B)) (fun q z=>r (p5 t x u qm vars nP q z)) q z) (by kernel_rfl) (by simp only [aEB])
theorem Y4: ∀n q Hg,(C2 hd k).lp Z 12 [] n (Nj t u qm vars nP q Hg)=qj hd k (AP Z) t u qm vars nP n q Hg:=aL (fun own=>qU hd k (AP Z) t u qm vars nP (fun q x z=>kw hd k (AP Z) t q u qm vars nP k x z) own) rfl (fun _=>rfl) fun r q Hg=>o0 (b:=qU hd k (AP Z) t u qm vars nP (fun q x z=>(C2 hd k).lp Z 18 [] k (p5 t q u qm vars nP x z)) (fun q Hg=>r (Nj t u qm vars nP q Hg)) q Hg) (by kernel_rfl) (by simp only [aEA])
end
theorem aBj (o:Obj) (ho:ai o): ∀k:Nat,Tl o 153 (PW (gA k:gX S))
 |0=>dz fun t qm u vars nP Z x h=>by cases h
 |k+1=>ou (C2 (gA k) k) ⟨ad k ho,sr k ho,aBj o ho k,ab5 k ho,trivial⟩ func153 fun t qm u vars nP Z x h=>o0 (b:=H2 (gA k) k (AP Z) (fun q Hg=>(C2 (gA k) k).lp Z 12 [] k (Nj t u qm vars nP q Hg)) t qm u vars nP) (by kernel_rfl) (o0 (by simp only [Y4];rfl) h)
def Be (hd:dp S):Rw S:=aj Ez xn fun t Z=>hd t (da Z)
def PY (hd:dp S) (k:Nat):Rw S:=aj Lh fh fun Dd p q c0 Z=>aa k (e6 hd k Dd p q c0) (N7 Z)
def Wq (hd:dp S) (k:Nat):Fx S:=fp 12 [(154,Be hd)] [] k f199 1
theorem ab8 (o:Obj) (ho:ai o) (hd:dp S) (Hd:Tl o 154 (Be hd)) (k:Nat):Tl o 199 (PY hd k:Rw S):=ou (Wq hd k) ⟨Hd,trivial⟩ func199 fun Dd p q c0 Z x h=>px h
def aC3 (hd:dp S) (k:Nat):Rw S:=aj E0 fh fun t c0 Z=>aa k (DZ hd k t c0) (N7 Z)
def Wr (hd:dp S) (k:Nat):Fx S:=fp 60 [(126,Od k),(199,PY hd k)] [(2,aS [1,2,15,16,17] [(2,6),(1000000,1)],ap 4 5),(12,aS [1,9,40,41,42] [(1000000,1)],ap 7 47),(15,aS [1,9,40,41,42,47,48,49] [(1000000,1)],ap 15 13103)] k f58 1
def azF (t:Tm) (q ov:Int):St UU:=⟨[(1,(.func 199 [] [(pt 1000000)])),(2,(pt 2)),(15,(sT t.c)),(16,(iI t.c.length)),(17,(iI ov))],[(2,bT t),(1000000,bI q)],[],[]⟩
def fR (t:Tm) (qn ox q:Int):St UU:=⟨[(1,(.func 199 [] [(pt 1000000)])),(9,(iI q)),(40,(sB t.s)),(41,(iI t.s.length)),(42,(iI ox))],[(1000000,bI qn)],[],[]⟩
def aCn (t:Tm) (ox:Int) (x4:(Br Tm)) (q:Int) (qB qC:Int):St UU:=⟨[(1,(.func 199 [] [(pt 1000000)])),(9,(iI q)),(40,(sB t.s)),(41,(iI t.s.length)),(42,(iI ox)),(47,(sT x4.c)),(48,(iI x4.c.length)),(49,(iI qC))],[(1000000,bI qB)],[],[]⟩
section
variable (hd:dp S) (k:Nat) (t:Tm) (c0:Int) (Z:Out UU->Option S)
theorem aEH (ox x4 q Z1): ∀n qB qC,(Wr hd k).lp Z 15 [Z1] n (aCn t ox x4 q qB qC)=n5 hd k (N7 Z) (fun qn ox q=>Z1 (fR t qn ox q)) t ox x4 q n qB qC:=aL (yk hd k (N7 Z) t ox x4 q (fun qn ox q=>Z1 (fR t qn ox q)))
theorem aEG: ∀n qn ox q,(Wr hd k).lp Z 12 [] n (fR t qn ox q)=kN hd k (N7 Z) t n qn ox q:=EG (fun own=>tu hd k (N7 Z) t (fun ox x4 q qB qC=>n5 hd k (N7 Z) own t ox x4 q k qB qC) own) rfl (fun _=>rfl) fun r qn ox q=>o0 (b:=tu hd k (N7 Z) t (fun ox x4 q qB qC=>(Wr hd k).lp Z 15 [r] k (aCn t ox x4 q qB qC)) (fun qn ox q=>r (fR t qn ox q)) qn ox q) (by kernel_rfl) (by simp only [aEH])
theorem aEF: ∀n x ov,(Wr hd k).lp Z 2 [] n (azF t x ov)=mc hd k (N7 Z) t n x ov:=aL (fun own=>gw hd k (N7 Z) t (fun qn ox q=>kN hd k (N7 Z) t k qn ox q) own) rfl (fun _=>rfl) fun r x ov=>o0 (b:=gw hd k (N7 Z) t (fun qn ox q=>(Wr hd k).lp Z 12 [] k (fR t qn ox q)) (fun x ov=>r (azF t x ov)) x ov) (by kernel_rfl) (by simp only [aEG])
end
theorem Ks (o:Obj) (ho:ai o) (hd:dp S) (Hd:Tl o 154 (Be hd)) (k:Nat):Tl o 58 (aC3 hd k:Rw S):=ou (Wr hd k) ⟨sr k ho,ab8 o ho hd Hd k,trivial⟩ func58 fun t c0 Z x h=>o0 (b:=IX hd k (N7 Z) (fun q ov=>(Wr hd k).lp Z 2 [] k (azF t q ov)) t c0) (by kernel_rfl) (o0 (by simp only [aEF];rfl) (al h))
def Wp (hd:dp S) (k:Nat):Fx S:=fp 9 [(58,aC3 hd k)] [] k f154 0
theorem aBk (o:Obj) (ho:ai o): ∀k:Nat,Tl o 154 (Be (j5 k:dp S))
 |0=>dz fun t Z x h=>by cases h
 |k+1=>ou (Wp (j5 k) k) ⟨Ks o ho (j5 k) (aBk o ho k) k,trivial⟩ func154 fun t Z x h=>o0 (by kernel_rfl) h
def PZ:Rw S:=aj Ai xn fun t qm u Z=>aa k (zd k t qm u) (BC Z)
def Ws:Fx S:=⟨⟨49,(fun _=>[]),(fun _=>false),nM,fun|6=>true|7=>true|_=>false⟩,[(14,PK k),(150,PM (j6 k)),(151,GJ (gz k)),(153,PW (gA k)),(154,Be (j5 k))],[],k,f86,false,[],0,some (o9 16 152 f152 k)⟩
theorem ab9 (ho:ai o):Tl o 86 (PZ k:Rw S):=BZ (Ws k) rfl (yn o func152 (by kernel_rfl)) ⟨FK k ho,aBg o ho k,aBh o ho k,aBj o ho k,aBk o ho k,trivial⟩ func86 (by kernel_rfl) fun t qm u Z x h=>px h
def P0:Rw S:=aj h3 fh fun t xw c0 Z=>aa k (HM k t xw c0) (AQ Z)
def Wt:Fx S:=fp 23 [] [] k f81 1
theorem Lx (ho:ai o):Tl o 81 (P0 k:Rw S):=ou (Wt k) trivial func81 fun t xw c0 Z x h=>px h
def P1:Rw S:=aj je fh fun t u c0 Z=>aa k (za k t u c0) (AQ Z)
def C3:Fx S:=fp 18 [(81,P0 k),(82,IJ k),(86,PZ k)] [] k f38 1
theorem s6 (ho:ai o):Tl o 38 (P1 k:Rw S):=ou (C3 k) ⟨Lx k ho,K0 k ho,ab9 k ho,trivial⟩ func38 fun t u c0 Z x h=>px h
def Bf:Rw S:=aj adL xn fun b Z=>aa k (cW k b) (F9 Z)
def Wu:Fx S:=fp 15 [] [] k f193 0
theorem Ek (ho:ai o):Tl o 193 (Bf k:Rw S):=ou (Wu k) trivial func193 fun b Z x h=>px h
def vP:Rw S:=aj E1 xn fun s Z=>aa k (cP k s) (da Z)
def Wv:Fx S:=fp 19 [(193,Bf k)] [(2,aS [0,1,7,8] [],ap 4 5)] k f192 0
def aCo (s:List (Br Tm)) (q:Int):St UU:=⟨[(0,(sB s)),(1,(.func 193 [] [])),(7,(iI s.length)),(8,(iI q))],[],[],[]⟩
section
variable (k:Nat) (s:List (Br Tm)) (Z:Out UU->Option S)
theorem aEI: ∀n q,(Wv k).lp Z 2 [] n (aCo s q)=fk k (da Z) s n q:=cF (cm k (da Z) s)
end
theorem zO (ho:ai o):Tl o 192 (vP k:Rw S):=ou (Wv k) ⟨Ek k ho,trivial⟩ func192 fun s Z x h=>o0 (b:=aAn k (da Z) (fun q=>(Wv k).lp Z 2 [] k (aCo s q)) s) (by kernel_rfl) (o0 (by simp only [aEI];rfl) (al h))
def P2:Rw S:=aj Lk xn fun l Z=>aa k (cS k l) (da Z)
def Ww:Fx S:=fp 5 [(192,vP k)] [] k f137 0
theorem acb (ho:ai o):Tl o 137 (P2 k:Rw S):=ou (Ww k) ⟨zO k ho,trivial⟩ func137 fun l Z x h=>px h
def Bg:Rw S:=aj cn xn fun Z=>aa k (Nu k) (cM Z)
def Wx:Fx S:=fp 3 [] [] k f130 0
theorem Em (ho:ai o):Tl o 130 (Bg k:Rw S):=ou (Wx k) trivial func130 fun Z x h=>px h
def P3:Rw S:=aj lS xn fun s i Z=>aa k (i_ k s i) (b_ Z)
def Wy:Fx S:=fp 16 [(238,PE k)] [] k f242 0
theorem hI (ho:ai o):Tl o 242 (P3 k:Rw S):=ou (Wy k) ⟨hy k ho,trivial⟩ func242 fun s i Z x h=>px h
def P4:Rw S:=aj uG xn fun sO Z=>aa k (JH k sO) (da Z)
def Wz:Fx S:=fp 21 [] [] k f263 0
theorem ace (ho:ai o):Tl o 263 (P4 k:Rw S):=ou (Wz k) trivial func263 fun sO Z x h=>px h
def P5:Rw S:=aj uG xn fun s Z=>aa k (lw k s) (da Z)
def WA:Fx S:=fp 6 [(263,P4 k)] [] k f241 0
theorem acf (ho:ai o):Tl o 241 (P5 k:Rw S):=ou (WA k) ⟨ace k ho,trivial⟩ func241 fun s Z x h=>px h
def P6:Rw S:=aj Mw xn fun i Z=>aa k (yE k i) (F9 Z)
def aDC:Fx S:=fp 7 [(241,P5 k),(242,P3 k)] [] k f216 0
theorem acg (ho:ai o):Tl o 216 (P6 k:Rw S):=ou (aDC k) ⟨acf k ho,hI k ho,trivial⟩ func216 fun i Z x h=>px h
def P7:Rw S:=aj aBu xn fun t i qT Z=>aa k (DM k t i qT) (da Z)
def WC:Fx S:=fp 21 [(14,PK k),(123,jz k),(216,P6 k)] [] k f179 0
theorem ach (ho:ai o):Tl o 179 (P7 k:Rw S):=ou (WC k) ⟨FK k ho,j_ k ho,acg k ho,trivial⟩ func179 fun t i qT Z x h=>px h
def vQ:Rw S:=aj adM gG fun c0 c1 Z=>aa k (DG k c0 c1) (gR c0 c1 Z)
def WD:Fx S:=fp 6 [] [] k f217 2
theorem zP (ho:ai o):Tl o 217 (vQ k:Rw S):=ou (WD k) trivial func217 fun c0 c1 Z x h=>px h
def GO:Rw S:=aj adO gG fun c0 c1 Z=>aa k (DH k c0 c1) (ah3 c0 c1 Z)
def WE:Fx S:=fp 6 [] [] k f217 2
theorem Kt (ho:ai o):Tl o 217 (GO k:Rw S):=ou (WE k) trivial func217 fun c0 c1 Z x h=>px h
def P8:Rw S:=aj adP xn fun i qT Z=>aa k (DF k i qT) (N9 Z)
def WF:Fx S:=fp 12 [(217,ol (uy adM gG) (vQ k) (GO k))] [] k f180 0
theorem aci (ho:ai o):Tl o 180 (P8 k:Rw S):=ou (WF k) ⟨vw (zP k ho) (Kt k ho),trivial⟩ func180 fun i qT Z x h=>px h
def GP:Rw S:=aj lS xn fun s i Z=>aa k (Mk k s i) (F9 Z)
def WG:Fx S:=fp 15 [(238,PE k)] [] k f219 0
theorem Ku (ho:ai o):Tl o 219 (GP k:Rw S):=ou (WG k) ⟨hy k ho,trivial⟩ func219 fun s i Z x h=>px h
def P9:Rw S:=aj eo xn fun f Z=>aa k (tD k f) (cM Z)
def C4:Fx S:=fp 5 [] [] k f220 0
theorem acj (ho:ai o):Tl o 220 (P9 k:Rw S):=ou (C4 k) trivial func220 fun f Z x h=>px h
def GQ:Rw S:=aj Mw xn fun i Z=>aa k (yK k i) (F9 Z)
def WH:Fx S:=fp 7 [(241,P5 k),(242,P3 k)] [] k f233 0
theorem Kv (ho:ai o):Tl o 233 (GQ k:Rw S):=ou (WH k) ⟨acf k ho,hI k ho,trivial⟩ func233 fun i Z x h=>px h
def P_:Rw S:=aj ny xn fun c Z=>aa k (tJ k c) (N_ Z)
def WJ:Fx S:=fp 8 [(175,Bb k)] [] k f190 0
theorem ack (ho:ai o):Tl o 190 (P_ k:Rw S):=ou (WJ k) ⟨Eg k ho,trivial⟩ func190 fun c Z x h=>px h
def Qa:Rw S:=aj Ll xn fun l Z=>aa k (yN k l) (cM Z)
def C5:Fx S:=fp 29 [(190,P_ k)] [(3,⟨[(1,nM),(5,ql 100005),(10,nM),(11,nM),(12,nM)],[]⟩,ap 5 11)] k f188 0
def Np (l:List Cl) (te:Int) (q:List Cl):St UU:=⟨[(1,(.func 190 [] [])),(5,(.own 100005 0)),(10,(sC l)),(11,(iI l.length)),(12,(iI te))],[],[(100005,⟨0,ET.C,q⟩)],[(100005,.wr)]⟩
section
variable (k:Nat) (l:List Cl) (Z:Out UU->Option S)
theorem Zc: ∀n te q,(C5 k).lp Z 3 [] n (Np l te q)=l8 k (cM Z) l n te q:=aL (wW k (cM Z) l)
end
theorem acl (ho:ai o):Tl o 188 (Qa k:Rw S):=ou (C5 k) ⟨ack k ho,trivial⟩ func188 fun l Z x h=>o0 (b:=HJ k (cM Z) (fun te q=>(C5 k).lp Z 3 [] k (Np l te q)) l) (by kernel_rfl) (o0 (by simp only [Zc];rfl) (al h))
def Qb:Rw S:=aj eo xn fun f Z=>aa k (tI k f) (ua Z)
def C6:Fx S:=fp 12 [(123,jz k),(172,Pp k),(188,Qa k)] [] k f248 0
theorem acm (ho:ai o):Tl o 248 (Qb k:Rw S):=ou (C6 k) ⟨j_ k ho,M5 k ho,acl k ho,trivial⟩ func248 fun f Z x h=>px h
def Qc:Rw S:=aj EU wC fun b c0 Z=>aa k (yO k b c0) (mt c0 Z)
def WK:Fx S:=fp 11 [(190,P_ k),(191,OU k)] [] k f189 1
theorem acn (ho:ai o):Tl o 189 (Qc k:Rw S):=ou (WK k) ⟨ack k ho,aa6 k ho,trivial⟩ func189 fun b c0 Z x h=>px h
def Bj:Rw S:=aj adQ wC fun l c0 Z=>aa k (yM k l c0) (k5 c0 Z)
def WL:Fx S:=fp 29 [(189,Qc k)] [(3,⟨[(1,nM),(5,ql 100005),(10,nM),(11,nM),(12,nM)],[(1000000,[nM,nM])]⟩,ap 5 11)] k f188 1
def aCp (c0:Cl) (l:List Cl) (te:Int) (q:List Cl):St UU:=⟨[(1,(.func 189 [] [(pt 1000000)])),(5,(.own 100005 0)),(10,(sC l)),(11,(iI l.length)),(12,(iI te))],[(1000000,bC c0)],[(100005,⟨0,ET.C,q⟩)],[(100005,.wr)]⟩
section
variable (k:Nat) (l:List Cl) (c0:Cl) (Z:Out UU->Option S)
theorem aEJ: ∀n te q,(WL k).lp Z 3 [] n (aCp c0 l te q)=p8 k (k5 c0 Z) c0 l n te q:=aL (wV k (k5 c0 Z) c0 l)
end
theorem Eo (ho:ai o):Tl o 188 (Bj k:Rw S):=ou (WL k) ⟨acn k ho,trivial⟩ func188 fun l c0 Z x h=>o0 (b:=HI k (k5 c0 Z) (fun te q=>(WL k).lp Z 3 [] k (aCp c0 l te q)) l c0) (by kernel_rfl) (o0 (by simp only [aEJ];rfl) (al h))
def Qd:Rw S:=aj jk xn fun f g Z=>aa k (pe k f g) (ua Z)
def jZ:Fx S:=fp 25 [(172,Pp k),(188,Bj k)] [(3,⟨[(1,nM),(6,ql 100006),(9,nM),(10,nM),(11,nM)],[]⟩,ap 5 11)] k f136 0
def FL (g f:List Cl) (zt:Int) (q:List Cl):St UU:=⟨[(1,(sC g)),(6,(.own 100006 0)),(9,(sC f)),(10,(iI f.length)),(11,(iI zt))],[],[(100006,⟨0,ET.C,q⟩)],[(100006,.wr)]⟩
section
variable (k:Nat) (f g:List Cl) (Z:Out UU->Option S)
theorem Ze: ∀n zt q,(jZ k).lp Z 3 [] n (FL g f zt q)=p_ k (ua Z) g f n zt q:=aL (wX k (ua Z) g f)
end
theorem aco (ho:ai o):Tl o 136 (Qd k:Rw S):=ou (jZ k) ⟨M5 k ho,Eo k ho,trivial⟩ func136 fun f g Z x h=>o0 (b:=HK k (ua Z) (fun zt q=>(jZ k).lp Z 3 [] k (FL g f zt q)) f g) (by kernel_rfl) (o0 (by simp only [Ze];rfl) (al h))
def GS:Rw S:=aj jk xn fun f g Z=>aa k (yL k f g) (ua Z)
def aRy:Fx S:=fp 14 [(172,Pp k)] [] k f183 0
theorem Kx (ho:ai o):Tl o 183 (GS k:Rw S):=ou (aRy k) ⟨M5 k ho,trivial⟩ func183 fun f g Z x h=>px h
def Qe:Rw S:=aj ny xn fun c Z=>aa k (yV k c) (ua Z)
def WM:Fx S:=fp 43 [(172,Pp k),(187,GZ),(242,P3 k)] [(3,⟨[(1,nM),(4,ql 100004),(11,nM),(12,nM),(13,nM)],[(1,[nM,nM])]⟩,ap 5 11),(8,⟨[(4,ql 100004),(26,nM),(27,nM),(28,nM)],[]⟩,ap 6 23)] k f265 0
def azG (c:Cl) (r1:List Int) (x:Int) (q:List Cl):St UU:=⟨[(1,(pt 1)),(4,(.own 100004 0)),(11,(la r1 .none)),(12,(iI r1.length)),(13,(iI x))],[(1,bC c)],[(100004,⟨0,ET.C,q⟩)],[(100004,.wr)]⟩
def aCq (r5:List Int) (Ir:Int) (q:List Cl):St UU:=⟨[(4,(.own 100004 0)),(26,(la r5 .none)),(27,(iI r5.length)),(28,(iI Ir))],[],[(100004,⟨0,ET.C,q⟩)],[(100004,.wr)]⟩
section
variable (k:Nat) (c:Cl) (Z:Out UU->Option S)
theorem aEL (r5): ∀n Ir q,(WM k).lp Z 8 [] n (aCq r5 Ir q)=Sy k (ua Z) r5 n Ir q:=aL (w8 k (ua Z) r5)
theorem aEK (r1): ∀n z q,(WM k).lp Z 3 [] n (azG c r1 z q)=qh k (ua Z) c r1 n z q:=aL (fun own=>r7 k (ua Z) c r1 (fun A Ir x=>Sy k (ua Z) A k Ir x) own) rfl (fun _=>rfl) fun r z q=>o0 (b:=r7 k (ua Z) c r1 (fun A Ir x=>(WM k).lp Z 8 [] k (aCq A Ir x)) (fun z q=>r (azG c r1 z q)) z q) (by kernel_rfl) (by simp only [aEL])
end
theorem acp (ho:ai o):Tl o 265 (Qe k:Rw S):=ou (WM k) ⟨M5 k ho,akR o ho,hI k ho,trivial⟩ func265 fun c Z x h=>o0 (b:=HS k (ua Z) (fun r1 z q=>(WM k).lp Z 3 [] k (azG c r1 z q)) c) (by kernel_rfl) (o0 (by simp only [aEK];rfl) (al h))
def Qf:Rw S:=aj jk xn fun f g Z=>aa k (jW k f g) (ua Z)
def C7:Fx S:=fp 35 [(172,Pp k),(191,OU k)] [(3,⟨[(1,nM),(6,ql 100006),(11,nM),(12,nM),(13,nM)],[]⟩,ap 5 11),(6,⟨[(1,nM),(6,ql 100006),(8,nM),(11,nM),(12,nM),(13,nM),(17,nM),(18,nM),(19,nM)],[(8,[nM,nM])]⟩,ap 13 3275)] k f245 0
def Nt (g f:List Cl) (x:Int) (q:List Cl):St UU:=⟨[(1,(sC g)),(6,(.own 100006 0)),(11,(sC f)),(12,(iI f.length)),(13,(iI x))],[],[(100006,⟨0,ET.C,q⟩)],[(100006,.wr)]⟩
def aCr (x1:Cl) (g f:List Cl) (x:Int) (z:Int) (q:List Cl):St UU:=⟨[(1,(sC g)),(6,(.own 100006 0)),(8,(pt 8)),(11,(sC f)),(12,(iI f.length)),(13,(iI x)),(17,(sC g)),(18,(iI g.length)),(19,(iI z))],[(8,bC x1)],[(100006,⟨0,ET.C,q⟩)],[(100006,.wr)]⟩
section
variable (k:Nat) (f g:List Cl) (Z:Out UU->Option S)
theorem aEM (x1 q Z0): ∀n A x,(C7 k).lp Z 6 [Z0] n (aCr x1 g f q A x)=nA k (ua Z) (fun q z=>Z0 (Nt g f q z)) x1 g f q n A x:=aL (w7 k (ua Z) x1 g f q (fun q z=>Z0 (Nt g f q z)))
theorem Zi: ∀n q x,(C7 k).lp Z 3 [] n (Nt g f q x)=lZ k (ua Z) g f n q x:=aL (fun own=>hW k (ua Z) g f (fun x1 q A z=>nA k (ua Z) own x1 g f q k A z) own) rfl (fun _=>rfl) fun r q x=>o0 (b:=hW k (ua Z) g f (fun x1 q A z=>(C7 k).lp Z 6 [r] k (aCr x1 g f q A z)) (fun q x=>r (Nt g f q x)) q x) (by kernel_rfl) (by simp only [aEM])
end
theorem acq (ho:ai o):Tl o 245 (Qf k:Rw S):=ou (C7 k) ⟨M5 k ho,aa6 k ho,trivial⟩ func245 fun f g Z x h=>o0 (b:=HR k (ua Z) (fun z q=>(C7 k).lp Z 3 [] k (Nt g f z q)) f g) (by kernel_rfl) (o0 (by simp only [Zi];rfl) (al h))
def GT:Rw S:=aj Aj xn fun sU c Z=>aa k (yU k sU c) (ua Z)
def WN:Fx S:=fp 21 [(245,Qf k),(265,Qe k)] [] k f264 0
theorem Ky (ho:ai o):Tl o 264 (GT k:Rw S):=ou (WN k) ⟨acq k ho,acp k ho,trivial⟩ func264 fun sU c Z x h=>px h
def Qh:Rw S:=aj E2 xn fun l ow Z=>aa k (DP k l ow) (ua Z)
def WP:Fx S:=fp 33 [(264,GT k)] [(2,aS [1,2,13,14,15] [],ap 4 5)] k f202 0
def aCs (l:List Cl) (v1:List Cl) (q:Int):St UU:=⟨[(1,(sC v1)),(2,(.func 264 [] [])),(13,(sC l)),(14,(iI l.length)),(15,(iI q))],[],[],[]⟩
section
variable (k:Nat) (l ow:List Cl) (Z:Out UU->Option S)
theorem aEN: ∀n v1 q,(WP k).lp Z 2 [] n (aCs l v1 q)=qe k (ua Z) l n v1 q:=aL (b6 k (ua Z) l)
end
theorem acs (ho:ai o):Tl o 202 (Qh k:Rw S):=ou (WP k) ⟨Ky k ho,trivial⟩ func202 fun l ow Z x h=>o0 (b:=HP k (ua Z) (fun v1 q=>(WP k).lp Z 2 [] k (aCs l v1 q)) l ow) (by kernel_rfl) (o0 (by simp only [aEN];rfl) (al h))
def Qi:Rw S:=aj eo xn fun f Z=>aa k (ph k f) (ua Z)
def WQ:Fx S:=fp 9 [(130,Bg k),(202,Qh k)] [] k f246 0
theorem act (ho:ai o):Tl o 246 (Qi k:Rw S):=ou (WQ k) ⟨Em k ho,acs k ho,trivial⟩ func246 fun f Z x h=>px h
def Qj:Rw S:=aj eo xn fun f Z=>aa k (yQ k f) (ua Z)
def aLF:Fx S:=fp 15 [(201,o1 k),(246,Qi k)] [] k f266 0
theorem acu (ho:ai o):Tl o 266 (Qj k:Rw S):=ou (aLF k) ⟨pM k ho,act k ho,trivial⟩ func266 fun f Z x h=>px h
def GU:Rw S:=aj eo xn fun f Z=>aa k (yI k f) (ua Z)
def WR:Fx S:=fp 18 [(248,Qb k),(266,Qj k)] [] k f249 0
theorem Kz (ho:ai o):Tl o 249 (GU k:Rw S):=ou (WR k) ⟨acm k ho,acu k ho,trivial⟩ func249 fun f Z x h=>px h
def Qk:Rw S:=aj aBv xn fun f i qT Z=>aa k (yJ k f i qT) (ua Z)
def WS:Fx S:=fp 92 [(123,jz k),(125,PG k),(136,Qd k),(183,GS k),(213,K2 k),(219,GP k),(233,GQ k),(248,Qb k),(249,GU k)] [(5,aS [1,2,8,27,28,29] [],ap 6 23),(1000018,aS [1,2,8,11,13,27,28,29] [],ap 16 63895)] k f222 0
def J3 (i:Int) (qT f:List Cl) (q:Int) (x:List Cl):St UU:=⟨[(1,(iI i)),(2,(sC qT)),(8,(sC x)),(27,(sC f)),(28,(iI f.length)),(29,(iI q))],[],[],[]⟩
def aCt (i:Int) (qT f:List Cl) (q:Int) (z:List Cl) (g11:List Cl) (x:Int):St UU:=⟨[(1,(iI i)),(2,(sC qT)),(8,(sC z)),(11,(sC g11)),(13,(iI x)),(27,(sC f)),(28,(iI f.length)),(29,(iI q))],[],[],[]⟩
section
variable (k:Nat) (f:List Cl) (i:Int) (qT:List Cl) (Z:Out UU->Option S)
theorem aEP (q x Z0): ∀n g11 z,(WS k).jn Z 1000018 [Z0] n (aCt i qT f q x g11 z)=kq k (ua Z) (fun q x=>Z0 (J3 i qT f q x)) i qT f q x n g11 z:=Lb (wU k (ua Z) i qT f q x (fun q x=>Z0 (J3 i qT f q x)))
theorem aEO: ∀n q x,(WS k).lp Z 5 [] n (J3 i qT f q x)=lY k (ua Z) i qT f n q x:=aL (fun own=>qL k (ua Z) i qT f (fun q x g11 z=>kq k (ua Z) own i qT f q x k g11 z) own) rfl (fun _=>rfl) fun r q x=>o0 (b:=qL k (ua Z) i qT f (fun q x g11 z=>(WS k).jn Z 1000018 [r] k (aCt i qT f q x g11 z)) (fun q x=>r (J3 i qT f q x)) q x) (by kernel_rfl) (by simp only [aEP])
end
theorem acv (ho:ai o):Tl o 222 (Qk k:Rw S):=ou (WS k) ⟨j_ k ho,x9 k ho,aco k ho,Kx k ho,pL k ho,Ku k ho,Kv k ho,acm k ho,Kz k ho,trivial⟩ func222 fun f i qT Z x h=>o0 (b:=HH k (ua Z) (fun q z=>(WS k).lp Z 5 [] k (J3 i qT f q z)) f i qT) (by kernel_rfl) (o0 (by simp only [aEO];rfl) (al h))
def Ql:Rw S:=aj adS aJr fun f depth c0 c1 Z=>aa k (tF k f depth c0 c1) (ah5 c0 c1 Z)
def WT:Fx S:=fp 38 [(160,PP k),(173,vL k),(219,GP k),(220,P9 k),(222,Qk k)] [] k f218 3
theorem acw (ho:ai o):Tl o 218 (Ql k:Rw S):=ou (WT k) ⟨jq k ho,zN k ho,Ku k ho,acj k ho,acv k ho,trivial⟩ func218 fun f depth c0 c1 Z x h=>px h
def Qm:Rw S:=aj Mw xn fun i Z=>aa k (yP k i) (ua Z)
def WU:Fx S:=fp 12 [(241,P5 k),(242,P3 k)] [] k f243 0
theorem acx (ho:ai o):Tl o 243 (Qm k:Rw S):=ou (WU k) ⟨acf k ho,hI k ho,trivial⟩ func243 fun i Z x h=>px h
def Qn:Rw S:=aj jk xn fun f g Z=>aa k (na k f g) (ua Z)
def C8:Fx S:=fp 14 [(172,Pp k)] [] k f247 0
theorem acy (ho:ai o):Tl o 247 (Qn k:Rw S):=ou (C8 k) ⟨M5 k ho,trivial⟩ func247 fun f g Z x h=>px h
def Qo:Rw S:=aj aGD gG fun sU c c0 c1 Z=>aa k (yS k sU c c0 c1) (q6 c0 c1 Z)
def WV:Fx S:=fp 63 [(213,K2 k),(219,GP k),(245,Qf k),(246,Qi k),(247,Qn k)] [] k f244 2
theorem acz (ho:ai o):Tl o 244 (Qo k:Rw S):=ou (WV k) ⟨pL k ho,Ku k ho,acq k ho,act k ho,acy k ho,trivial⟩ func244 fun sU c c0 c1 Z x h=>px h
def Qp:Rw S:=aj E3 gG fun l ow c0 c1 Z=>aa k (DO k l ow c0 c1) (q6 c0 c1 Z)
def WW:Fx S:=fp 33 [(244,Qo k)] [(2,aS [1,2,13,14,15] [(1000000,1),(1000001,1)],ap 4 5)] k f202 2
def aCu (c0:Int) (c1 l:List Cl) (v1:List Cl) (q:Int):St UU:=⟨[(1,(sC v1)),(2,(.func 244 [] [(pt 1000000),(pt 1000001)])),(13,(sC l)),(14,(iI l.length)),(15,(iI q))],[(1000000,bI c0),(1000001,.cells [(sC c1)])],[],[]⟩
section
variable (k:Nat) (l ow:List Cl) (c0:Int) (c1:List Cl) (Z:Out UU->Option S)
theorem aEQ: ∀n v1 q,(WW k).lp Z 2 [] n (aCu c0 c1 l v1 q)=qc k (q6 c0 c1 Z) c0 c1 l n v1 q:=aL (wZ k (q6 c0 c1 Z) c0 c1 l)
end
theorem acA (ho:ai o):Tl o 202 (Qp k:Rw S):=ou (WW k) ⟨acz k ho,trivial⟩ func202 fun l ow c0 c1 Z x h=>o0 (b:=HO k (q6 c0 c1 Z) (fun v1 q=>(WW k).lp Z 2 [] k (aCu c0 c1 l v1 q)) l ow c0 c1) (by kernel_rfl) (o0 (by simp only [aEQ];rfl) (al h))
def Of:Rw S:=aj aBv xn fun f i qT Z=>aa k (yR k f i qT) (ua Z)
def UC:Fx S:=fp 32 [(186,GK k),(201,o1 k),(202,Qp k),(243,Qm k)] [] k f221 0
theorem aau (ho:ai o):Tl o 221 (Of k:Rw S):=ou (UC k) ⟨Kp k ho,pM k ho,acA k ho,acx k ho,trivial⟩ func221 fun f i qT Z x h=>px h
def Ga:Rw S:=aj adS Je fun f depth c0 c1 Z=>aa k (yF k f depth c0 c1) (aHm c0 c1 Z)
def UD:Fx S:=fp 38 [(160,PP k),(173,vL k),(219,GP k),(220,P9 k),(221,Of k)] [] k f218 3
theorem JS (ho:ai o):Tl o 218 (Ga k:Rw S):=ou (UD k) ⟨jq k ho,zN k ho,Ku k ho,acj k ho,aau k ho,trivial⟩ func218 fun f depth c0 c1 Z x h=>px h
def Gb:Rw S:=aj Lm hi fun t depth c0 c1 Z=>aa k (yG k t depth c0 c1) (ah7 c0 c1 Z)
def UE:Fx S:=fp 27 [(218,ol (uy adS Je) (Ga k) (Ql k))] [] k f223 4
theorem aFd (ho:ai o):Tl o 223 (Gb k:Rw S):=ou (UE k) ⟨vw (JS k ho) (acw k ho),trivial⟩ func223 fun t depth c0 c1 Z x h=>px h
def rn:Rw S:=aj Ln Uw fun i c0 Z=>aa k (tG k i c0) (ah8 c0 Z)
def Ce:Fx S:=fp 14 [(126,Od k)] [] k f225 1
theorem aAS (ho:ai o):Tl o 225 (rn k:Rw S):=ou (Ce k) ⟨sr k ho,trivial⟩ func225 fun i c0 Z x h=>px h
def Og:Rw S:=aj Ln fh fun p c0 Z=>aa k (tH k p c0) (AR c0 Z)
def Cf:Fx S:=fp 5 [] [] k f226 1
theorem aav (ho:ai o):Tl o 226 (Og k:Rw S):=ou (Cf k) trivial func226 fun p c0 Z x h=>px h
def Oh (hd:c8 S):Rw S:=aj Lm hi fun t depth c0 c1 Z=>hd t depth c0 c1 (fA c0 c1 Z)
def Oi (hd:c8 S) (k:Nat):Rw S:=aj adV alw fun l depth c0 c1 c4 Z=>aa k (DK hd k l depth c0 c1 c4) (vB c0 c1 c4 Z)
def UF (hd:c8 S) (k:Nat):Fx S:=fp 42 [(181,Oh hd),(226,Og k)] [(3,⟨[(2,nM),(3,nM),(4,nM),(10,ql 100010),(15,nM),(16,nM),(17,nM)],[(4,[nM,nM]),(1000000,[nM]),(1000001,[nM]),(1000002,[nM]),(1000003,[nM]),(1000004,[nM])]⟩,ap 5 11)] k f224 5
def aBD (c0:Int) (c1:List Cl) (c4:Int) (l:List Tm) (depth:Int) (q:List Tm) (ov:Int):St UU:=⟨[(2,(iI depth)),(3,(.func 226 [] [(pt 1000004)])),(4,(pt 4)),(10,(.own 100010 0)),(15,(sT l)),(16,(iI l.length)),(17,(iI ov))],[(4,.cells [(.func 218 [] [(pt 1000000),(pt 1000001),(pt 1000002)]),(.func 218 [] [(pt 1000000),(pt 1000001),(pt 1000003)])]),(1000000,bI c0),(1000001,.cells [(sC c1)]),(1000002,.cells [(.func 221 [] [])]),(1000003,.cells [(.func 222 [] [])]),(1000004,bI c4)],[(100010,⟨0,ET.T,q⟩)],[(100010,.wr)]⟩
section
variable (hd:c8 S) (k:Nat) (l:List Tm) (depth c0:Int) (c1:List Cl) (c4:Int) (Z:Out UU->Option S)
theorem aDF: ∀n q ov,(UF hd k).lp Z 3 [] n (aBD c0 c1 c4 l depth q ov)=lW hd k (vB c0 c1 c4 Z) c0 c1 c4 l depth n q ov:=aL (wQ hd k (vB c0 c1 c4 Z) c0 c1 c4 l depth)
end
theorem aax (o:Obj) (ho:ai o) (hd:c8 S) (Hd:Tl o 181 (Oh hd)) (k:Nat):Tl o 224 (Oi hd k:Rw S):=ou (UF hd k) ⟨Hd,aav k ho,trivial⟩ func224 fun l depth c0 c1 c4 Z x h=>o0 (b:=HB hd k (vB c0 c1 c4 Z) (fun q ov=>(UF hd k).lp Z 3 [] k (aBD c0 c1 c4 l depth q ov)) l depth c0 c1 c4) (by kernel_rfl) (o0 (by simp only [aDF];rfl) (al h))
def Oj (hd:c8 S) (k:Nat):Rw S:=aj adW aJs fun l depth c0 c1 c4 Z=>aa k (DL hd k l depth c0 c1 c4) (e2 c0 c1 c4 Z)
def UG (hd:c8 S) (k:Nat):Fx S:=fp 42 [(181,Oh hd),(225,rn k)] [(3,⟨[(2,nM),(3,nM),(4,nM),(10,ql 100010),(15,nM),(16,nM),(17,nM)],[(4,[nM,nM]),(1000000,[nM]),(1000001,[nM]),(1000002,[nM]),(1000003,[nM]),(1000004,[nM,nM,nM,nM,nM,nM])]⟩,ap 5 11)] k f224 5
def aBE (c0:Int) (c1:List Cl) (c4:Tm) (l:List Tm) (depth:Int) (q:List Tm) (ov:Int):St UU:=⟨[(2,(iI depth)),(3,(.func 225 [] [(pt 1000004)])),(4,(pt 4)),(10,(.own 100010 0)),(15,(sT l)),(16,(iI l.length)),(17,(iI ov))],[(4,.cells [(.func 218 [] [(pt 1000000),(pt 1000001),(pt 1000002)]),(.func 218 [] [(pt 1000000),(pt 1000001),(pt 1000003)])]),(1000000,bI c0),(1000001,.cells [(sC c1)]),(1000002,.cells [(.func 221 [] [])]),(1000003,.cells [(.func 222 [] [])]),(1000004,bT c4)],[(100010,⟨0,ET.T,q⟩)],[(100010,.wr)]⟩
section
variable (hd:c8 S) (k:Nat) (l:List Tm) (depth c0:Int) (c1:List Cl) (c4:Tm) (Z:Out UU->Option S)
theorem aDG: ∀n q ov,(UG hd k).lp Z 3 [] n (aBE c0 c1 c4 l depth q ov)=lX hd k (e2 c0 c1 c4 Z) c0 c1 c4 l depth n q ov:=aL (wR hd k (e2 c0 c1 c4 Z) c0 c1 c4 l depth)
end
theorem aay (o:Obj) (ho:ai o) (hd:c8 S) (Hd:Tl o 181 (Oh hd)) (k:Nat):Tl o 224 (Oj hd k:Rw S):=ou (UG hd k) ⟨Hd,aAS k ho,trivial⟩ func224 fun l depth c0 c1 c4 Z x h=>o0 (b:=HC hd k (e2 c0 c1 c4 Z) (fun q ov=>(UG hd k).lp Z 3 [] k (aBE c0 c1 c4 l depth q ov)) l depth c0 c1 c4) (by kernel_rfl) (o0 (by simp only [aDG];rfl) (al h))
def Cg (hd:c8 S) (k:Nat):Fx S:=fp 98 [(218,Ql k),(223,Gb k),(224,ol (uy adV alw) (Oi hd k) (Oj hd k))] [(13,⟨[(2,nM),(3,nM),(6,nM),(8,nM),(10,nM),(53,nM),(54,nM),(55,nM)],[(3,[nM,nM]),(6,[nM,nM,nM,ql 200387,ql 200388,ql 200389]),(8,[nM,nM,nM,nM,nM,ql 200517]),(10,[nM]),(1000000,[nM]),(1000001,[nM]),(1000002,[nM]),(1000003,[nM])]⟩,ap 11 767)] k f181 4
def LU (c0:Int) (c1:List Cl) (t:Tm) (r1:List Cl×Int) (r2:List Tm×Int) (depth:Int) (x:Int) (q:List (Br Tm)) (v55:Int):St UU:=⟨[(2,(iI depth)),(3,(pt 3)),(6,(pt 6)),(8,(pt 8)),(10,(pt 10)),(53,(sB t.s)),(54,(iI t.s.length)),(55,(iI v55))],[(3,.cells [(.func 218 [] [(pt 1000000),(pt 1000001),(pt 1000002)]),(.func 218 [] [(pt 1000000),(pt 1000001),(pt 1000003)])]),(6,.cells [(iI 0),(iI 0),zw,(.own 200387 0),(.own 200388 0),(.own 200389 0)]),(8,.cells [(iI t.k),(iI t.n),(.str t.name),(sC r1.1),(sT r2.1),(.own 200517 0)]),(10,bI x),(1000000,bI c0),(1000001,.cells [(sC c1)]),(1000002,.cells [(.func 221 [] [])]),(1000003,.cells [(.func 222 [] [])])],[(200517,⟨0,ET.B,q⟩),(200389,xP),(200388,zn),(200387,xW)],[(200517,.wr),(200389,.wr),(200388,.wr),(200387,.wr)]⟩
section
variable (hd:c8 S) (k:Nat) (t:Tm) (depth c0:Int) (c1:List Cl) (Z:Out UU->Option S)
theorem W7 (r1 r2): ∀n x q v55,(Cg hd k).lp Z 13 [] n (LU c0 c1 t r1 r2 depth x q v55)=fV hd k (fA c0 c1 Z) c0 c1 t r1 r2 depth n x q v55:=EG (wS hd k (fA c0 c1 Z) c0 c1 t r1 r2 depth)
end
theorem cx (o:Obj) (ho:ai o): ∀k:Nat,Tl o 181 (Oh (d7 k:c8 S))
 |0=>dz fun t depth c0 c1 Z x h=>by cases h
 |k+1=>ou (Cg (d7 k) k) ⟨acw k ho,aFd k ho,vw (aax o ho (d7 k) (cx o ho k) k) (aay o ho (d7 k) (cx o ho k) k),trivial⟩ func181 fun t depth c0 c1 Z x h=>o0 (b:=HF (d7 k) k (fA c0 c1 Z) (fun r1 A z q v55=>(Cg (d7 k) k).lp Z 13 [] k (LU c0 c1 t r1 A depth z q v55)) t depth c0 c1) (by kernel_rfl) (o0 (by simp only [W7];rfl) h)
def Gc:Rw S:=aj Mw xn fun i Z=>aa k (DE k i) (aia Z)
def Ch:Fx S:=fp 8 [] [] k f182 0
theorem JU (ho:ai o):Tl o 182 (Gc k:Rw S):=ou (Ch k) trivial func182 fun i Z x h=>px h
def Ok:Rw S:=aj lS xn fun s i Z=>aa k (pk k s i) (b_ Z)
def UH:Fx S:=fp 24 [(230,my k),(238,PE k)] [] k f228 0
theorem aaz (ho:ai o):Tl o 228 (Ok k:Rw S):=ou (UH k) ⟨nq k ho,hy k ho,trivial⟩ func228 fun s i Z x h=>px h
def rp:Rw S:=aj Lp fh fun f depth c0 Z=>aa k (pc k f depth c0) (ml c0 Z)
def Ci:Fx S:=fp 37 [(172,Pp k),(228,Ok k)] [(3,⟨[(1,nM),(2,nM),(7,ql 100007),(10,nM),(11,nM),(12,nM)],[(1000000,[nM])]⟩,ap 5 11)] k f227 1
def LW (c0 depth:Int) (f:List Cl) (te:Int) (q:List Cl):St UU:=⟨[(1,(iI depth)),(2,(pt 1000000)),(7,(.own 100007 0)),(10,(sC f)),(11,(iI f.length)),(12,(iI te))],[(1000000,bI c0)],[(100007,⟨0,ET.C,q⟩)],[(100007,.wr)]⟩
section
variable (k:Nat) (f:List Cl) (depth c0:Int) (Z:Out UU->Option S)
theorem W9: ∀n te q,(Ci k).lp Z 3 [] n (LW c0 depth f te q)=jw k (ml c0 Z) c0 depth f n te q:=aL (wN k (ml c0 Z) c0 depth f)
end
theorem aAT (ho:ai o):Tl o 227 (rp k:Rw S):=ou (Ci k) ⟨M5 k ho,aaz k ho,trivial⟩ func227 fun f depth c0 Z x h=>o0 (b:=Hx k (ml c0 Z) (fun te q=>(Ci k).lp Z 3 [] k (LW c0 depth f te q)) f depth c0) (by kernel_rfl) (o0 (by simp only [W9];rfl) (al h))
def Om:Rw S:=aj adX fh fun t depth c0 Z=>aa k (yH k t depth c0) (ml c0 Z)
def Cj:Fx S:=fp 27 [(227,rp k)] [] k f223 1
theorem aaB (ho:ai o):Tl o 223 (Om k:Rw S):=ou (Cj k) ⟨aAT k ho,trivial⟩ func223 fun t depth c0 Z x h=>px h
def On (hd:c_ S):Rw S:=aj adX fh fun t depth c0 Z=>hd t depth c0 (v' c0 Z)
def A2 (hd:c_ S) (k:Nat):Rw S:=aj aBw qE fun l depth c0 c1 Z=>aa k (DI hd k l depth c0 c1) (AT c0 c1 Z)
def UJ (hd:c_ S) (k:Nat):Fx S:=fp 42 [(181,On hd),(226,Og k)] [(3,⟨[(2,nM),(3,nM),(4,nM),(10,ql 100010),(15,nM),(16,nM),(17,nM)],[(4,[nM,nM]),(1000000,[nM]),(1000001,[nM])]⟩,ap 5 11)] k f224 2
def aBF (c0 c1:Int) (l:List Tm) (depth:Int) (q:List Tm) (ov:Int):St UU:=⟨[(2,(iI depth)),(3,(.func 226 [] [(pt 1000001)])),(4,(pt 4)),(10,(.own 100010 0)),(15,(sT l)),(16,(iI l.length)),(17,(iI ov))],[(4,.cells [(.func 227 [] [(pt 1000000)]),(.func 227 [] [(pt 1000000)])]),(1000000,bI c0),(1000001,bI c1)],[(100010,⟨0,ET.T,q⟩)],[(100010,.wr)]⟩
section
variable (hd:c_ S) (k:Nat) (l:List Tm) (depth c0 c1:Int) (Z:Out UU->Option S)
theorem aDH: ∀n q ov,(UJ hd k).lp Z 3 [] n (aBF c0 c1 l depth q ov)=lU hd k (AT c0 c1 Z) c0 c1 l depth n q ov:=aL (wO hd k (AT c0 c1 Z) c0 c1 l depth)
end
theorem D9 (o:Obj) (ho:ai o) (hd:c_ S) (Hd:Tl o 181 (On hd)) (k:Nat):Tl o 224 (A2 hd k:Rw S):=ou (UJ hd k) ⟨Hd,aav k ho,trivial⟩ func224 fun l depth c0 c1 Z x h=>o0 (b:=Hz hd k (AT c0 c1 Z) (fun q ov=>(UJ hd k).lp Z 3 [] k (aBF c0 c1 l depth q ov)) l depth c0 c1) (by kernel_rfl) (o0 (by simp only [aDH];rfl) (al h))
def Ge (hd:c_ S) (k:Nat):Rw S:=aj Lq aJt fun l depth c0 c1 Z=>aa k (DJ hd k l depth c0 c1) (AU c0 c1 Z)
def UK (hd:c_ S) (k:Nat):Fx S:=fp 42 [(181,On hd),(225,rn k)] [(3,⟨[(2,nM),(3,nM),(4,nM),(10,ql 100010),(15,nM),(16,nM),(17,nM)],[(4,[nM,nM]),(1000000,[nM]),(1000001,[nM,nM,nM,nM,nM,nM])]⟩,ap 5 11)] k f224 2
def aBG (c0:Int) (c1:Tm) (l:List Tm) (depth:Int) (q:List Tm) (ov:Int):St UU:=⟨[(2,(iI depth)),(3,(.func 225 [] [(pt 1000001)])),(4,(pt 4)),(10,(.own 100010 0)),(15,(sT l)),(16,(iI l.length)),(17,(iI ov))],[(4,.cells [(.func 227 [] [(pt 1000000)]),(.func 227 [] [(pt 1000000)])]),(1000000,bI c0),(1000001,bT c1)],[(100010,⟨0,ET.T,q⟩)],[(100010,.wr)]⟩
section
variable (hd:c_ S) (k:Nat) (l:List Tm) (depth c0:Int) (c1:Tm) (Z:Out UU->Option S)
theorem aDI: ∀n q ov,(UK hd k).lp Z 3 [] n (aBG c0 c1 l depth q ov)=lV hd k (AU c0 c1 Z) c0 c1 l depth n q ov:=aL (wP hd k (AU c0 c1 Z) c0 c1 l depth)
end
theorem JV (o:Obj) (ho:ai o) (hd:c_ S) (Hd:Tl o 181 (On hd)) (k:Nat):Tl o 224 (Ge hd k:Rw S):=ou (UK hd k) ⟨Hd,aAS k ho,trivial⟩ func224 fun l depth c0 c1 Z x h=>o0 (b:=HA hd k (AU c0 c1 Z) (fun q ov=>(UK hd k).lp Z 3 [] k (aBG c0 c1 l depth q ov)) l depth c0 c1) (by kernel_rfl) (o0 (by simp only [aDI];rfl) (al h))
def Ck (hd:c_ S) (k:Nat):Fx S:=fp 98 [(223,Om k),(224,ol (uy aBw qE) (A2 hd k) (Ge hd k)),(227,rp k)] [(13,⟨[(2,nM),(3,nM),(6,nM),(8,nM),(10,nM),(53,nM),(54,nM),(55,nM)],[(3,[nM,nM]),(6,[nM,nM,nM,ql 200387,ql 200388,ql 200389]),(8,[nM,nM,nM,nM,nM,ql 200517]),(10,[nM]),(1000000,[nM])]⟩,ap 11 767)] k f181 1
def LY (c0:Int) (t:Tm) (r1:List Cl×Int) (r2:List Tm×Int) (depth:Int) (x:Int) (q:List (Br Tm)) (v55:Int):St UU:=⟨[(2,(iI depth)),(3,(pt 3)),(6,(pt 6)),(8,(pt 8)),(10,(pt 10)),(53,(sB t.s)),(54,(iI t.s.length)),(55,(iI v55))],[(3,.cells [(.func 227 [] [(pt 1000000)]),(.func 227 [] [(pt 1000000)])]),(6,.cells [(iI 0),(iI 0),zw,(.own 200387 0),(.own 200388 0),(.own 200389 0)]),(8,.cells [(iI t.k),(iI t.n),(.str t.name),(sC r1.1),(sT r2.1),(.own 200517 0)]),(10,bI x),(1000000,bI c0)],[(200517,⟨0,ET.B,q⟩),(200389,xP),(200388,zn),(200387,xW)],[(200517,.wr),(200389,.wr),(200388,.wr),(200387,.wr)]⟩
section
variable (hd:c_ S) (k:Nat) (t:Tm) (depth c0:Int) (Z:Out UU->Option S)
theorem Xa (r1 r2): ∀n x q v55,(Ck hd k).lp Z 13 [] n (LY c0 t r1 r2 depth x q v55)=L0 hd k (v' c0 Z) c0 t r1 r2 depth n x q v55:=EG (wT hd k (v' c0 Z) c0 t r1 r2 depth)
end
theorem azi (o:Obj) (ho:ai o): ∀k:Nat,Tl o 181 (On (dT k:c_ S))
 |0=>dz fun t depth c0 Z x h=>by cases h
 |k+1=>ou (Ck (dT k) k) ⟨aaB k ho,vw (D9 o ho (dT k) (azi o ho k) k) (JV o ho (dT k) (azi o ho k) k),aAT k ho,trivial⟩ func181 fun t depth c0 Z x h=>o0 (b:=HG (dT k) k (v' c0 Z) (fun r1 A z q v55=>(Ck (dT k) k).lp Z 13 [] k (LY c0 t r1 A depth z q v55)) t depth c0) (by kernel_rfl) (o0 (by simp only [Xa];rfl) h)
def Oo:Rw S:=aj aBu xn fun t i qT Z=>aa k (m_ k t i qT) (BC Z)
def Cm:Fx S:=fp 48 [(160,PP k),(179,P7 k),(180,P8 k),(181,ol (uy Lm hi) (Oh (d7 k)) (On (dT k))),(182,Gc k)] [] k f129 0
theorem x7 (ho:ai o):Tl o 129 (Oo k:Rw S):=ou (Cm k) ⟨jq k ho,ach k ho,aci k ho,vw (cx o ho k) (azi o ho k),JU k ho,trivial⟩ func129 fun t i qT Z x h=>px h
def jx:Rw S:=aj Lr fh fun t qT c0 Z=>aa k (JL k t qT c0) (AQ Z)
def UL:Fx S:=fp 18 [(81,P0 k),(82,IJ k),(129,Oo k)] [] k f64 1
theorem j8 (ho:ai o):Tl o 64 (jx k:Rw S):=ou (UL k) ⟨Lx k ho,K0 k ho,x7 k ho,trivial⟩ func64 fun t qT c0 Z x h=>px h
def Oq:Rw S:=aj Ls fh fun t c0 Z=>aa k (JI k t c0) (AQ Z)
def UM:Fx S:=fp 9 [(64,jx k),(130,Bg k)] [] k f65 1
theorem w4 (ho:ai o):Tl o 65 (Oq k:Rw S):=ou (UM k) ⟨j8 k ho,Em k ho,trivial⟩ func65 fun t c0 Z x h=>px h
def Ot:Rw S:=aj pW xn fun kind kids Z=>aa k (zc k kind kids) (aE Z)
def UN:Fx S:=fx 8 (fun _=>[]) (fun _=>false) [] [] k f41 true [] 0
theorem Dj (ho:ai o):Tl o 41 (Ot k:Rw S):=ou (UN k) trivial func41 fun kind kids Z x h=>px h
def Ou:Rw S:=aj Ls fh fun t c0 Z=>aa k (aJ k t c0) (AV Z)
def Cn:Fx S:=fp 50 [(41,Ot k),(65,Oq k),(137,P2 k)] [] k f78 1
theorem aaG (ho:ai o):Tl o 78 (Ou k:Rw S):=ou (Cn k) ⟨Dj k ho,w4 k ho,acb k ho,trivial⟩ func78 fun t c0 Z x h=>px h
def Ow:Rw S:=aj eo xn fun qT Z=>aa k (aW k qT) (da Z)
def UP:Fx S:=fp 18 [] [] k f77 0
theorem aaI (ho:ai o):Tl o 77 (Ow k:Rw S):=ou (UP k) trivial func77 fun qT Z x h=>px h
def Ox:Rw S:=aj Ls fh fun t c0 Z=>aa k (cA k t c0) (AV Z)
def UQ:Fx S:=fp 38 [(64,jx k),(77,Ow k)] [] k f73 1
theorem aaJ (ho:ai o):Tl o 73 (Ox k:Rw S):=ou (UQ k) ⟨j8 k ho,aaI k ho,trivial⟩ func73 fun t c0 Z x h=>px h
def vD:Rw S:=aj Ez xn fun t Z=>aa k (bA k t) (SM Z)
def UR:Fx S:=fp 22 [(41,Ot k),(77,Ow k)] [] k f74 0
theorem aFe (ho:ai o):Tl o 74 (vD k:Rw S):=ou (UR k) ⟨Dj k ho,aaI k ho,trivial⟩ func74 fun t Z x h=>px h
def Oy:Rw S:=aj adY xn fun kind qT kids Z=>aa k (tO k kind qT kids) (vC Z)
def US:Fx S:=fx 11 (fun _=>[]) (fun _=>false) [] [] k f66 true [] 0
theorem M6 (ho:ai o):Tl o 66 (Oy k:Rw S):=ou (US k) trivial func66 fun kind qT kids Z x h=>px h
def Oz:Rw S:=aj Ez xn fun t Z=>aa k (bz k t) (SM Z)
def mI:Fx S:=fp 36 [(66,Oy k)] [] k f75 0
theorem aaL (ho:ai o):Tl o 75 (Oz k:Rw S):=ou (mI k) ⟨M6 k ho,trivial⟩ func75 fun t Z x h=>px h
def Gf:Rw S:=aj Ez xn fun t Z=>aa k (b2 k t) (SM Z)
def jN:Fx S:=fp 48 [(41,Ot k),(66,Oy k)] [] k f76 0
theorem aFf (ho:ai o):Tl o 76 (Gf k:Rw S):=ou (jN k) ⟨Dj k ho,M6 k ho,trivial⟩ func76 fun t Z x h=>px h
def OA:Rw S:=aj Ls fh fun t c0 Z=>aa k (cD k t c0) (AV Z)
def UT:Fx S:=fp 120 [(38,P1 k),(73,Ox k),(74,vD k),(75,Oz k),(76,Gf k),(77,Ow k),(78,Ou k)] [] k f33 1
theorem aaM (ho:ai o):Tl o 33 (OA k:Rw S):=ou (UT k) ⟨s6 k ho,aaJ k ho,aFe k ho,aaL k ho,aFf k ho,aaI k ho,aaG k ho,trivial⟩ func33 fun t c0 Z x h=>px h
def Gg:Rw S:=aj Ls fh fun t c0 Z=>aa k (ly k t c0) (AW Z)
def mJ:Fx S:=fp 20 [(14,PK k),(34,PL (dJ k)),(81,P0 k),(82,IJ k)] [] k f35 1
theorem SG (ho:ai o):Tl o 35 (Gg k:Rw S):=ou (mJ k) ⟨FK k ho,IK o ho k,Lx k ho,K0 k ho,trivial⟩ func35 fun t c0 Z x h=>px h
def vE:Rw S:=aj Ez xn fun t Z=>aa k (H9 k t) (AX Z)
def UV:Fx S:=fp 33 [(14,PK k),(33,OA k),(34,PL (dJ k)),(35,Gg k)] [] k f20 0
theorem aFg (ho:ai o):Tl o 20 (vE k:Rw S):=ou (UV k) ⟨FK k ho,aaM k ho,IK o ho k,SG k ho,trivial⟩ func20 fun t Z x h=>px h
def OB:Rw S:=aj n1 xn fun t vars nP Z=>aa k (k2 k t vars nP) (da Z)
def UW:Fx S:=fp 28 [(25,Qg k),(26,GI (KW k))] [] k f54 0
theorem aaN (ho:ai o):Tl o 54 (OB k:Rw S):=ou (UW k) ⟨eX9 k ho,azl o ho k,trivial⟩ func54 fun t vars nP Z x h=>px h
def OD:Rw S:=aj adZ xn fun defs t Z=>aa k (cR k defs t) (SM Z)
def mK:Fx S:=fp 32 [(34,PL (dJ k)),(54,OB k)] [(4,⟨[(3,nM),(4,nM),(12,nM),(13,nM),(14,nM)],[(3,[nM,nM,nM,nM,nM,nM]),(4,[nM,nM,nM,ql 200259,ql 200260,ql 200261])]⟩,ap 5 11)] k f24 0
def Fv (t:Tm) (defs:List Df) (q:Int):St UU:=⟨[(3,(pt 3)),(4,(pt 4)),(12,(km defs .none)),(13,(iI defs.length)),(14,(iI q))],[(3,bT t),(4,.cells [(iI 0),(iI 0),zw,(.own 200259 0),(.own 200260 0),(.own 200261 0)])],[(200261,xP),(200260,zn),(200259,xW)],[(200261,.wr),(200260,.wr),(200259,.wr)]⟩
section
variable (k:Nat) (defs:List Df) (t:Tm) (Z:Out UU->Option S)
theorem Xn: ∀n q,(mK k).lp Z 4 [] n (Fv t defs q)=bM k (SM Z) t defs n q:=cF (cr k (SM Z) t defs)
end
theorem aaP (ho:ai o):Tl o 24 (OD k:Rw S):=ou (mK k) ⟨IK o ho k,aaN k ho,trivial⟩ func24 fun defs t Z x h=>o0 (b:=aAq k (SM Z) (fun q=>(mK k).lp Z 4 [] k (Fv t defs q)) defs t) (by kernel_rfl) (o0 (by simp only [Xn];rfl) (al h))
def OE:Rw S:=aj pW xn fun kind kids Z=>aa k (wq k kind kids) (aE Z)
def UY:Fx S:=fx 8 (fun _=>[]) (fun _=>false) [] [] k f140 true [] 0
theorem NC (ho:ai o):Tl o 140 (OE k:Rw S):=ou (UY k) trivial func140 fun kind kids Z x h=>px h
def OF:Rw S:=aj Lk xn fun sys Z=>aa k (bF k sys) (AY Z)
def UZ:Fx S:=fx 8 (fun _=>[]) (fun _=>false) [(140,OE k)] [] k f139 true [] 0
theorem aaR (ho:ai o):Tl o 139 (OF k:Rw S):=ou (UZ k) ⟨NC k ho,trivial⟩ func139 fun sys Z x h=>px h
def OG:Rw S:=aj Lt fh fun xw c0 Z=>aa k (iZ k xw c0) (cO Z)
def U0:Fx S:=fp 13 [] [] k f194 1
theorem R0 (ho:ai o):Tl o 194 (OG k:Rw S):=ou (U0 k) trivial func194 fun xw c0 Z x h=>px h
def OH:Rw S:=aj EW xn fun l Z=>aa k (m9 k l) (AZ Z)
def U1:Fx S:=fp 22 [(14,PK k),(194,OG k)] [(3,aS [3,8,9,10] [(7,1)],ap 5 11)] k f138 0
def aBI (l:List Tm) (q qk:Int):St UU:=⟨[(3,(pt 7)),(8,(sT l)),(9,(iI l.length)),(10,(iI qk))],[(7,bI q)],[],[]⟩
section
variable (k:Nat) (l:List Tm) (Z:Out UU->Option S)
theorem aDL: ∀n q qk,(U1 k).lp Z 3 [] n (aBI l q qk)=pY k (AZ Z) l n q qk:=aL (wL k (AZ Z) l)
end
theorem fL (ho:ai o):Tl o 138 (OH k:Rw S):=ou (U1 k) ⟨FK k ho,R0 k ho,trivial⟩ func138 fun l Z x h=>o0 (b:=Hs k (AZ Z) (fun q qk=>(U1 k).lp Z 3 [] k (aBI l q qk)) l) (by kernel_rfl) (o0 (by simp only [aDL];rfl) (al h))
def OI:Rw S:=aj EX fh fun c0 Z=>aa k (de k c0) (kT c0 Z)
def Co:Fx S:=fp 8 [] [] k f142 1
theorem RU (ho:ai o):Tl o 142 (OI k:Rw S):=ou (Co k) trivial func142 fun c0 Z x h=>px h
def Gi:Rw S:=aj ad0 fh fun t vars nP c0 Z=>aa k (Bx k t vars nP c0) (AQ Z)
def U2:Fx S:=fp 30 [(87,vO k),(142,OI k),(194,OG k)] [] k f141 1
theorem JW (ho:ai o):Tl o 141 (Gi k:Rw S):=ou (U2 k) ⟨ad k ho,RU k ho,R0 k ho,trivial⟩ func141 fun t vars nP c0 Z x h=>px h
def OJ:Rw S:=aj Ls fh fun t c0 Z=>aa k (eQ k t c0) (aie Z)
def U3:Fx S:=fp 28 [(14,PK k),(142,OI k),(194,OG k)] [] k f145 1
theorem zq (ho:ai o):Tl o 145 (OJ k:Rw S):=ou (U3 k) ⟨FK k ho,RU k ho,R0 k ho,trivial⟩ func145 fun t c0 Z x h=>px h
def OK:Rw S:=aj Lu fh fun f c0 Z=>aa k (tA k f c0) (s4 Z)
def Cp:Fx S:=fp 23 [(142,OI k),(160,PP k),(194,OG k)] [] k f143 1
theorem aaW (ho:ai o):Tl o 143 (OK k:Rw S):=ou (Cp k) ⟨RU k ho,jq k ho,R0 k ho,trivial⟩ func143 fun f c0 Z x h=>px h
def OL:Rw S:=aj adI u1 fun c0 c1 c2 Z=>aa k (yX k c0 c1 c2) (aCG c0 c1 c2 Z)
def U4:Fx S:=fp 10 [(148,PR (dk k))] [] k f149 3
theorem aaX (ho:ai o):Tl o 149 (OL k:Rw S):=ou (U4 k) ⟨u3 o ho k,trivial⟩ func149 fun c0 c1 c2 Z x h=>px h
def Gj:Rw S:=aj ad2 u1 fun t numbers c0 c1 c2 Z=>aa k (yZ k t numbers c0 c1 c2) (RT c0 c1 c2 Z)
def U5:Fx S:=⟨⟨30,(fun _=>[]),(fun _=>false),nM,fun|6=>true|7=>true|_=>false⟩,[(14,PK k),(149,OL k)],[(5,⟨[(2,nM),(6,nM),(7,nM),(17,nM),(18,nM),(19,nM)],[(1000000,[nM]),(1000001,[nM,nM,nM,nM,nM,nM]),(1000002,[nM]),(5000006,[nM,nM,nM,ql 320200387,ql 320200388,ql 320200389]),(5000007,[nM])]⟩,ap 5 11)],k,f146,false,[],3,some (o9 16 195 f195 k)⟩
def aBJ (c0:Int) (c1:Tm) (c2:Int) (numbers:List Int) (q:Int):St UU:=⟨[(2,(.func 149 [] [(pt 1000000),(pt 1000001),(pt 1000002)])),(6,(pt 5000006)),(7,(pt 5000007)),(17,(la numbers .none)),(18,(iI numbers.length)),(19,(iI q))],[(1000000,bI c0),(1000001,bT c1),(1000002,bI c2),(5000006,.cells [(iI 0),(iI 0),zw,(.own 320200387 0),(.own 320200388 0),(.own 320200389 0)]),(5000007,bI 0)],[(320200389,xP),(320200388,zn),(320200387,xW)],[(320200389,.wr),(320200388,.wr),(320200387,.wr)]⟩
section
variable (k:Nat) (t:Tm) (numbers:List Int) (c0:Int) (c1:Tm) (c2:Int) (Z:Out UU->Option S)
theorem aDM: ∀n q,(U5 k).lp Z 5 [] n (aBJ c0 c1 c2 numbers q)=nC k (RT c0 c1 c2 Z) c0 c1 c2 numbers n q:=cF (xa k (RT c0 c1 c2 Z) c0 c1 c2 numbers)
end
theorem JX (ho:ai o):Tl o 146 (Gj k:Rw S):=BZ (U5 k) rfl (yn o func195 (by kernel_rfl)) ⟨FK k ho,aaX k ho,trivial⟩ func146 (by kernel_rfl) fun t numbers c0 c1 c2 Z x h=>o0 (b:=BQ k (RT c0 c1 c2 Z) (fun q=>(U5 k).lp Z 5 [] k (aBJ c0 c1 c2 numbers q)) t numbers c0 c1 c2) (by kernel_rfl) (o0 (by simp only [aDM];rfl) (al h))
def Gk:Rw S:=aj n1 xn fun t ow qu Z=>aa k (lv k t ow qu) (BC Z)
def rV:Fx S:=fp 16 [(146,Gj k)] [] k f85 0
theorem JY (ho:ai o):Tl o 85 (Gk k:Rw S):=ou (rV k) ⟨JX k ho,trivial⟩ func85 fun t ow qu Z x h=>px h
def ON:Rw S:=aj Lr fh fun line qT c0 Z=>aa k (lr k line qT c0) (AQ Z)
def U6:Fx S:=fp 44 [(85,Gk k),(129,Oo k),(142,OI k),(194,OG k)] [] k f144 1
theorem aaZ (ho:ai o):Tl o 144 (ON k:Rw S):=ou (U6 k) ⟨JY k ho,x7 k ho,RU k ho,R0 k ho,trivial⟩ func144 fun line qT c0 Z x h=>px h
def OO:Rw S:=aj aBy xn fun t a sys Z=>aa k (yy k t a sys) (BC Z)
def U7:Fx S:=fp 76 [(138,OH k),(139,OF k),(140,OE k),(141,Gi k),(142,OI k),(143,OK k),(144,ON k),(145,OJ k)] [(4,⟨[(4,nM),(6,nM),(8,nM),(9,nM),(27,nM),(28,nM),(29,nM)],[(4,[nM,nM,nM,nM,nM,nM]),(6,[nM,nM,nM,ql 200387,ql 200388,ql 200389]),(9,[nM,nM,nM,ql 200579,nM,ql 200581]),(19000,[nM])]⟩,ap 6 23)] k f83 0
def aBK (a:Tm) (r5:Int×Int×ByteArray×List Tm) (sys:List (Br Tm)) (x:Int) (q:List (Br Tm)) (z:Int):St UU:=⟨[(4,(pt 4)),(6,(pt 6)),(8,(pt 19000)),(9,(pt 9)),(27,(sB sys)),(28,(iI sys.length)),(29,(iI z))],[(4,bT a),(6,.cells [(iI 0),(iI 0),zw,(.own 200387 0),(.own 200388 0),(.own 200389 0)]),(9,.cells [(iI r5.1),(iI r5.2.1),(.str r5.2.2.1),(.own 200579 0),(sT r5.2.2.2),(.own 200581 0)]),(19000,bI x)],[(200581,⟨0,ET.B,q⟩),(200579,xW),(200389,xP),(200388,zn),(200387,xW)],[(200581,.wr),(200579,.wr),(200389,.wr),(200388,.wr),(200387,.wr)]⟩
section
variable (k:Nat) (t a:Tm) (sys:List (Br Tm)) (Z:Out UU->Option S)
theorem aDN (r5): ∀n x q z,(U7 k).lp Z 4 [] n (aBK a r5 sys x q z)=gM k (BC Z) a r5 sys n x q z:=EG (oQ k (BC Z) a r5 sys)
end
theorem aa0 (ho:ai o):Tl o 83 (OO k:Rw S):=ou (U7 k) ⟨fL k ho,aaR k ho,NC k ho,JW k ho,RU k ho,aaW k ho,aaZ k ho,zq k ho,trivial⟩ func83 fun t a sys Z x h=>o0 (b:=Hr k (BC Z) (fun B z q A=>(U7 k).lp Z 4 [] k (aBK a B sys z q A)) t a sys) (by kernel_rfl) (o0 (by simp only [aDN];rfl) (al h))
def OP:Rw S:=aj ad4 fh fun t a sys c0 Z=>aa k (y_ k t a sys c0) (AQ Z)
def U8:Fx S:=fp 21 [(81,P0 k),(82,IJ k),(83,OO k)] [] k f36 1
theorem aa1 (ho:ai o):Tl o 36 (OP k:Rw S):=ou (U8 k) ⟨Lx k ho,K0 k ho,aa0 k ho,trivial⟩ func36 fun t a sys c0 Z x h=>px h
def OQ:Rw S:=aj adI u1 fun c0 c1 c2 Z=>aa k (yY k c0 c1 c2) (aCG c0 c1 c2 Z)
def U9:Fx S:=fp 10 [(148,PR (dk k))] [] k f147 3
theorem aa2 (ho:ai o):Tl o 147 (OQ k:Rw S):=ou (U9 k) ⟨u3 o ho k,trivial⟩ func147 fun c0 c1 c2 Z x h=>px h
def OR:Rw S:=aj ad5 u1 fun t numbers c0 c1 c2 Z=>aa k (q5 k t numbers c0 c1 c2) (RT c0 c1 c2 Z)
def U_:Fx S:=⟨⟨30,(fun _=>[]),(fun _=>false),nM,fun|6=>true|7=>true|_=>false⟩,[(14,PK k),(147,OQ k)],[(5,⟨[(2,nM),(6,nM),(7,nM),(17,nM),(18,nM),(19,nM)],[(1000000,[nM]),(1000001,[nM,nM,nM,nM,nM,nM]),(1000002,[nM]),(5000006,[nM,nM,nM,ql 320200387,ql 320200388,ql 320200389]),(5000007,[nM])]⟩,ap 5 11)],k,f146,false,[],3,some (o9 16 195 f195 k)⟩
def aBL (c0:Int) (c1:Tm) (c2:Int) (numbers:List Int) (q:Int):St UU:=⟨[(2,(.func 147 [] [(pt 1000000),(pt 1000001),(pt 1000002)])),(6,(pt 5000006)),(7,(pt 5000007)),(17,(la numbers .none)),(18,(iI numbers.length)),(19,(iI q))],[(1000000,bI c0),(1000001,bT c1),(1000002,bI c2),(5000006,.cells [(iI 0),(iI 0),zw,(.own 320200387 0),(.own 320200388 0),(.own 320200389 0)]),(5000007,bI 0)],[(320200389,xP),(320200388,zn),(320200387,xW)],[(320200389,.wr),(320200388,.wr),(320200387,.wr)]⟩
section
variable (k:Nat) (t:Tm) (numbers:List Int) (c0:Int) (c1:Tm) (c2:Int) (Z:Out UU->Option S)
theorem aDO: ∀n q,(U_ k).lp Z 5 [] n (aBL c0 c1 c2 numbers q)=nD k (RT c0 c1 c2 Z) c0 c1 c2 numbers n q:=cF (xb k (RT c0 c1 c2 Z) c0 c1 c2 numbers)
end
theorem aa3 (ho:ai o):Tl o 146 (OR k:Rw S):=BZ (U_ k) rfl (yn o func195 (by kernel_rfl)) ⟨FK k ho,aa2 k ho,trivial⟩ func146 (by kernel_rfl) fun t numbers c0 c1 c2 Z x h=>o0 (b:=BR k (RT c0 c1 c2 Z) (fun q=>(U_ k).lp Z 5 [] k (aBL c0 c1 c2 numbers q)) t numbers c0 c1 c2) (by kernel_rfl) (o0 (by simp only [aDO];rfl) (al h))
def aCQ:Rw S:=aj n1 xn fun t ow qu Z=>aa k (G0 k t ow qu) (BC Z)
def Va:Fx S:=fp 18 [(146,OR k)] [] k f84 0
theorem aa4 (ho:ai o):Tl o 84 (aCQ k:Rw S):=ou (Va k) ⟨aa3 k ho,trivial⟩ func84 fun t ow qu Z x h=>px h
def OT:Rw S:=aj ad0 fh fun t vars nP c0 Z=>aa k (Sf k t vars nP c0) (AQ Z)
def Cq:Fx S:=fp 32 [(81,P0 k),(82,IJ k),(84,aCQ k),(85,Gk k)] [] k f37 1
theorem aa5 (ho:ai o):Tl o 37 (OT k:Rw S):=ou (Cq k) ⟨Lx k ho,K0 k ho,aa4 k ho,JY k ho,trivial⟩ func37 fun t vars nP c0 Z x h=>px h
def A3:Rw S:=aj ad0 fh fun t vars nP c0 Z=>aa k (zb k t vars nP c0) (AQ Z)
def Cr:Fx S:=fp 21 [(81,P0 k),(82,IJ k),(87,vO k)] [] k f40 1
theorem D_ (ho:ai o):Tl o 40 (A3 k:Rw S):=ou (Cr k) ⟨Lx k ho,K0 k ho,ad k ho,trivial⟩ func40 fun t vars nP c0 Z x h=>px h
def vF:Rw S:=aj ad6 aJv fun p qu sO c0 c1 c3 Z=>aa k (nc k p qu sO c0 c1 c3) (A0 c0 c1 Z)
def Ct:Fx S:=fx 42 (fun _=>[]) (fun _=>false) [(40,A3 k),(41,Ot k)] [(3,⟨[(1,nM),(3,nM),(5,nM),(8,nM),(9,nM),(10,some (100010,false)),(18,nM),(19,nM),(20,nM)],[(8,[nM,nM,nM,nM,nM,nM]),(9,[nM,nM,nM,ql 200579,ql 200580,ql 200581]),(1000000,[nM,nM,nM,nM,nM,nM]),(1000001,[nM]),(1000002,[nM]),(1000003,[nM])]⟩,ap 5 11)] k f39 true [] 4
def Me (c0:Tm) (c1:Int) (sO:Tm) (qu:Int) (x:Int) (q:List Tm) (xo:Int):St UU:=⟨[(1,(iI qu)),(3,(pt 1000000)),(5,(pt 1000002)),(8,(pt 8)),(9,(pt 9)),(10,(.own 100010 0)),(18,(dO (List.drop (zm 1) (List.take (zm c1) c0.c)) .none)),(19,(.int .i64 ((List.drop (zm 1) (List.take (zm c1) c0.c)).length:Int))),(20,(iI xo))],[(8,bT sO),(9,.cells [(iI 0),(iI 0),zw,(.own 200579 0),(.own 200580 0),(.own 200581 0)]),(1000000,bT c0),(1000001,bI c1),(1000002,.cells [(pt 1000003)]),(1000003,bI x)],[(200581,xP),(200580,zn),(200579,xW),(100010,⟨0,ET.T,q⟩)],[(200581,.wr),(200580,.wr),(200579,.wr),(100010,.app)]⟩
section
variable (k:Nat) (p:Tm) (qu:Int) (sO c0:Tm) (c1 c3:Int) (Z:Out UU->Option S)
theorem Xy: ∀n x q xo,(Ct k).lp Z 3 [] n (Me c0 c1 sO qu x q xo)=Nd k (A0 c0 c1 Z) c0 c1 sO qu n x q xo:=EG (jd k (A0 c0 c1 Z) c0 c1 sO qu)
end
theorem aFh (ho:ai o):Tl o 39 (vF k:Rw S):=ou (Ct k) ⟨D_ k ho,Dj k ho,trivial⟩ func39 fun p qu sO c0 c1 c3 Z x h=>o0 (b:=BP k (A0 c0 c1 Z) (fun z q xo=>(Ct k).lp Z 3 [] k (Me c0 c1 sO qu z q xo)) p qu sO c0 c1 c3) (by kernel_rfl) (o0 (by simp only [Xy];rfl) (al h))
def OV:Rw S:=aj Lv xn fun f kids Z=>aa k (wi k f kids) (aii Z)
def Cu:Fx S:=fp 8 [] [] k f42 0
theorem H7 (ho:ai o):Tl o 42 (OV k:Rw S):=ou (Cu k) trivial func42 fun f kids Z x h=>px h
def OW:Rw S:=aj Ls fh fun line c0 Z=>aa k (yz k line c0) (AQ Z)
def Vc:Fx S:=fp 25 [(129,Oo k),(130,Bg k),(142,OI k),(194,OG k)] [] k f156 1
theorem aa8 (ho:ai o):Tl o 156 (OW k:Rw S):=ou (Vc k) ⟨x7 k ho,Em k ho,RU k ho,R0 k ho,trivial⟩ func156 fun line c0 Z x h=>px h
def Gl:Rw S:=aj aBy xn fun line a sys Z=>aa k (yx k line a sys) (BC Z)
def mL:Fx S:=fp 78 [(34,PL (dJ k)),(138,OH k),(139,OF k),(140,OE k),(142,OI k),(144,ON k),(145,OJ k),(156,OW k)] [(5,⟨[(3,nM),(6,nM),(8,nM),(9,nM),(36,nM),(37,nM),(38,nM)],[(3,[nM,nM,nM,nM,nM,nM]),(6,[nM,nM,nM,ql 200387,ql 200388,ql 200389]),(9,[nM,nM,nM,ql 200579,nM,ql 200581]),(19000,[nM])]⟩,ap 7 47)] k f88 0
def Fw (r3:Tm) (r9:Int×Int×ByteArray×List Tm) (r6:Tm) (x:Int) (q:List (Br Tm)) (KN:Int):St UU:=⟨[(3,(pt 3)),(6,(pt 6)),(8,(pt 19000)),(9,(pt 9)),(36,(sB r6.s)),(37,(iI r6.s.length)),(38,(iI KN))],[(3,bT r3),(6,.cells [(iI 0),(iI 0),zw,(.own 200387 0),(.own 200388 0),(.own 200389 0)]),(9,.cells [(iI r9.1),(iI r9.2.1),(.str r9.2.2.1),(.own 200579 0),(sT r9.2.2.2),(.own 200581 0)]),(19000,bI x)],[(200581,⟨0,ET.B,q⟩),(200579,xW),(200389,xP),(200388,zn),(200387,xW)],[(200581,.wr),(200579,.wr),(200389,.wr),(200388,.wr),(200387,.wr)]⟩
section
variable (k:Nat) (line a:Tm) (sys:List (Br Tm)) (Z:Out UU->Option S)
theorem XA (r3 r9 r6): ∀n x q KN,(mL k).lp Z 5 [] n (Fw r3 r9 r6 x q KN)=ko k (BC Z) r3 r9 r6 n x q KN:=EG (oP k (BC Z) r3 r9 r6)
end
theorem aFi (ho:ai o):Tl o 88 (Gl k:Rw S):=ou (mL k) ⟨IK o ho k,fL k ho,aaR k ho,NC k ho,RU k ho,aaZ k ho,zq k ho,aa8 k ho,trivial⟩ func88 fun line a sys Z x h=>o0 (b:=Hq k (BC Z) (fun A B E z q KN=>(mL k).lp Z 5 [] k (Fw A B E z q KN)) line a sys) (by kernel_rfl) (o0 (by simp only [XA];rfl) (al h))
def A4:Rw S:=aj ad4 fh fun line a sys c0 Z=>aa k (y9 k line a sys c0) (AQ Z)
def mN:Fx S:=fp 21 [(81,P0 k),(82,IJ k),(88,Gl k)] [] k f43 1
theorem hg (ho:ai o):Tl o 43 (A4 k:Rw S):=ou (mN k) ⟨Lx k ho,K0 k ho,aFi k ho,trivial⟩ func43 fun line a sys c0 Z x h=>px h
def A5:Rw S:=aj Ez xn fun t Z=>aa k (tL k t) (AX Z)
def mO:Fx S:=fp 119 [(14,PK k),(34,PL (dJ k)),(35,Gg k),(36,OP k),(37,OT k),(38,P1 k),(39,vF k),(42,OV k),(43,A4 k)] [(1000007,⟨[(1,nM),(2,nM),(6,nM)],[(1,[nM,nM,nM,nM,nM,nM]),(2,[nM,nM,nM,ql 200131,ql 200132,ql 200133]),(6,[nM])]⟩,ap 4 15),(17,⟨[(2,nM),(8,nM),(10,nM),(11,nM),(12,nM),(13,nM),(14,ql 100014),(88,nM),(89,nM),(90,nM)],[(1,[nM,nM,nM,nM,nM,nM]),(2,[nM,nM,nM,ql 200131,ql 200132,ql 200133]),(6,[nM]),(8,[nM]),(10,[nM,nM,nM,nM,nM,nM]),(11,[nM,nM,nM,nM,nM,nM]),(13,[nM,nM,nM,ql 200835,nM,ql 200837]),(53,[nM])]⟩,ap 16 24575)] k f21 0
def Fz (t:Tm):St UU:=⟨[(1,(pt 1)),(2,(pt 2)),(6,(pt 6))],[(1,bT t),(2,.cells [(iI 0),(iI 0),zw,(.own 200131 0),(.own 200132 0),(.own 200133 0)]),(6,.cells [(.int .i64 (oa .i64 ((t.c.length:Int)-1)))])],[(200133,xP),(200132,zn),(200131,xW)],[(200133,.wr),(200132,.wr),(200131,.wr)]⟩
def anJ (r3:Tm) (r9 An:Tm×Int) (r13:Int×Int×ByteArray×List Tm×Int) (t x4:Tm) (x:Int) (q:List (Br Tm)) (xk:Int):St UU:=⟨[(2,(pt 2)),(8,(pt 8)),(10,(pt 10)),(11,(pt 11)),(12,(.func 39 [] [(pt 1),(pt 6),(pt 8)])),(13,(pt 13)),(14,(.own 100014 0)),(88,(sB x4.s)),(89,(iI x4.s.length)),(90,(iI xk))],[(1,bT r3),(2,.cells [(iI 0),(iI 0),zw,(.own 200131 0),(.own 200132 0),(.own 200133 0)]),(6,.cells [(.int .i64 (oa .i64 ((t.c.length:Int)-1)))]),(8,.cells [(pt 53)]),(10,bT r9.1),(11,bT An.1),(13,.cells [(iI r13.1),(iI r13.2.1),(.str r13.2.2.1),(.own 200835 0),(sT r13.2.2.2.1),(.own 200837 0)]),(53,bI x)],[(200837,xP),(200835,xW),(200133,xP),(200132,zn),(200131,xW),(100014,⟨0,ET.B,q⟩)],[(200837,.wr),(200835,.wr),(200133,.wr),(200132,.wr),(200131,.wr),(100014,.wr)]⟩
section
variable (k:Nat) (t:Tm) (Z:Out UU->Option S)
theorem XH (r3 r9 An r13 x4): ∀n x q xk,(mO k).lp Z 17 [] n (anJ r3 r9 An r13 t x4 x q xk)=fX k (AX Z) r3 r9 An r13 t x4 n x q xk:=EG (oR k (AX Z) r3 r9 An r13 t x4)
theorem XG: ∀n,(mO k).jn Z 1000007 [] n (Fz t)=l6 k (AX Z) t n:=gL (w_ k (AX Z) t (fun B E x r13 x4 z q A=>fX k (AX Z) B E x r13 t x4 k z q A)) rfl (fun _=>rfl) (o0 (b:=w_ k (AX Z) t (fun B E x r13 x4 z q A=>(mO k).lp Z 17 [] k (anJ B E x r13 t x4 z q A))) (by kernel_rfl) (by simp only [XH]))
end
theorem aFj (ho:ai o):Tl o 21 (A5 k:Rw S):=ou (mO k) ⟨FK k ho,IK o ho k,SG k ho,aa1 k ho,aa5 k ho,s6 k ho,aFh k ho,H7 k ho,hg k ho,trivial⟩ func21 fun t Z x h=>o0 (b:=HU k (AX Z) ((mO k).jn Z 1000007 [] k (Fz t)) t) (by kernel_rfl) (o0 (by simp only [XG];rfl) (al h))
def OX:Rw S:=aj Mw xn fun qm Z=>aa k (Ns k qm) (aCH Z)
def aOc:Fx S:=fx 5 (fun _=>[]) (fun _=>false) [] [] k f63 true [] 0
theorem r8 (ho:ai o):Tl o 63 (OX k:Rw S):=ou (aOc k) trivial func63 fun qm Z x h=>px h
def Gm:Rw S:=aj adD xn fun l Z=>aa k (sb k l) (da Z)
def Ve:Fx S:=fp 15 [(125,PG k)] [(2,aS [5,6,7] [],ap 4 5)] k f135 0
def aBM (l:List (List Cl)) (q:Int):St UU:=⟨[(5,(Hm l .none)),(6,(iI l.length)),(7,(iI q))],[],[],[]⟩
section
variable (k:Nat) (l:List (List Cl)) (Z:Out UU->Option S)
theorem aDP: ∀n q,(Ve k).lp Z 2 [] n (aBM l q)=ix k (da Z) l n q:=cF (o7 k (da Z) l)
end
theorem JZ (ho:ai o):Tl o 135 (Gm k:Rw S):=ou (Ve k) ⟨x9 k ho,trivial⟩ func135 fun l Z x h=>o0 (b:=az8 k (da Z) (fun q=>(Ve k).lp Z 2 [] k (aBM l q)) l) (by kernel_rfl) (o0 (by simp only [aDP];rfl) (al h))
def OY:Rw S:=aj jk xn fun f g Z=>aa k (hL k f g) (ua Z)
def Vf:Fx S:=fp 19 [(135,Gm k),(183,GS k)] [] k f131 0
theorem aa_ (ho:ai o):Tl o 131 (OY k:Rw S):=ou (Vf k) ⟨JZ k ho,Kx k ho,trivial⟩ func131 fun f g Z x h=>px h
def OZ:Rw S:=aj ad8 fh fun f g c0 Z=>aa k (RI k f g c0) (s4 Z)
def rW:Fx S:=fp 26 [(131,OY k),(142,OI k),(194,OG k)] [] k f232 1
theorem aba (ho:ai o):Tl o 232 (OZ k:Rw S):=ou (rW k) ⟨aa_ k ho,RU k ho,R0 k ho,trivial⟩ func232 fun f g c0 Z x h=>px h
def A6:Rw S:=aj ad9 xn fun line nX a Ip qT Z=>aa k (L2 k line nX a Ip qT) (BC Z)
def Cv:Fx S:=fp 49 [(125,PG k),(138,OH k),(140,OE k),(141,Gi k),(143,OK k),(144,ON k),(145,OJ k),(194,OG k),(232,OZ k)] [] k f200 0
theorem Ea (ho:ai o):Tl o 200 (A6 k:Rw S):=ou (Cv k) ⟨x9 k ho,fL k ho,NC k ho,JW k ho,aaW k ho,aaZ k ho,zq k ho,R0 k ho,aba k ho,trivial⟩ func200 fun line nX a Ip qT Z x h=>px h
def O0:Rw S:=aj ad_ xn fun line nX a Z=>aa k (e3 k line nX a) (BC Z)
def Vh:Fx S:=fp 18 [(200,A6 k)] [] k f157 0
theorem abb (ho:ai o):Tl o 157 (O0 k:Rw S):=ou (Vh k) ⟨Ea k ho,trivial⟩ func157 fun line nX a Z x h=>px h
def Gp:Rw S:=aj aea fh fun line nX a c0 Z=>aa k (k4 k line nX a c0) (AQ Z)
def Vi:Fx S:=fp 21 [(81,P0 k),(82,IJ k),(157,O0 k)] [] k f89 1
theorem J8 (ho:ai o):Tl o 89 (Gp k:Rw S):=ou (Vi k) ⟨Lx k ho,K0 k ho,abb k ho,trivial⟩ func89 fun line nX a c0 Z x h=>px h
def aHE:Rw S:=aj je fe fun line a nV nN oI oE oV oT oU nU Z=>aa k (Nk k line a nV nN oI oE oV oT oU nU) (aM nV nN oI oE oV oT oU nU Z)
def O1:Rw S:=aj je fe fun line a nV nN oI oE oV oT oU nU Z=>aa k (Nk k line a nV nN oI oE oV oT oU nU) (vC Z)
def Vj:Fx S:=fx 15 (fun _=>[]) (fun _=>false) [(66,Oy k)] [] k f90 true [] 1
theorem aFk (ho:ai o):Tl o 90 (aHE k:Rw S):=ou (Vj k) ⟨M6 k ho,trivial⟩ func90 fun line a nV nN oI oE oV oT oU nU Z x h=>px h
theorem abc (ho:ai o):Tl o 90 (O1 k:Rw S):=tlS (aFk k ho) fun line a nV nN oI oE oV oT oU nU Z x h=>o0 (b:=aa k (Nk k line a nV nN oI oE oV oT oU nU) (aM nV nN oI oE oV oT oU nU (DB _ Z))) (by kernel_rfl) (o0 (congrArg (aa k (Nk k line a nV nN oI oE oV oT oU nU)) (funext fun r=>if_pos rfl)) h)
def O2:Rw S:=aj Ls fe fun l nV nN oI oE oV oT oU nU Z=>aa k (rv k l nV nN oI oE oV oT oU nU) (azN nN oI oE oV oT oU nU Z)
def Cw:Fx S:=fx 59 (fun _=>[]) (fun _=>false) [(37,OT k),(38,P1 k),(40,A3 k),(41,Ot k),(63,OX k),(64,jx k),(89,Gp k),(90,O1 k)] [] k f44 true [] 1
theorem abd (ho:ai o):Tl o 44 (O2 k:Rw S):=ou (Cw k) ⟨aa5 k ho,s6 k ho,D_ k ho,Dj k ho,r8 k ho,j8 k ho,J8 k ho,abc k ho,trivial⟩ func44 fun l nV nN oI oE oV oT oU nU Z x h=>px h
def O3:Rw S:=aj ad_ xn fun line nX a Z=>aa k (dx k line nX a) (BC Z)
def Vk:Fx S:=fp 17 [(200,A6 k)] [] k f158 0
theorem abe (ho:ai o):Tl o 158 (O3 k:Rw S):=ou (Vk k) ⟨Ea k ho,trivial⟩ func158 fun line nX a Z x h=>px h
def am9:Rw S:=aj aea fh fun line nX a c0 Z=>aa k (j2 k line nX a c0) (AQ Z)
def mP:Fx S:=fp 21 [(81,P0 k),(82,IJ k),(158,O3 k)] [] k f91 1
theorem nn (ho:ai o):Tl o 91 (am9 k:Rw S):=ou (mP k) ⟨Lx k ho,K0 k ho,abe k ho,trivial⟩ func91 fun line nX a c0 Z x h=>px h
def amL:Rw S:=aj Ls fe fun l nV nN oI oE oV oT oU nU Z=>aa k (xo k l nV nN oI oE oV oT oU nU) (azN nN oI oE oV oT oU nU Z)
def Vl:Fx S:=fx 52 (fun _=>[]) (fun _=>false) [(38,P1 k),(41,Ot k),(90,O1 k),(91,am9 k)] [] k f45 true [] 1
theorem amQ (ho:ai o):Tl o 45 (amL k:Rw S):=ou (Vl k) ⟨s6 k ho,Dj k ho,abc k ho,nn k ho,trivial⟩ func45 fun l nV nN oI oE oV oT oU nU Z x h=>px h
def am_:Rw S:=aj Ez xn fun t Z=>aa k (c5 k t) (BC Z)
def Vm:Fx S:=fp 21 [(85,Gk k),(129,Oo k)] [] k f159 0
theorem np (ho:ai o):Tl o 159 (am_ k:Rw S):=ou (Vm k) ⟨JY k ho,x7 k ho,trivial⟩ func159 fun t Z x h=>px h
end
end
end Go.Proofs.YtfffkmcpnggkdaaGreatDoor
