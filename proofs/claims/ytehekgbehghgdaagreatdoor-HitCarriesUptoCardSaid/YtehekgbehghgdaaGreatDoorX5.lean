/- What is carried along a line of suspensions: the statement. -/
import Derived.Test.YtehekgbehghgdaaGreatDoorX4
import Derived.KernelRfl
namespace Go.Proofs.YtehekgbehghgdaaGreatDoor
open Go PI
set_option linter.unusedVariables false
set_option linter.unusedSimpArgs false
set_option maxRecDepth 20000
variable {S:Type} {k:Nat}
theorem HG (kd:Int):(kd<0∨kd>28)∨(∃n:Nat,n<29∧kd=n):=by
 by_cases h:kd<0∨kd>28
 ·omega
 ·exact .inr ⟨kd.toNat,by omega,by omega⟩
theorem adE (kd:Int) (ret:Int→Option S):vG k kd ret=ret (dL kd):=by
 simp only [vG,Pq]
 rcases HG kd with h|⟨n,hn,rfl⟩
 ·simp only [b9,beq_iff_eq]
  unfold dL
  rw [if_pos h]
  repeat rw [if_neg (by omega)]
 ·unfold dL
  rw [if_neg (by omega),Int.toNat_natCast]
  match n,hn with
  |0,_=>rfl
  |1,_=>rfl
  |2,_=>rfl
  |3,_=>rfl
  |4,_=>rfl
  |5,_=>rfl
  |6,_=>rfl
  |7,_=>rfl
  |8,_=>rfl
  |9,_=>rfl
  |10,_=>rfl
  |11,_=>rfl
  |12,_=>rfl
  |13,_=>rfl
  |14,_=>rfl
  |15,_=>rfl
  |16,_=>rfl
  |17,_=>rfl
  |18,_=>rfl
  |19,_=>rfl
  |20,_=>rfl
  |21,_=>rfl
  |22,_=>rfl
  |23,_=>rfl
  |24,_=>rfl
  |25,_=>rfl
  |26,_=>rfl
  |27,_=>rfl
  |28,_=>rfl
  |n+29,h=>omega
theorem aex (kd:Int) (ret:Int→Option S):qA k kd ret=ret (dL kd):=by
 simp only [qA,O4,aO]
 unfold dL
 rcases HG kd with h|⟨n,hn,rfl⟩
 ·grind
 ·rw [if_neg (by omega),if_neg (by omega),if_neg (by omega),uG (by omega),qY,Int.toNat_natCast]
  simp_all [kidsT]
theorem oJ (kd i:Int) (ret:Int×Int→Option S):fj k kd i ret=ret (dy kd i,bJ kd i):=by
 simp only [fj,Po,b9,beq_iff_eq]
 grind [dy,bJ]
theorem Dl (hk:Fu k) (kd i:Int) (ret:Int×Int→Option S):mT k kd i ret=ret (dy kd i,bJ kd i):=by
 obtain ⟨q,rfl⟩: ∃q,k=q+1:=⟨k-1,by omega⟩
 simp only [mT,Eu,BA,ue,wC,zF,b9,beq_iff_eq]
 grind [dy,bJ]
theorem M0 (kd:Int) (ret:Int→Option S):jI k kd ret=ret (b7 kd):=by
 grind [jI,Pr,b9,b7]
theorem Nr (kd:Int) (ret:Int→Option S):mW k kd ret=ret (b7 kd):=by
 grind [mW,O6,b9,b7]
theorem Dp (kd:Int) (ret:Int→Option S):mV k kd ret=ret (aw kd):=by
 grind [mV,O5,b9,aw]
theorem Ft (s t:ByteArray):(s==t)=decide (s=t):=by
 obtain ⟨a⟩:=s;obtain ⟨b⟩:=t
 show (a==b)=_
 grind
theorem Ca (s:ByteArray):(s==ByteArray.empty)=decide (s.size=0):=by
 simp_all [Ft]
theorem oO (s:ByteArray):(s.size:Int)=(s.data.toList.length:Int):=by
 rfl
def gU (p:List UInt8) (r:List UInt8):Bool:=match p with
 |[]=>lU r
 |_::_=>r.all fun d=>jd d||m6 d
theorem JC (p:List UInt8) (x:UInt8) (r:List UInt8):gU p (x::r)=((jd x||(decide (p≠[])&&m6 x))&&gU (p++[x]) r):=by
 cases p<;>grind [gU,lU]
theorem JD {p:List UInt8}:gU p []=decide (p.length≠0):=by
 cases p with
 |nil=>rfl
 |cons c l=>rfl
theorem aal (hk:Fu k) (ret:Bool→Option S) {s:ByteArray} (hs:s.size<2147483648):
  ∀ (r p:List UInt8) (m:Nat),s.data.toList=p++r→r.length<m→lQ k ret s m (p.length:Int)=ret (gU p r):=by
 obtain ⟨q,rfl⟩: ∃q,k=q+1:=⟨k-1,by omega⟩
 have hs':s.data.toList.length<2147483648:=by simp_all
 intro r
 induction r with
 |nil=>
  grind [al,lQ,p5,oO,ad,Ca,JD]
 |cons x r ih=>
  intro p m h hm
  obtain ⟨m,rfl,hm'⟩:=al hm
  obtain ⟨e1,e2,e3,e4⟩:=ay h (by omega)
  have hi:=ih (p++[x]) m e4 hm'
  rw [JC]
  simp only [lQ,p5,oO,e1,ai,e2,Option.bind_some,aO,wH,zL,e3,hi]
  have hl: ∀b:Bool,b=jd x→ab (!b) (ab (((p.length:Nat):Int)==0) (ret false) (if ((x.toNat:Nat):Int)<48 then ret false else if ((x.toNat:Nat):Int)>57 then ret false else ret (gU (p++[x]) r))) (ret (gU (p++[x]) r))=ret ((jd x||(decide (p≠[])&&m6 x))&&gU (p++[x]) r):=by
   grind [b9,List.length_pos_iff,m6]
  grind [jd]
theorem ad_ (hk:Fu k) {s:ByteArray} (hs:s.size<2147483648) (ret:Bool→Option S):vI k s ret=ret (lU s.data.toList):=by
 simp only [vI,ES]
 have:=aal hk ret hs s.data.toList [] k rfl (by grind [oO])
 exact this
theorem aaT (hk:Fu k) (ret:Bool→Option S) {s:ByteArray} (hs:s.size<2147483648):
  ∀ (r p:List UInt8) (m:Nat),s.data.toList=p++r→r.length<m→lM k ret s m (p.length:Int)=ret (gU p r):=by
 obtain ⟨q,rfl⟩: ∃q,k=q+1:=⟨k-1,by omega⟩
 have hs':s.data.toList.length<2147483648:=by simp_all
 intro r
 induction r with
 |nil=>
  intro p m h hm
  obtain ⟨m,rfl,hm'⟩:=al hm
  simp only [lM,pO,oO,cv h,ad,JD]
  rw [h,List.append_nil]
  congr 1
  grind
 |cons x r ih=>
  intro p m h hm
  obtain ⟨m,rfl,hm'⟩:=al hm
  obtain ⟨e1,e2,e3,e4⟩:=ay h (by omega)
  have hi:=ih (p++[x]) m e4 hm'
  rw [JC]
  have hb: ∀n:Nat,(((n:Nat):Int)==95)=decide (n=95):=fun n=>by
   grind
  simp only [lM,pO,oO,e1,ai,e2,Option.bind_some,aO,wD,zG,e3,hi,hb]
  have hlt:jd x=(decide (97≤x.toNat)&&decide (x.toNat≤122)||decide (65≤x.toNat)&&decide (x.toNat≤90)||decide (x.toNat=95)):=rfl
  have hdt:m6 x=(decide (48≤x.toNat)&&decide (x.toNat≤57)):=rfl
  generalize gU (p++[x]) r=z
  have hj:(ab (!decide (x.toNat=95)) (if ((x.toNat:Nat):Int)<97 then if ((x.toNat:Nat):Int)<65 then ret false else if ((x.toNat:Nat):Int)>90 then ret false else ret z
    else if ((x.toNat:Nat):Int)>122 then if ((x.toNat:Nat):Int)<65 then ret false else if ((x.toNat:Nat):Int)>90 then ret false else ret z else ret z) (ret z))=ret (jd x&&z):=by
   grind [ad,decide_eq_false,ai]
  grind [List.length_pos_iff]
theorem aeE (hk:Fu k) {s:ByteArray} (hs:s.size<2147483648) (ret:Bool→Option S):vt k s ret=ret (lU s.data.toList):=by
 simp only [vt,EC]
 have:=aaT hk ret hs s.data.toList [] k rfl (by grind [oO])
 exact this
end Go.Proofs.YtehekgbehghgdaaGreatDoor
namespace Go.Proofs.YtehekgbehghgdaaGreatDoor
open Go PI
set_option linter.unusedVariables false
set_option linter.unusedSimpArgs false
set_option maxRecDepth 20000
variable {S:Type} {k:Nat}
theorem oh (n:Nat):(((n:Nat):Int)==0)=decide (n=0):=by grind
theorem aap (hk:Fu k) (ret:Bool→Option S) {t:Tm} {dims:Int} (hd:0≤dims) (hd':dims<9223372036854775808) (hs: ∀b∈t.sys,am b.face∧b.face.length<1073741824) (hlen:t.sys.length<1073741824):
  ∀ (r p:List (Br Tm)) (m:Nat),t.sys=p++r→r.length<m→jc k ret t dims m (p.length:Int)=ret (r.all (bZ t.kind dims)&&decide (t.r.length=0)):=by
 intro r
 induction r with
 |nil=>
  grind [al,jc,uA,ad,oh]
 |cons x r ih=>
  intro p m h hm
  obtain ⟨m,rfl,hm'⟩:=al hm
  obtain ⟨e1,e2,e3,e4⟩:=ay h (by omega)
  have hx:=hs x (by grind)
  have hb:((x.kids.length:Int)==b7 t.kind)=decide ((x.kids.length:Int)=b7 t.kind):=by rfl
  simp only [jc,uA,e1,ai,e2,Option.bind_some,ak hk,M0,Di hk hx.1 (show x.face.length<2147483648 by omega),Nx hk hx.1 (show x.face.length<4294967296 by omega) hd hd',e3,ih (p++[x]) m e4 hm',List.all_cons,hb]
  grind [bZ,decide,Int,cm,ai,ad]
theorem aeM {S:Type} (b c:Bool) (ret:Bool→Option S):ab b (ret c) (ret false)=ret (b&&c):=by
 cases b<;>rfl
def l6 (vars dims:Int) (t:Tm):Bool:=
 if t.kind=1 then decide (t.r.length=0)&&(decide (0≤t.n)&&decide (vars<0∨t.n<vars))
   else if t.kind=2 then decide (t.r.length=0)&&lU t.name.data.toList
   else if t.kind=13∨t.kind=21∨t.kind=26 then be t.r&&cG t.r dims
   else if t.kind=14 then cm t.r&&cG t.r dims
   else t.sys.all (bZ t.kind dims)&&decide (t.r.length=0)
theorem JT (vars dims:Int) (t:Tm):dO vars dims t=((decide (dL t.kind=t.kids.length)&&(decide (t.kind=1∨t.n=0)&&(decide (t.kind=2∨t.name.size=0)&&decide (b7 t.kind=0→t.sys.length=0))))&&l6 vars dims t):=by
 cases t;rfl
def UN (t:Tm):Prop:=aH t.kind∧aH t.n∧t.name.size<1073741824∧am t.r∧t.r.length<1073741824∧t.kids.length<1073741824∧t.sys.length<1073741824
theorem OkT.no {t:Tm} (h:OkT t):UN t:=by cases t;exact h.node
theorem OkT.ki {t x:Tm} (h:OkT t) (hx:x∈t.kids):OkT x:=by cases t;exact h.kid hx
theorem OkT.bi {t:Tm} {b:Br Tm} (h:OkT t) (hb:b∈t.sys):(am b.face∧b.face.length<1073741824∧b.kids.length<1073741824)∧ ∀t∈b.kids,OkT t:=by cases t;exact h.br hb
theorem aef (hk:Fu k) {t:Tm} (ht:OkT t) {vars dims:Int} (hd:0≤dims) (hd':dims<9223372036854775808) (ret:Bool→Option S):wI k ret t vars dims k=ret (l6 vars dims t):=by
 obtain ⟨o1,o2,o3,o4,o5,o6,o7⟩:=ht.no
 have hb:=fun b hb=>(ht.bi (b:=b) hb).1
 obtain ⟨q,hq⟩: ∃q,k=q+1:=⟨k-1,by omega⟩
 have: ∀j,j=q+1→wI k ret t vars dims j=p6 k ret t vars dims (fun v109=>jc k ret t dims k v109):=by rintro j rfl;rfl
 rw [this k hq]
 have hl:=aap hk ret hd hd' (fun b h=>⟨(hb b h).1,(hb b h).2.1⟩) o7 t.sys [] k rfl (by omega)
 have hl:jc k ret t dims k 0=_:=hl
 simp only [p6,ak hk,ad_ hk (show t.name.size<2147483648 by omega),oM hk o4 (show t.r.length<2147483648 by omega),Di hk o4 (show t.r.length<2147483648 by omega),Nx hk o4 (show t.r.length<4294967296 by omega) hd hd',hl,oh,aeM]
 grind [b9,l6]
theorem aee (hk:Fu k) {t:Tm} (ht:OkT t) {vars dims:Int} (hd:0≤dims) (hd':dims<9223372036854775808) (ret:Bool→Option S):qK k t vars dims ret=ret (dO vars dims t):=by
 have hq:(dL t.kind==(t.kids.length:Int))=decide (dL t.kind=t.kids.length):=by rfl
 have hp:(b7 t.kind==0)=decide (b7 t.kind=0):=bQ _
 simp only [qK,EU,ak hk,adE,M0,aef hk ht hd hd',Ca,hq,hp,bQ,JT]
 have hsy:ab (decide (b7 t.kind=0)) (ab (decide (((t.sys.length:Nat):Int)>0)) (ret false) (ret (l6 vars dims t))) (ret (l6 vars dims t))=ret (decide (b7 t.kind=0→t.sys.length=0)&&l6 vars dims t):=by
  rw [aO,aO]
  by_cases h1:b7 t.kind=0
  ·rw [if_pos h1]
   by_cases h2:t.sys.length=0<;>grind
  grind
 grind [ai,ad,decide_eq_false]
end Go.Proofs.YtehekgbehghgdaaGreatDoor
namespace Go.Proofs.YtehekgbehghgdaaGreatDoor
open Go PI
set_option linter.unusedVariables false
set_option linter.unusedSimpArgs false
set_option maxRecDepth 20000
variable {S:Type} {k:Nat}
abbrev Fd (k n:Nat):Prop:=4294967296+n≤k
theorem Fd.fu {n:Nat} (h:Fd k n):Fu k:=by omega
theorem Fd.pos {n:Nat} (h:Fd k n): ∃q,k=q+1∧ ∀j,j+1≤n→Fd q j:=⟨k-1,by omega,fun j hj=>by omega⟩
theorem Fd.pos' {n:Nat} (h:Fd k n) (hn:1≤n): ∃q,k=q+1∧Fu q∧ ∀j,j+1≤n→Fd q j:=⟨k-1,by omega,by omega,fun j hj=>by omega⟩
theorem cE (t:Tm):1≤ap t:=by cases t;rw [ap];omega
theorem qO (t:Tm):ap t=max (aK t.kids) (aS t.sys)+1:=by cases t;rfl
theorem Dv (t:Tm):aG t=1+aJ t.kids+aN t.sys:=by cases t;rfl
theorem ct {t x:Tm} (h:x∈t.kids):ap x+1≤ap t:=by rw [qO t];have:=Gb h;omega
theorem cr {t:Tm} {b:Br Tm} {x:Tm} (hb:b∈t.sys) (h:x∈b.kids):ap x+1≤ap t:=by rw [qO t];have:=Gb h;have:=VH hb;omega
theorem dQ {Q:Tm→Prop} (h: ∀t,(∀x∈t.kids,Q x)→(∀b∈t.sys,∀x∈b.kids,Q x)→Q t) (t:Tm):Q t:=jm (fun kd n nm r ks sys h1 h2=>h (.mk kd n nm r ks sys) h1 h2) t
theorem VE {p q:Prop} [Decidable p] [Decidable q] (h:p↔q):decide p=decide q:=decide_eq_decide.2 h
theorem Dq {α:Type} (b c:Bool) (x y:α):ab (!b) y (if c then x else y)=if b&&c then x else y:=by cases b<;>cases c<;>rfl
theorem jk {S:Type} (b c:Bool) (ret:Bool→Option S):ab (!b) (ret false) (ret c)=ret (b&&c):=by cases b<;>rfl
theorem YP {S:Type} (b c:Bool) (ret:Bool→Option S):(if b=true then ret c else ret false)=ret (b&&c):=by grind
theorem bq {n:Int} (h1: -9223372036854775808≤n) (h2:n<9223372036854775808):IntKind.wrap .i64 n=n:=c5 h1 h2
section
variable {hd:Tm→Int→(Bool→Option S)→Option S} {c0:Int} {t:Tm} {Q:Tm→Bool}
theorem Z4 (hk:Fu k) (ret:Bool→Option S) (rec1:Int→Int→Option S) (hc: -9223372036854775807≤c0) (hc':c0<9223372036854775808) {v more:Int} {x:Br Tm} (hQ: ∀y∈x.kids,∀g,hd y (c0-1) g=g (Q y)) (hl:x.kids.length<1073741824):
  ∀ (r p:List Tm) (m:Nat),x.kids=p++r→r.length<m→lP hd k ret rec1 c0 t v x more m (p.length:Int)=if r.all Q then rec1 (IntKind.wrap .i64 (v+1)) more else ret false:=by
 intro r
 induction r with
 |nil=>
  grind [al,lP,uz,ad]
 |cons y r ih=>
  intro p m h hm
  obtain ⟨m,rfl,hm'⟩:=al hm
  obtain ⟨e1,e2,e3,e4⟩:=ay h (by omega)
  have hy:=hQ y (by grind)
  simp only [lP,uz,e1,ai,e2,Option.bind_some,ak hk,qL,EV,aF,bq (show-9223372036854775808≤c0-1 by omega) (by omega),hy,e3,ih (p++[y]) m e4 hm',Dq]
  rfl
theorem Z3 (hk:Fu k) (ret:Bool→Option S) (hc: -9223372036854775807≤c0) (hc':c0<9223372036854775808) {more:Int} (hQ: ∀b∈t.sys,∀y∈b.kids,∀g,hd y (c0-1) g=g (Q y)) (hl:t.sys.length<1073741824) (hl': ∀b∈t.sys,b.kids.length<1073741824):
  ∀ (r p:List (Br Tm)) (m:Nat),t.sys=p++r→r.length<m→gS hd k ret c0 t m (p.length:Int) more=ret (r.all fun b=>b.kids.all Q):=by
 intro r
 induction r with
 |nil=>
  grind [al,gS,p4,ad]
 |cons x r ih=>
  intro p m h hm
  obtain ⟨m,rfl,hm'⟩:=al hm
  obtain ⟨e1,e2,e3,e4⟩:=ay h (by omega)
  have hx:x∈t.sys:=by grind
  have hlx:=hl' x hx
  have:=Z4 (t:=t) hk ret (gS hd k ret c0 t m) (v:=(p.length:Int)) (more:=more) hc hc' (hQ x hx) hlx x.kids [] k rfl (by omega)
  grind [gS,p4,ai]
theorem Z2 (hk:Fu k) (ret:Bool→Option S) (hc: -9223372036854775807≤c0) (hc':c0<9223372036854775808) (hQ: ∀y∈t.kids,∀g,hd y (c0-1) g=g (Q y)) (hQ': ∀b∈t.sys,∀y∈b.kids,∀g,hd y (c0-1) g=g (Q y)) (ht:OkT t):
  ∀ (r p:List Tm) (m:Nat),t.kids=p++r→r.length<m→n_ hd k ret c0 t m (p.length:Int)=ret (r.all Q&&t.sys.all fun b=>b.kids.all Q):=by
 obtain ⟨o1,o2,o3,o4,o5,o6,o7⟩:=ht.no
 intro r
 induction r with
 |nil=>
  intro p m h hm
  obtain ⟨m,rfl,hm'⟩:=al hm
  have hs: ∀more:Int,gS hd k ret c0 t k 0 more=_:=fun more=>Z3 hk ret hc hc' (more:=more) hQ' o7 (fun b hb=>(ht.bi hb).1.2.2) t.sys [] k rfl (by omega)
  simp only [n_,pZ,cv h,ad,hs]
  cases (t.kind==15)<;>rfl
 |cons y r ih=>
  intro p m h hm
  obtain ⟨m,rfl,hm'⟩:=al hm
  obtain ⟨e1,e2,e3,e4⟩:=ay h (by omega)
  have hy:=hQ y (by grind)
  simp only [n_,pZ,e1,ai,e2,Option.bind_some,ak hk,oJ,qL,EV,aF,bq (show-9223372036854775808≤c0-1 by omega) (by omega),hy,e3,ih (p++[y]) m e4 hm',jk,List.all_cons,Bool.and_assoc]
end
theorem F9 {n:Int} (hn:0≤n): ∀ {l:List Tm},(l.all fun x=>decide ((ap x:Int)≤n))=decide ((aK l:Int)≤n):=by
 intro l
 induction l<;>grind [aK]
theorem VF {n:Int} (hn:0≤n): ∀ {l:List (Br Tm)},(l.all fun b=>b.kids.all fun x=>decide ((ap x:Int)≤n))=decide ((aS l:Int)≤n):=by
 intro l
 induction l with
 |nil=>rw [aS];simp [hn]
 |cons b l ih=>rw [List.all_cons,ih,F9 hn,aS,qN,Bool.eq_iff_iff];grind
theorem aeG (t:Tm):OkT t→ ∀ {k:Nat} {left:Int} (ret:Bool→Option S),Fd k (ap t)→ -4611686018427387904≤left→left<4611686018427387904→gI k t left ret=ret (decide ((ap t:Int)≤left)):=by
 induction t using dQ with
 |h t ih1 ih2=>
  intro ht k left ret hk h1 h2
  obtain ⟨q,rfl,hq,hf⟩:=hk.pos' (cE t)
  simp only [gI,Pw,aO,aF,ak hq]
  by_cases h0:left>0
  ·rw [if_pos h0]
   have hQ: ∀y∈t.kids,∀g:Bool→Option S,gI q y (left-1) g=g (decide ((ap y:Int)≤left-1)):=fun y hy g=>ih1 y hy (ht.ki hy) g (hf _ (ct hy)) (by omega) (by omega)
   have hQ': ∀b∈t.sys,∀y∈b.kids,∀g:Bool→Option S,gI q y (left-1) g=g (decide ((ap y:Int)≤left-1)):=fun b hb y hy g=>ih2 b hb y hy ((ht.bi hb).2 y hy) g (hf _ (cr hb hy)) (by omega) (by omega)
   have:=Z2 (Q:=fun y=>decide ((ap y:Int)≤left-1)) hq ret (by omega) (by omega) hQ hQ' ht t.kids [] q rfl (by have:=ht.no.2.2.2.2.2.1;omega)
   simp only [Av,ER]
   refine Eq.trans this ?_
   rw [F9 (by omega),VF (by omega),qO]
   congr 1
   rw [Bool.eq_iff_iff];simp;omega
  grind [cE]
section
variable {hd:Tm→Int→(Bool×Int→Option S)→Option S} {t:Tm}
def oV (hd:Tm→Int→(Bool×Int→Option S)→Option S) (k:Nat) (y:Tm):Prop:= ∀ (c:Int) (g:Bool×Int→Option S),0≤c→c<4611686018427387904→
 ∃v,mZ hd k y c g=g (decide ((aG y:Int)≤c),v)∧((aG y:Int)≤c→v=c-aG y)
theorem Z1 (hk:Fu k) (ret:Bool×Int→Option S) (rec1:Int→Int→Int→Option S) {v more:Int} {x:Br Tm} (hQ: ∀y∈x.kids,oV hd k y) (hl:x.kids.length<1073741824):
  ∀ (r p:List Tm) (m:Nat) (c:Int),0≤c→c<4611686018427387904→x.kids=p++r→r.length<m→
  ((aJ r:Int)≤c→jb hd k ret rec1 t v x more m c (p.length:Int)=rec1 (c-aJ r) (IntKind.wrap .i64 (v+1)) more)∧(¬ (aJ r:Int)≤c→ ∃w,jb hd k ret rec1 t v x more m c (p.length:Int)=ret (false,w)):=by
 intro r
 induction r with
 |nil=>
  grind [al,jb,ux,ad,aJ]
 |cons y r ih=>
  intro p m c h0 h1 h hm
  obtain ⟨m,rfl,hm'⟩:=al hm
  obtain ⟨e1,e2,e3,e4⟩:=ay h (by omega)
  have hy:=hQ y (by grind)
  obtain ⟨w,hw,hw'⟩:=hy c (fun r1=>(fun r6:Bool×Int=>ab (!r6.1) (ret (false,r6.2)) (jb hd k ret rec1 t v x more m r6.2 (((p++[y]).length:Nat):Int))) (r1.1,r1.2)) h0 h1
  simp only [jb,ux,e1,ai,e2,Option.bind_some,ak hk,qM,EW,aF,e3,aJ]
  rw [hw]
  by_cases hs:(aG y:Int)≤c
  ·grind [ad]
  grind [ai]
theorem Z0 (hk:Fu k) (ret:Bool×Int→Option S) {more:Int} (hQ: ∀b∈t.sys,∀y∈b.kids,oV hd k y) (hl:t.sys.length<1073741824) (hl': ∀b∈t.sys,b.kids.length<1073741824):
  ∀ (r p:List (Br Tm)) (m:Nat) (c:Int),0≤c→c<4611686018427387904→t.sys=p++r→r.length<m→
  ((aN r:Int)≤c→f7 hd k ret t m c (p.length:Int) more=ret (true,c-aN r))∧(¬ (aN r:Int)≤c→ ∃w,f7 hd k ret t m c (p.length:Int) more=ret (false,w)):=by
 intro r
 induction r with
 |nil=>
  grind [al,f7,pW,ad,aN]
 |cons x r ih=>
  intro p m c h0 h1 h hm
  obtain ⟨m,rfl,hm'⟩:=al hm
  obtain ⟨e1,e2,e3,e4⟩:=ay h (by omega)
  have hx:x∈t.sys:=by grind
  have hlx:=hl' x hx
  have:=Z1 (t:=t) hk ret (f7 hd k ret t m) (v:=(p.length:Int)) (more:=more) (hQ x hx) hlx x.kids [] k c h0 h1 rfl (by omega)
  simp only [f7,pW,e1,ai,e2,Option.bind_some,aN,sS]
  grind
theorem ZZ (hk:Fu k) (ret:Bool×Int→Option S) (hQ: ∀y∈t.kids,oV hd k y) (hQ': ∀b∈t.sys,∀y∈b.kids,oV hd k y) (ht:OkT t):
  ∀ (r p:List Tm) (m:Nat) (c:Int),0≤c→c<4611686018427387904→t.kids=p++r→r.length<m→
  ∃w,lN hd k ret t m c (p.length:Int)=ret (decide (((aJ r+aN t.sys:Nat):Int)≤c),w)∧(((aJ r+aN t.sys:Nat):Int)≤c→w=c-((aJ r+aN t.sys:Nat):Int)):=by
 obtain ⟨o1,o2,o3,o4,o5,o6,o7⟩:=ht.no
 intro r
 induction r with
 |nil=>
  intro p m c h0 h1 h hm
  obtain ⟨m,rfl,hm'⟩:=al hm
  have hs: ∀more:Int,_:=fun more=>Z0 hk ret (more:=more) hQ' o7 (fun b hb=>(ht.bi hb).1.2.2) t.sys [] k c h0 h1 rfl (by omega)
  have key: ∀more:Int,∃w,f7 hd k ret t k c 0 more=ret (decide (((aN t.sys:Nat):Int)≤c),w)∧(((aN t.sys:Nat):Int)≤c→w=c-((aN t.sys:Nat):Int)):=fun more=>by
   by_cases hc:(aN t.sys:Int)≤c
   ·simp_all
   ·obtain ⟨w,e⟩:=(hs more).2 hc
    grind
  have hz:aJ []+aN t.sys=aN t.sys:=by rw [aJ,Nat.zero_add]
  rw [hz]
  simp only [lN,pV,cv h,ad]
  cases (t.kind==15) with
  |true=>exact key 1
  |false=>exact key 0
 |cons y r ih=>
  intro p m c h0 h1 h hm
  obtain ⟨m,rfl,hm'⟩:=al hm
  obtain ⟨e1,e2,e3,e4⟩:=ay h (by omega)
  have hy:=hQ y (by grind)
  obtain ⟨w,hw,hw'⟩:=hy c (fun r1=>(fun r3:Bool×Int=>ab (!r3.1) (ret (false,r3.2)) (lN hd k ret t m r3.2 (((p++[y]).length:Nat):Int))) (r1.1,r1.2)) h0 h1
  have hz:aJ (y::r)+aN t.sys=aG y+aJ r+aN t.sys:=by rw [aJ]
  rw [hz]
  simp only [lN,pV,e1,ai,e2,Option.bind_some,ak hk,oJ,qM,EW,aF,e3]
  rw [hw]
  by_cases hs:(aG y:Int)≤c
  ·have:=hw' hs
   subst this
   obtain ⟨u,i1,i2⟩:=ih (p++[y]) m (c-aG y) (by omega) (by omega) e4 hm'
   grind [ad]
  grind [ai,decide_eq_false]
end
theorem adR (t:Tm):OkT t→ ∀ {k:Nat} (c:Int) (ret:Bool×Int→Option S),Fd k (ap t)→0≤c→c<4611686018427387904→
  ∃w,ep k t c ret=ret (decide ((aG t:Int)-1≤c),w)∧((aG t:Int)-1≤c→w=c-((aG t:Int)-1)):=by
 induction t using dQ with
 |h t ih1 ih2=>
  intro ht k c ret hk h1 h2
  obtain ⟨q,rfl,hq,hf⟩:=hk.pos' (cE t)
  have cnt: ∀y,(∀ {k:Nat} (c:Int) (ret:Bool×Int→Option S),Fd k (ap y)→0≤c→c<4611686018427387904→ ∃w,ep k y c ret=ret (decide ((aG y:Int)-1≤c),w)∧((aG y:Int)-1≤c→w=c-((aG y:Int)-1)))→
    Fd q (ap y)→oV (S:=S) (ep q) q y:=by
   intro y hy hfy c g h0 h1
   simp only [mZ,EX,aF,bq (show-9223372036854775808≤c-1 by omega) (by omega),aO]
   have:=Dw y
   by_cases hc:c-1≥0
   ·rw [if_pos hc]
    obtain ⟨w,e,e'⟩:=hy (c-1) (fun r1=>g (r1.1,r1.2)) hfy (by omega) (by omega)
    grind
   ·rw [if_neg hc]
    exact ⟨c-1,by grind,fun h=>by omega⟩
  obtain ⟨w,e,e'⟩:=ZZ hq ret (fun y hy=>cnt y (fun c ret=>ih1 y hy (ht.ki hy) c ret) (hf _ (ct hy))) (fun b hb y hy=>cnt y (fun c ret=>ih2 b hb y hy ((ht.bi hb).2 y hy) c ret) (hf _ (cr hb hy))) ht t.kids [] q c h1 h2 rfl (by have:=ht.no.2.2.2.2.2.1;omega)
  grind [ep,EP,Dv]
theorem aeI {t:Tm} (ht:OkT t) (hk:Fd k (ap t)) {most:Int} (h0:0<most) (h1:most<4611686018427387904) (ret:Bool→Option S):vK k t most ret=ret (decide ((aG t:Int)≤most)):=by
 simp only [vK,Py,ak hk.fu,mZ,EX,aF,bq (show-9223372036854775808≤most-1 by omega) (by omega),aO]
 rw [if_pos (by omega)]
 obtain ⟨w,e,_⟩:=adR t ht (most-1) (fun r1=>ret (r1.1,r1.2).1) hk (by omega) (by omega)
 grind
def VD (vars dims:Int) (n:Nat):Prop:= -4611686018427387904≤vars∧vars+n<4611686018427387904∧0≤dims∧dims+n<4611686018427387904
section
variable {hd:Tm→Int→Int→Bool→(Bool→Option S)→Option S} {vars dims:Int} {bd:Bool} {t:Tm}
theorem M3 (hv:VD vars dims 1) {v d:Int} (h1:0≤v∧v≤1) (h2:0≤d∧d≤1) (y:Tm) (g:Bool→Option S):qI hd k y v d vars dims bd g=hd y (dx vars v) (dims+d) bd g:=by
 grind [VD,qI,Pt,aF,aO,bq,dx]
theorem ZY (hk:Fu k) (ret:Bool→Option S) (rec1:Int→Int→Option S) (hv:VD vars dims 1) {v more:Int} {x:Br Tm} (hm:more=aw t.kind) (hQ: ∀y∈x.kids,∀g,hd y vars (dims+more) bd g=g (bg bd vars (dims+more) y)) (hl:x.kids.length<1073741824):
  ∀ (r p:List Tm) (m:Nat),x.kids=p++r→r.length<m→ke hd k ret rec1 vars dims bd t v x more m (p.length:Int)=if cV bd vars dims t.kind r then rec1 (IntKind.wrap .i64 (v+1)) more else ret false:=by
 subst hm
 intro r
 induction r with
 |nil=>
  intro p m h hm
  obtain ⟨m,rfl,hm'⟩:=al hm
  simp only [ke,uy,cv h,ad];rfl
 |cons y r ih=>
  intro p m h hm
  obtain ⟨m,rfl,hm'⟩:=al hm
  obtain ⟨e1,e2,e3,e4⟩:=ay h (by omega)
  have hy:=hQ y (by grind)
  have h0:dx vars 0=vars:=by grind [dx]
  simp only [ke,uy,e1,ai,e2,Option.bind_some,ak hk,aF,M3 hv (show (0:Int)≤0∧(0:Int)≤1 by omega) (dX t.kind),h0,hy,e3,ih (p++[y]) m e4 hm',Dq]
  rw [cV]
theorem ZX (hk:Fu k) (ret:Bool→Option S) (hv:VD vars dims 1) {more:Int} (hm:more=aw t.kind) (hQ: ∀b∈t.sys,∀y∈b.kids,∀g,hd y vars (dims+more) bd g=g (bg bd vars (dims+more) y)) (hl:t.sys.length<1073741824) (hl': ∀b∈t.sys,b.kids.length<1073741824):
  ∀ (r p:List (Br Tm)) (m:Nat),t.sys=p++r→r.length<m→f8 hd k ret vars dims bd t m (p.length:Int) more=ret (c7 bd vars dims t.kind r):=by
 intro r
 induction r with
 |nil=>
  grind [al,f8,pY,ad,c7]
 |cons x r ih=>
  intro p m h hml
  obtain ⟨m,rfl,hm'⟩:=al hml
  obtain ⟨e1,e2,e3,e4⟩:=ay h (by omega)
  have hx:x∈t.sys:=by grind
  have hlx:=hl' x hx
  have:=ZY (t:=t) (bd:=bd) hk ret (f8 hd k ret vars dims bd t m) hv (v:=(p.length:Int)) hm (hQ x hx) hlx x.kids [] k rfl (by omega)
  have this:ke hd k ret (f8 hd k ret vars dims bd t m) vars dims bd t (p.length:Int) x more k 0=_:=this
  simp only [f8,pY,e1,ai,e2,Option.bind_some,this,e3,ih (p++[x]) m e4 hm']
  have ea:c7 bd vars dims t.kind (x::r)=(cV bd vars dims t.kind x.kids&&c7 bd vars dims t.kind r):=by cases x;rfl
  grind
theorem ZW (hk:Fu k) (ret:Bool→Option S) (hv:VD vars dims 1) (hQ: ∀y∈t.kids,∀v d,0≤v∧v≤1→0≤d∧d≤1→ ∀g,hd y (dx vars v) (dims+d) bd g=g (bg bd (dx vars v) (dims+d) y)) (hQ': ∀b∈t.sys,∀y∈b.kids,∀g,hd y vars (dims+aw t.kind) bd g=g (bg bd vars (dims+aw t.kind) y)) (ht:OkT t):
  ∀ (r p:List Tm) (m:Nat),t.kids=p++r→r.length<m→lO hd k ret vars dims bd t m (p.length:Int)=ret (bY bd vars dims t.kind p.length r&&c7 bd vars dims t.kind t.sys):=by
 obtain ⟨o1,o2,o3,o4,o5,o6,o7⟩:=ht.no
 intro r
 induction r with
 |nil=>
  intro p m h hm
  obtain ⟨m,rfl,hm'⟩:=al hm
  have hs:f8 hd k ret vars dims bd t k 0 (aw t.kind)=_:=ZX hk ret hv rfl hQ' o7 (fun b hb=>(ht.bi hb).1.2.2) t.sys [] k rfl (by omega)
  grind [lO,pX,bY,aw,b9]
 |cons y r ih=>
  intro p m h hm
  obtain ⟨m,rfl,hm'⟩:=al hm
  obtain ⟨e1,e2,e3,e4⟩:=ay h (by omega)
  have b1:=uB t.kind p.length
  have b2:=iq t.kind p.length
  have hy:=hQ y (by grind) (dy t.kind p.length) (bJ t.kind p.length) b1 b2
  simp only [lO,pX,e1,ai,e2,Option.bind_some,ak hk,oJ,aF,M3 hv b1 b2,hy,e3,ih (p++[y]) m e4 hm',jk]
  grind [bY]
end
theorem th (bd:Bool) (vars dims:Int) (t:Tm):bg bd vars dims t=(!(bd&&decide (dims>24))&&(dO vars dims t&&(bY bd vars dims t.kind 0 t.kids&&c7 bd vars dims t.kind t.sys))):=by cases t;rfl
theorem PP {vars v:Int} (h:0≤v∧v≤1):vars≤dx vars v∧dx vars v≤vars+1:=by grind [dx]
theorem adO (t:Tm):OkT t→ ∀ {k:Nat} {vars dims:Int} {bd:Bool} (ret:Bool→Option S),Fd k (ap t)→VD vars dims (ap t)→fR k t vars dims bd ret=ret (bg bd vars dims t):=by
 induction t using dQ with
 |h t ih1 ih2=>
  intro ht k vars dims bd ret hk hv
  obtain ⟨q,rfl,hq,hf⟩:=hk.pos' (cE t)
  have hp:=cE t
  have hv':=hv
  unfold VD at hv'
  have hv1:VD vars dims 1:=by unfold VD;omega
  have hm:=dX t.kind
  have hQ: ∀y∈t.kids,∀v d,0≤v∧v≤1→0≤d∧d≤1→ ∀g:Bool→Option S,fR q y (dx vars v) (dims+d) bd g=g (bg bd (dx vars v) (dims+d) y):=fun y hy v d h1 h2 g=>ih1 y hy (ht.ki hy) g (hf _ (ct hy)) (by
   have:=ct hy;have:=PP (vars:=vars) h1;unfold VD;omega)
  have hQ': ∀b∈t.sys,∀y∈b.kids,∀g:Bool→Option S,fR q y vars (dims+aw t.kind) bd g=g (bg bd vars (dims+aw t.kind) y):=fun b hb y hy g=>ih2 b hb y hy ((ht.bi hb).2 y hy) g (hf _ (cr hb hy)) (by
   have:=cr hb hy;unfold VD;omega)
  have:=ZW (bd:=bd) hq ret hv1 hQ hQ' ht t.kids [] q rfl (by have:=ht.no.2.2.2.2.2.1;omega)
  have this:lO (fR q) q ret vars dims bd t q 0=_:=this
  simp only [fR,Ps,aF,ak hq,aee hq ht (show 0≤dims by omega) (show dims<9223372036854775808 by omega),vH,EQ,this]
  rw [th]
  cases bd with
  |true=>
   rw [ai,aO,Bool.true_and]
   by_cases h24:dims>24
   ·grind
   ·rw [if_neg h24,decide_eq_false h24]
    cases dO vars dims t<;>rfl
  |false=>
   rw [ad]
   cases dO vars dims t<;>rfl
theorem aeH {t:Tm} (ht:OkT t) (hk:Fd k (ap t)) (ret:Int→Option S):vJ k t ret=ret (if ap t>200 then 62 else if aG t>20000 then 221 else 0):=by
 simp only [vJ,Px,aF,aeG t ht _ hk (show (-4611686018427387904:Int)≤200 by omega) (show (200:Int)<4611686018427387904 by omega),ak hk.fu,aeI ht hk (show (0:Int)<20000 by omega) (show (20000:Int)<4611686018427387904 by omega)]
 by_cases h1:ap t>200
 ·rw [if_pos h1,decide_eq_false (by omega)];rfl
 ·rw [if_neg h1,decide_eq_true (by omega),Bool.not_true,ad]
  by_cases h2:aG t>20000
  ·rw [if_pos h2,decide_eq_false (by omega)];rfl
  ·rw [if_neg h2,decide_eq_true (by omega)];rfl
theorem oK {t:Tm} (ht:OkT t) (hk:Fd k (ap t)) (hdep:ap t<1099511627776) (ret:Int→Option S):eo k t ret=ret (bA t):=by
 simp only [eo,Pp,aF,ak hk.fu,aeH ht hk,adO t ht _ hk (show VD (-1) 24 (ap t) by unfold VD;omega),bQ]
 unfold bA
 by_cases h1:ap t>200
 ·rw [if_pos h1,if_pos h1];rfl
 ·rw [if_neg h1,if_neg h1]
  by_cases h2:aG t>20000
  ·rw [if_pos h2,if_pos h2];rfl
  ·rw [if_neg h2,if_neg h2,decide_eq_true rfl,Bool.not_true,ad]
   cases bg false (-1) 24 t<;>rfl
end Go.Proofs.YtehekgbehghgdaaGreatDoor
namespace Go.Proofs.YtehekgbehghgdaaGreatDoor
open Go PI
set_option linter.unusedVariables false
set_option linter.unusedSimpArgs false
set_option maxRecDepth 20000
variable {S:Type} {k:Nat}
theorem F_: ∀ {l:List Tm},(∀x∈l,ap x≤aG x)→aK l≤aJ l:=by
 intro l
 induction l<;>grind [aK,aJ]
theorem VG: ∀ {l:List (Br Tm)},(∀b∈l,∀x∈b.kids,ap x≤aG x)→aS l≤aN l:=by
 intro l
 induction l<;>grind [aS,aN,qN,sS,F_]
theorem vL (t:Tm):ap t≤aG t:=by
 induction t using dQ<;>grind [qO,Dv,F_,VG]
section
variable {hd:Tm→(Int→Option S)→Option S} {t:Tm}
theorem aa1 (hk:Fu k) (ret:Int→Option S) (rec1:Int→Int→Option S) {v:Int} {x:Br Tm} (hv:ae t.sys v=some x) (hQ: ∀y∈x.kids,∀g,hd y g=g ((aG y:Nat):Int)) (hl:x.kids.length<1073741824):
  ∀ (r p:List Tm) (m a:Nat),x.kids=p++r→r.length<m→a+aJ r<4611686018427387904→lL hd k ret rec1 t v m (a:Int) (p.length:Int)=rec1 ((a+aJ r:Nat):Int) (IntKind.wrap .i64 (v+1)):=by
 intro r
 induction r with
 |nil=>
  grind [al,aJ,lL,uj,ad]
 |cons y r ih=>
  intro p m a h hm ha
  obtain ⟨m,rfl,hm'⟩:=al hm
  obtain ⟨e1,e2,e3,e4⟩:=ay h (by omega)
  have hy:=hQ y (by grind)
  have hz:a+aJ (y::r)=(a+aG y)+aJ r:=by rw [aJ];omega
  rw [hz] at ha ⊢
  have hw:IntKind.wrap .i64 ((a:Int)+((aG y:Nat):Int))=((a+aG y:Nat):Int):=by grind [bq]
  simp only [lL,uj,hv,e1,ai,e2,Option.bind_some,aF,hy,e3,hw,ih (p++[y]) m (a+aG y) e4 hm' ha]
theorem aa0 (hk:Fu k) (ret:Int→Option S) (hQ: ∀b∈t.sys,∀y∈b.kids,∀g,hd y g=g ((aG y:Nat):Int)) (hl:t.sys.length<1073741824) (hl': ∀b∈t.sys,b.kids.length<1073741824):
  ∀ (r p:List (Br Tm)) (m a:Nat),t.sys=p++r→r.length<m→a+aN r<4611686018427387904→i_ hd k ret t m (a:Int) (p.length:Int)=ret ((a+aN r:Nat):Int):=by
 intro r
 induction r with
 |nil=>
  grind [al,aN,i_,pN,ad]
 |cons x r ih=>
  intro p m a h hm ha
  obtain ⟨m,rfl,hm'⟩:=al hm
  obtain ⟨e1,e2,e3,e4⟩:=ay h (by omega)
  have hx:x∈t.sys:=by grind
  have hlx:=hl' x hx
  have hz:a+aN (x::r)=(a+aJ x.kids)+aN r:=by rw [aN,sS];omega
  rw [hz] at ha ⊢
  have:=aa1 (t:=t) hk ret (i_ hd k ret t m) e2 (hQ x hx) hlx x.kids [] k a rfl (by omega) (by omega)
  grind [i_,pN,ai]
theorem aaZ (hk:Fu k) (ret:Int→Option S) (hQ: ∀y∈t.kids,∀g,hd y g=g ((aG y:Nat):Int)) (hQ': ∀b∈t.sys,∀y∈b.kids,∀g,hd y g=g ((aG y:Nat):Int)) (ht:OkT t):
  ∀ (r p:List Tm) (m a:Nat),t.kids=p++r→r.length<m→a+aJ r+aN t.sys<4611686018427387904→nX hd k ret t m (a:Int) (p.length:Int)=ret ((a+aJ r+aN t.sys:Nat):Int):=by
 obtain ⟨o1,o2,o3,o4,o5,o6,o7⟩:=ht.no
 intro r
 induction r with
 |nil=>
  intro p m a h hm ha
  obtain ⟨m,rfl,hm'⟩:=al hm
  have hz:a+aJ []=a:=by rfl
  rw [hz] at ha ⊢
  have:=aa0 hk ret hQ' o7 (fun b hb=>(ht.bi hb).1.2.2) t.sys [] k a rfl (by omega) ha
  grind [nX,pM,ad]
 |cons y r ih=>
  intro p m a h hm ha
  obtain ⟨m,rfl,hm'⟩:=al hm
  obtain ⟨e1,e2,e3,e4⟩:=ay h (by omega)
  have hy:=hQ y (by grind)
  have hz:a+aJ (y::r)=(a+aG y)+aJ r:=by rw [aJ];omega
  rw [hz] at ha ⊢
  have hw:IntKind.wrap .i64 ((a:Int)+((aG y:Nat):Int))=((a+aG y:Nat):Int):=by grind [bq]
  simp only [nX,pM,e1,ai,e2,Option.bind_some,aF,hy,e3,hw,ih (p++[y]) m (a+aG y) e4 hm' ha]
end
theorem aeA (t:Tm):OkT t→ ∀ {k:Nat} (ret:Int→Option S),Fd k (ap t)→aG t<4611686018427387904→gH k t ret=ret ((aG t:Nat):Int):=by
 induction t using dQ with
 |h t ih1 ih2=>
  intro ht k ret hk hs
  obtain ⟨q,rfl,hq,hf⟩:=hk.pos' (cE t)
  have hz:=Dv t
  have:=aaZ hq ret (fun y hy g=>ih1 y hy (ht.ki hy) g (hf _ (ct hy)) (by have:=oN hy;omega)) (fun b hb y hy g=>ih2 b hb y hy ((ht.bi hb).2 y hy) g (hf _ (cr hb hy)) (by have:=oN hy;have:=Du hb;omega)) ht t.kids [] q 1 rfl (by have:=ht.no.2.2.2.2.2.1;omega) (by omega)
  grind [gH,EA]
section
variable {hd:Tm→(Int→Option S)→Option S} {t:Tm}
theorem Jv (a b:Nat) {α:Type} (f:Int→α):ab (decide (((b:Nat):Int)>(a:Int))) (f (b:Int)) (f (a:Int))=f ((max a b:Nat):Int):=by
 grind [aO]
theorem aaI (hk:Fu k) (ret:Int→Option S) (rec1:Int→Int→Option S) {v:Int} {x:Br Tm} (hv:ae t.sys v=some x) (hQ: ∀y∈x.kids,∀g,hd y g=g ((ap y:Nat):Int)) (hl:x.kids.length<1073741824):
  ∀ (r p:List Tm) (m a:Nat),x.kids=p++r→r.length<m→j9 hd k ret rec1 t v m (a:Int) (p.length:Int)=rec1 ((max a (aK r):Nat):Int) (IntKind.wrap .i64 (v+1)):=by
 intro r
 induction r with
 |nil=>
  grind [al,aK,j9,uh,ad]
 |cons y r ih=>
  intro p m a h hm
  obtain ⟨m,rfl,hm'⟩:=al hm
  obtain ⟨e1,e2,e3,e4⟩:=ay h (by omega)
  have hy:=hQ y (by grind)
  have hz:max a (aK (y::r))=max (max a (ap y)) (aK r):=by rw [aK];omega
  rw [hz]
  simp only [j9,uh,hv,e1,ai,e2,Option.bind_some,aF,hy,e3]
  rw [Jv a (ap y) (fun z=>j9 hd k ret rec1 t v m z (((p++[y]).length:Nat):Int)),ih (p++[y]) m (max a (ap y)) e4 hm']
theorem aaH (hk:Fu k) (ret:Int→Option S) (hQ: ∀b∈t.sys,∀y∈b.kids,∀g,hd y g=g ((ap y:Nat):Int)) (hl:t.sys.length<1073741824) (hl': ∀b∈t.sys,b.kids.length<1073741824):
  ∀ (r p:List (Br Tm)) (m a:Nat),t.sys=p++r→r.length<m→max a (aS r)<4611686018427387904→i8 hd k ret t m (a:Int) (p.length:Int)=ret ((max a (aS r)+1:Nat):Int):=by
 intro r
 induction r with
 |nil=>
  intro p m a h hm ha
  obtain ⟨m,rfl,hm'⟩:=al hm
  have hz:max a (aS [])=a:=by rw [aS];omega
  rw [hz] at ha ⊢
  have hw:IntKind.wrap .i64 ((a:Int)+1)=((a+1:Nat):Int):=by grind [bq]
  grind [i8,pL,ad]
 |cons x r ih=>
  intro p m a h hm ha
  obtain ⟨m,rfl,hm'⟩:=al hm
  obtain ⟨e1,e2,e3,e4⟩:=ay h (by omega)
  have hx:x∈t.sys:=by grind
  have hlx:=hl' x hx
  have hz:max a (aS (x::r))=max (max a (aK x.kids)) (aS r):=by rw [aS,qN];omega
  rw [hz] at ha ⊢
  have:=aaI (t:=t) hk ret (i8 hd k ret t m) e2 (hQ x hx) hlx x.kids [] k a rfl (by omega)
  grind [i8,pL,ai]
theorem aaG (hk:Fu k) (ret:Int→Option S) (hQ: ∀y∈t.kids,∀g,hd y g=g ((ap y:Nat):Int)) (hQ': ∀b∈t.sys,∀y∈b.kids,∀g,hd y g=g ((ap y:Nat):Int)) (ht:OkT t):
  ∀ (r p:List Tm) (m a:Nat),t.kids=p++r→r.length<m→max (max a (aK r)) (aS t.sys)<4611686018427387904→lK hd k ret t m (a:Int) (p.length:Int)=ret ((max (max a (aK r)) (aS t.sys)+1:Nat):Int):=by
 obtain ⟨o1,o2,o3,o4,o5,o6,o7⟩:=ht.no
 intro r
 induction r with
 |nil=>
  intro p m a h hm ha
  obtain ⟨m,rfl,hm'⟩:=al hm
  have hz:max a (aK [])=a:=by rw [aK];omega
  rw [hz] at ha ⊢
  have:=aaH hk ret hQ' o7 (fun b hb=>(ht.bi hb).1.2.2) t.sys [] k a rfl (by omega) ha
  grind [lK,pK,ad]
 |cons y r ih=>
  intro p m a h hm ha
  obtain ⟨m,rfl,hm'⟩:=al hm
  obtain ⟨e1,e2,e3,e4⟩:=ay h (by omega)
  have hy:=hQ y (by grind)
  have hz:max a (aK (y::r))=max (max a (ap y)) (aK r):=by rw [aK];omega
  rw [hz] at ha ⊢
  simp only [lK,pK,e1,ai,e2,Option.bind_some,aF,hy,e3]
  rw [Jv a (ap y) (fun z=>lK hd k ret t m z (((p++[y]).length:Nat):Int)),ih (p++[y]) m (max a (ap y)) e4 hm' ha]
end
theorem aew (t:Tm):OkT t→ ∀ {k:Nat} (ret:Int→Option S),Fd k (ap t)→ap t<4611686018427387904→gG k t ret=ret ((ap t:Nat):Int):=by
 induction t using dQ with
 |h t ih1 ih2=>
  intro ht k ret hk hs
  obtain ⟨q,rfl,hq,hf⟩:=hk.pos' (cE t)
  have hz:=qO t
  have:=aaG hq ret (fun y hy g=>ih1 y hy (ht.ki hy) g (hf _ (ct hy)) (by have:=ct hy;omega)) (fun b hb y hy g=>ih2 b hb y hy ((ht.bi hb).2 y hy) g (hf _ (cr hb hy)) (by have:=cr hb hy;omega)) ht t.kids [] q 0 rfl (by have:=ht.no.2.2.2.2.2.1;omega) (by omega)
  grind [gG,Ey]
section
variable {hd:Tm→Int→Int→Bool→(Bool→Option S)→Option S} {vars dims:Int} {bd:Bool} {t:Tm}
theorem aaB (hk:Fu k) (ret:Bool→Option S) (rec5:Int→Option S) (hv:VD vars dims 1) {v:Int} {x:Br Tm} (hQ: ∀y∈x.kids,∀g,hd y vars (dims+aw t.kind) bd g=g (bg bd vars (dims+aw t.kind) y)) (hl:x.kids.length<1073741824):
  ∀ (r p:List Tm) (m:Nat),x.kids=p++r→r.length<m→j8 hd k ret rec5 x t vars v dims bd m (p.length:Int)=if cV bd vars dims t.kind r then rec5 (IntKind.wrap .i64 (v+1)) else ret false:=by
 have hmo:=dX t.kind
 unfold VD at hv
 intro r
 induction r with
 |nil=>
  intro p m h hm
  obtain ⟨m,rfl,hm'⟩:=al hm
  simp only [j8,uc,cv h,ad];rfl
 |cons y r ih=>
  intro p m h hm
  obtain ⟨m,rfl,hm'⟩:=al hm
  obtain ⟨e1,e2,e3,e4⟩:=ay h (by omega)
  have hy:=hQ y (by grind)
  simp only [j8,uc,e1,ai,e2,Option.bind_some,ak hk,aF,Dp,bq (n:=dims+aw t.kind) (by omega) (by omega),hy,e3,ih (p++[y]) m e4 hm',Dq]
  rw [cV]
theorem aaA (hk:Fu k) (ret:Bool→Option S) (hv:VD vars dims 1) (hQ: ∀b∈t.sys,∀y∈b.kids,∀g,hd y vars (dims+aw t.kind) bd g=g (bg bd vars (dims+aw t.kind) y)) (ht:OkT t):
  ∀ (r p:List (Br Tm)) (m:Nat),t.sys=p++r→r.length<m→fY hd k ret t vars dims bd m (p.length:Int)=ret (r.all fun b=>bZ t.kind dims b&&cV bd vars dims t.kind b.kids):=by
 obtain ⟨o1,o2,o3,o4,o5,o6,o7⟩:=ht.no
 have hv':=hv
 unfold VD at hv'
 intro r
 induction r with
 |nil=>
  grind [al,fY,pF,ad]
 |cons x r ih=>
  intro p m h hml
  obtain ⟨m,rfl,hm'⟩:=al hml
  obtain ⟨e1,e2,e3,e4⟩:=ay h (by omega)
  have hx:x∈t.sys:=by grind
  have hb:=(ht.bi hx).1
  have:=aaB (t:=t) (bd:=bd) hk ret (fY hd k ret t vars dims bd m) hv (v:=(p.length:Int)) (hQ x hx) hb.2.2 x.kids [] k rfl (by omega)
  have this:j8 hd k ret (fY hd k ret t vars dims bd m) x t vars (p.length:Int) dims bd k 0=_:=this
  have hq:((x.kids.length:Int)==b7 t.kind)=decide ((x.kids.length:Int)=b7 t.kind):=by rfl
  simp only [fY,pF,e1,ai,e2,Option.bind_some,ak hk,Nr,ml hk hb.1 (show x.face.length<2147483648 by omega),Nd hk hb.1 hb.2.1,this,e3,ih (p++[x]) m e4 hm',YP,jk,hq]
  grind [bZ,decide,cG]
theorem aaz (hk:Fu k) (ret:Bool→Option S) (hv:VD vars dims 1) (hQ: ∀y∈t.kids,∀v d,0≤v∧v≤1→0≤d∧d≤1→ ∀g,hd y (dx vars v) (dims+d) bd g=g (bg bd (dx vars v) (dims+d) y)) (hQ': ∀b∈t.sys,∀y∈b.kids,∀g,hd y vars (dims+aw t.kind) bd g=g (bg bd vars (dims+aw t.kind) y)) (ht:OkT t):
  ∀ (r p:List Tm) (m:Nat),t.kids=p++r→r.length<m→iX hd k ret t vars dims bd m (p.length:Int)=ret (bY bd vars dims t.kind p.length r&&t.sys.all fun b=>bZ t.kind dims b&&cV bd vars dims t.kind b.kids):=by
 obtain ⟨o1,o2,o3,o4,o5,o6,o7⟩:=ht.no
 have hv':=hv
 unfold VD at hv'
 intro r
 induction r with
 |nil=>
  intro p m h hm
  obtain ⟨m,rfl,hm'⟩:=al hm
  have hs:fY hd k ret t vars dims bd k 0=_:=aaA hk ret hv hQ' ht t.sys [] k rfl (by omega)
  grind [iX,pD,ad,bY]
 |cons y r ih=>
  intro p m h hm
  obtain ⟨m,rfl,hm'⟩:=al hm
  obtain ⟨e1,e2,e3,e4⟩:=ay h (by omega)
  have b1:=uB t.kind p.length
  have b2:=iq t.kind p.length
  have hy:=hQ y (by grind) (dy t.kind p.length) (bJ t.kind p.length) b1 b2
  simp only [iX,pD,e1,ai,e2,Option.bind_some,ak hk,Dl hk,aF,bq (n:=dims+bJ t.kind p.length) (by omega) (by omega),bq (n:=vars+0) (by omega) (by omega),bq (n:=vars+dy t.kind p.length) (by omega) (by omega),e3,ih (p++[y]) m e4 hm']
  have hvb:ab (decide (vars<0)) (hd y (vars+0) (dims+bJ t.kind p.length) bd fun r8=>ab (!r8) (ret false) (ret (bY bd vars dims t.kind (p++[y]).length r&&t.sys.all fun b=>bZ t.kind dims b&&cV bd vars dims t.kind b.kids)))
    (hd y (vars+dy t.kind p.length) (dims+bJ t.kind p.length) bd fun r10=>ab (!r10) (ret false) (ret (bY bd vars dims t.kind (p++[y]).length r&&t.sys.all fun b=>bZ t.kind dims b&&cV bd vars dims t.kind b.kids)))
    =hd y (dx vars (dy t.kind p.length)) (dims+bJ t.kind p.length) bd fun r8=>ab (!r8) (ret false) (ret (bY bd vars dims t.kind (p++[y]).length r&&t.sys.all fun b=>bZ t.kind dims b&&cV bd vars dims t.kind b.kids)):=by
   grind [aO,dx]
  simp_all [jk,bY,Bool.and_assoc]
end
def nK (vars:Int) (t:Tm):Bool:=if t.kind=1 then decide (0≤t.n)&&decide (vars<0∨t.n<vars) else decide (t.n=0)
def oq (t:Tm):Bool:=if t.kind=2 then lU t.name.data.toList else decide (t.name.size=0)
def rK (t:Tm):Bool:=if t.kind=13∨t.kind=21∨t.kind=26 then be t.r else if t.kind=14 then cm t.r else decide (t.r.length=0)
theorem BM (d:Int) (l:List Cl) (h:l.length=0):cG l d=true:=by
 grind [cG,mem_bitsN,Az,h8]
theorem UX {α:Type} (l:List α) (f g:α→Bool):(l.all fun x=>f x&&g x)=(l.all f&&l.all g):=by
 grind
theorem UW {bd:Bool} {vars dims kd:Int}: ∀ {l:List (Br Tm)},(l.all fun b=>cV bd vars dims kd b.kids)=c7 bd vars dims kd l:=by
 intro l
 induction l with
 |nil=>rfl
 |cons b l ih=>cases b<;>grind [c7,pg]
theorem ac_ (vars dims:Int) (t:Tm) (AK AS:Bool):
  (decide (dL t.kind=t.kids.length)&&(decide (0<t.sys.length→b7 t.kind≠0)&&(nK vars t&&(oq t&&(rK t&&(cG t.r dims&&(AK&&(t.sys.all (bZ t.kind dims)&&AS))))))))=(dO vars dims t&&(AK&&AS)):=by
 rw [JT]
 have hp:decide (0<t.sys.length→b7 t.kind≠0)=decide (b7 t.kind=0→t.sys.length=0):=VE ⟨fun h h0=>by
  omega,fun h h0 h1=>by omega⟩
 rw [hp]
 cases decide (dL t.kind=t.kids.length) with
 |false=>rfl
 |true=>
  simp only [Bool.true_and]
  by_cases hs:b7 t.kind=0→t.sys.length=0
  ·rw [decide_eq_true hs]
   have nosys:b7 t.kind=0→t.sys.all (bZ t.kind dims)=true:=fun h=>by
    grind
   unfold nK oq rK l6
   by_cases c1:t.kind=1
   ·simp only [c1,if_true,show ((1:Int)=2)=False from by simp,show ((1:Int)=13)=False from by simp,show ((1:Int)=14)=False from by simp,show ((1:Int)=21)=False from by simp,show ((1:Int)=26)=False from by simp,or_self,if_false,true_or,decide_true,Bool.true_and,false_or]
    rw [c1] at nosys
    rw [nosys (by decide)]
    grind [BM]
   ·by_cases c2:t.kind=2
    ·simp only [c2,if_true,show ((2:Int)=1)=False from by simp,show ((2:Int)=13)=False from by simp,show ((2:Int)=14)=False from by simp,show ((2:Int)=21)=False from by simp,show ((2:Int)=26)=False from by simp,or_self,if_false,true_or,decide_true,Bool.true_and,false_or]
     rw [c2] at nosys
     rw [nosys (by decide)]
     grind [BM]
    ·simp only [c1,c2,if_false,false_or,Bool.true_and]
     by_cases c3:t.kind=13∨t.kind=21∨t.kind=26
     ·rw [if_pos c3,if_pos c3,nosys (by rcases c3 with h|h|h<;>rw [h]<;>decide)]
      grind
     ·rw [if_neg c3,if_neg c3]
      by_cases c4:t.kind=14
      ·rw [if_pos c4,if_pos c4,nosys (by rw [c4];decide)]
       grind
      grind [BM]
  grind
theorem aer (t:Tm):OkT t→ ∀ {k:Nat} {vars dims:Int} {bd:Bool} (ret:Bool→Option S),Fd k (ap t)→VD vars dims (ap t)→cq k t vars dims bd ret=ret (bg bd vars dims t):=by
 induction t using dQ with
 |h t ih1 ih2=>
  intro ht k vars dims bd ret hk hv
  obtain ⟨q,rfl,hq,hf⟩:=hk.pos' (cE t)
  have hp:=cE t
  have hv':=hv
  unfold VD at hv'
  have hv1:VD vars dims 1:=by unfold VD;omega
  have hm:=dX t.kind
  obtain ⟨o1,o2,o3,o4,o5,o6,o7⟩:=ht.no
  have hQ: ∀y∈t.kids,∀v d,0≤v∧v≤1→0≤d∧d≤1→ ∀g:Bool→Option S,cq q y (dx vars v) (dims+d) bd g=g (bg bd (dx vars v) (dims+d) y):=fun y hy v d h1 h2 g=>ih1 y hy (ht.ki hy) g (hf _ (ct hy)) (by
   have:=ct hy;have:=PP (vars:=vars) h1;unfold VD;omega)
  have hQ': ∀b∈t.sys,∀y∈b.kids,∀g:Bool→Option S,cq q y vars (dims+aw t.kind) bd g=g (bg bd vars (dims+aw t.kind) y):=fun b hb y hy g=>ih2 b hb y hy ((ht.bi hb).2 y hy) g (hf _ (cr hb hy)) (by
   have:=cr hb hy;unfold VD;omega)
  have h4:iX (cq q) q ret t vars dims bd q 0=_:=aaz (bd:=bd) hq ret hv1 hQ hQ' ht t.kids [] q rfl (by omega)
  rw [UX,UW] at h4
  have h4:iX (cq q) q ret t vars dims bd q 0=ret (bY bd vars dims t.kind 0 t.kids&&(t.sys.all (bZ t.kind dims)&&c7 bd vars dims t.kind t.sys)):=h4
  generalize hAK:bY bd vars dims t.kind 0 t.kids=AK at h4
  generalize hAS:c7 bd vars dims t.kind t.sys=AS at h4
  generalize hw:(AK&&(t.sys.all (bZ t.kind dims)&&AS))=W at h4
  obtain ⟨q',hq'⟩: ∃q',q=q'+1:=⟨q-1,by omega⟩
  have j3:nU (cq q) q ret t vars dims bd q=ret (cG t.r dims&&W):=by
   simp_all [nU,ub,jk,ak,Nd]
  have j2:nT (cq q) q ret t vars dims bd q=ret (rK t&&(cG t.r dims&&W)):=by
   have: ∀j,j=q'+1→nT (cq q) q ret t vars dims bd j=pC (cq q) q ret t vars dims bd (nU (cq q) q ret t vars dims bd q):=by rintro j rfl;rfl
   rw [this q hq',j3]
   simp only [pC,ak hq,fE hq o4 (show t.r.length<2147483648 by omega),ml hq o4 (show t.r.length<2147483648 by omega),jk]
   have hr0:ab (decide (((t.r.length:Nat):Int)>0)) (ret false) (ret (cG t.r dims&&W))=ret (decide (t.r.length=0)&&(cG t.r dims&&W)):=by
    grind [aO,decide_eq_false]
   grind [b9,rK]
  have j1:rk (cq q) q ret t vars dims bd q=ret (oq t&&(rK t&&(cG t.r dims&&W))):=by
   have: ∀j,j=q'+1→rk (cq q) q ret t vars dims bd j=pB (cq q) q ret t vars dims bd (nT (cq q) q ret t vars dims bd q):=by rintro j rfl;rfl
   rw [this q hq',j2]
   simp only [pB,ak hq,aeE hq (show t.name.size<2147483648 by omega),Ca,jk]
   unfold oq
   by_cases c:t.kind=2
   ·simp_all [ai,ad,jk]
   grind [ad,ai]
  have j0:wB (cq q) q ret t vars dims bd q=ret (nK vars t&&(oq t&&(rK t&&(cG t.r dims&&W)))):=by
   grind [wB,ua,nK,aO,decide_eq_false]
  simp only [cq,Et,aF,ak hq,aex,Nr,j0]
  have hkk:(dL t.kind==(t.kids.length:Int))=decide (dL t.kind=t.kids.length):=by rfl
  generalize hZ:(nK vars t&&(oq t&&(rK t&&(cG t.r dims&&W))))=Z
  have hsy:ab (decide (((t.sys.length:Nat):Int)>0)) (ab (b7 t.kind==0) (ret false) (ret Z)) (ret Z)=ret (decide (0<t.sys.length→b7 t.kind≠0)&&Z):=by
   grind [b9]
  rw [hsy,jk,hkk]
  have hfin:=ac_ vars dims t AK AS
  rw [hw,hZ] at hfin
  rw [hfin,th,hAK,hAS]
  cases bd<;>grind [aO,ad]
theorem aeB {t:Tm} (ht:OkT t) (hk:Fd k (ap t)) (hs:aG t<1099511627776) (ret:Int→Option S):vu k t ret=ret (if ap t>200 then 62 else if aG t>20000 then 221 else 0):=by
 grind [vL,vu,O8,aF,aO,aew,aeA]
theorem Dm {t:Tm} (ht:OkT t) (hk:Fd k (ap t)) (hs:aG t<1099511627776) (ret:Int→Option S):mU k t ret=ret (bA t):=by
 have:=vL t
 simp only [mU,O3,aF,ak hk.fu,aeB ht hk hs,aer t ht _ hk (show VD (-1) 24 (ap t) by unfold VD;omega),bQ]
 unfold bA
 by_cases h1:ap t>200
 ·rw [if_pos h1,if_pos h1];rfl
 ·rw [if_neg h1,if_neg h1]
  by_cases h2:aG t>20000
  ·rw [if_pos h2,if_pos h2];rfl
  ·rw [if_neg h2,if_neg h2,decide_eq_true rfl,ai]
   cases bg false (-1) 24 t<;>rfl
theorem aa2 (hk:Fu k) (ret:Bool→Option S) {l:List Cl} (hlen:l.length<2147483648):
  ∀ (r p:List Cl) (m:Nat),l=p++r→r.length<m→iW k ret l l m (p.length:Int)=ret true:=by
 intro r
 induction r with
 |nil=>
  grind [al,iW,mt,ad]
 |cons x r ih=>
  intro p m h hm
  obtain ⟨m,rfl,hm'⟩:=al hm
  obtain ⟨e1,e2,e3,e4⟩:=ay h (by omega)
  grind [iW,mt,ai,ad]
theorem Nv (hk:Fu k) {l:List Cl} (hlen:l.length<2147483648) (ret:Bool→Option S):iA k l l ret=ret true:=by
 simp only [iA,yg,beq_self_eq_true,Bool.not_true,ad]
 exact aa2 hk ret hlen l [] k rfl (by omega)
section
variable {hd:Tm→Tm→(Bool→Option S)→Option S}
theorem aai (hk:Fu k) (ret:Bool→Option S) {l:List Tm} (hlen:l.length<2147483648) (hQ: ∀y∈l,∀g,hd y y g=g true):
  ∀ (r p:List Tm) (m:Nat),l=p++r→r.length<m→nY hd k ret l l m (p.length:Int)=ret true:=by
 intro r
 induction r with
 |nil=>
  grind [al,nY,uk,ad]
 |cons x r ih=>
  intro p m h hm
  obtain ⟨m,rfl,hm'⟩:=al hm
  obtain ⟨e1,e2,e3,e4⟩:=ay h (by omega)
  grind [nY,uk,ai,aF,ad]
theorem Nc (hk:Fu k) (ret:Bool→Option S) {l:List Tm} (hlen:l.length<2147483648) (hQ: ∀y∈l,∀g,hd y y g=g true):qB hd k l l ret=ret true:=by
 simp only [qB,EB,beq_self_eq_true,Bool.not_true,ad]
 exact aai hk ret hlen hQ l [] k rfl (by omega)
theorem aay (hk:Fu k) (ret:Bool→Option S) {t:Tm} (ht:OkT t) (hQ: ∀b∈t.sys,∀y∈b.kids,∀g,hd y y g=g true):
  ∀ (r p:List (Br Tm)) (m:Nat),t.sys=p++r→r.length<m→nW hd k ret t t m (p.length:Int)=ret true:=by
 obtain ⟨o1,o2,o3,o4,o5,o6,o7⟩:=ht.no
 intro r
 induction r with
 |nil=>
  grind [al,nW,ui,ad]
 |cons x r ih=>
  intro p m h hm
  obtain ⟨m,rfl,hm'⟩:=al hm
  obtain ⟨e1,e2,e3,e4⟩:=ay h (by omega)
  have hx:x∈t.sys:=by grind
  have hb:=(ht.bi hx).1
  simp only [nW,ui,e1,ai,e2,Option.bind_some,ak hk,Nv hk (show x.face.length<2147483648 by omega),Nc hk _ (show x.kids.length<2147483648 by omega) (hQ x hx),e3,ih (p++[x]) m e4 hm',Bool.not_true,ad]
end
theorem Nt (t:Tm):OkT t→ ∀ {k:Nat} (ret:Bool→Option S),Fd k (ap t)→dC k t t ret=ret true:=by
 induction t using dQ with
 |h t ih1 ih2=>
  intro ht k ret hk
  obtain ⟨q,rfl,hq,hf⟩:=hk.pos' (cE t)
  obtain ⟨o1,o2,o3,o4,o5,o6,o7⟩:=ht.no
  have hQ: ∀y∈t.kids,∀g:Bool→Option S,dC q y y g=g true:=fun y hy g=>ih1 y hy (ht.ki hy) g (hf _ (ct hy))
  have hQ': ∀b∈t.sys,∀y∈b.kids,∀g:Bool→Option S,dC q y y g=g true:=fun b hb y hy g=>ih2 b hb y hy ((ht.bi hb).2 y hy) g (hf _ (cr hb hy))
  have:=aay hq ret ht hQ' t.sys [] q rfl (by omega)
  grind [dC,Ft,Ez,ad,ak,Nv,Nc]
section
variable {hd:Tm→Int→(Int→Option S)→Option S} {t:Tm}
theorem ZP (hk:Fu k) (ret:Int→Option S) (rec1:Int→Int→Option S) {v most:Int} {x:Br Tm} (hv:ae t.sys v=some x) (hQ: ∀y∈x.kids,∀n g,∃w,hd y n g=g w) (hl:x.kids.length<1073741824):
  ∀ (r p:List Tm) (m:Nat) (a:Int),x.kids=p++r→r.length<m→ ∃w,iY hd k ret rec1 t most v m a (p.length:Int)=rec1 w (IntKind.wrap .i64 (v+1)):=by
 intro r
 induction r with
 |nil=>
  intro p m a h hm
  obtain ⟨m,rfl,hm'⟩:=al hm
  exact ⟨a,by grind [iY,uf,ad]⟩
 |cons y r ih=>
  intro p m a h hm
  obtain ⟨m,rfl,hm'⟩:=al hm
  obtain ⟨e1,e2,e3,e4⟩:=ay h (by omega)
  simp only [iY,uf,hv,e1,ai,e2,Option.bind_some,aF,e3]
  cases decide (a≤most) with
  |false=>exact ⟨a,rfl⟩
  |true=>
   rw [ai]
   obtain ⟨w,hw⟩:=hQ y (by grind) (IntKind.wrap .i64 (most-a)) (fun r8=>iY hd k ret rec1 t most v m (IntKind.wrap .i64 (a+r8)) (((p++[y]).length:Nat):Int))
   rw [hw]
   exact ih (p++[y]) m _ e4 hm'
theorem ZO (hk:Fu k) (ret:Int→Option S) {most:Int} (hQ: ∀b∈t.sys,∀y∈b.kids,∀n g,∃w,hd y n g=g w) (ht:OkT t):
  ∀ (r p:List (Br Tm)) (m:Nat) (a:Int),t.sys=p++r→r.length<m→ ∃w,gQ hd k ret t most m a (p.length:Int)=ret w:=by
 obtain ⟨o1,o2,o3,o4,o5,o6,o7⟩:=ht.no
 intro r
 induction r with
 |nil=>
  intro p m a h hm
  obtain ⟨m,rfl,hm'⟩:=al hm
  exact ⟨a,by grind [gQ,pH,ad]⟩
 |cons x r ih=>
  intro p m a h hm
  obtain ⟨m,rfl,hm'⟩:=al hm
  obtain ⟨e1,e2,e3,e4⟩:=ay h (by omega)
  have hx:x∈t.sys:=by grind
  have hb:=(ht.bi hx).1
  simp only [gQ,pH,e1,ai,e2,Option.bind_some,e3]
  cases decide (a≤most) with
  |false=>exact ⟨a,rfl⟩
  |true=>
   rw [ai]
   cases decide (((x.face.length:Nat):Int)>most) with
   |true=>exact ⟨_,rfl⟩
   |false=>
    rw [ad]
    obtain ⟨w,hw⟩:=ZP (t:=t) (most:=most) hk ret (gQ hd k ret t most m) e2 (hQ x hx) hb.2.2 x.kids [] k (IntKind.wrap .i64 (IntKind.wrap .i64 (a+1)+((x.face.length:Nat):Int))) rfl (by omega)
    have hw:iY hd k ret (gQ hd k ret t most m) t most (p.length:Int) k (IntKind.wrap .i64 (IntKind.wrap .i64 (a+1)+((x.face.length:Nat):Int))) 0=_:=hw
    rw [hw,e3]
    exact ih (p++[x]) m w e4 hm'
theorem ZN (hk:Fu k) (ret:Int→Option S) {most:Int} (hQ: ∀y∈t.kids,∀n g,∃w,hd y n g=g w) (hQ': ∀b∈t.sys,∀y∈b.kids,∀n g,∃w,hd y n g=g w) (ht:OkT t):
  ∀ (r p:List Tm) (m:Nat) (a:Int),t.kids=p++r→r.length<m→ ∃w,lH hd k ret t most m a (p.length:Int)=ret w:=by
 obtain ⟨o1,o2,o3,o4,o5,o6,o7⟩:=ht.no
 intro r
 have hs:=fun a=>ZO (most:=most) hk ret hQ' ht t.sys [] k a rfl (by omega)
 induction r with
 |nil=>
  intro p m a h hm
  obtain ⟨m,rfl,hm'⟩:=al hm
  simp_all [lH,pG,ad]
 |cons y r ih=>
  intro p m a h hm
  obtain ⟨m,rfl,hm'⟩:=al hm
  obtain ⟨e1,e2,e3,e4⟩:=ay h (by omega)
  simp only [lH,pG,e1,ai,e2,Option.bind_some,aF,e3]
  cases decide (a≤most) with
  |false=>exact hs a
  |true=>
   rw [ai]
   obtain ⟨w,hw⟩:=hQ y (by grind) (IntKind.wrap .i64 (most-a)) (fun r2=>lH hd k ret t most m (IntKind.wrap .i64 (a+r2)) (((p++[y]).length:Nat):Int))
   rw [hw]
   exact ih (p++[y]) m _ e4 hm'
end
theorem aes (t:Tm):OkT t→ ∀ {k:Nat} (most:Int) (ret:Int→Option S),Fd k (ap t)→ ∃w,fi k t most ret=ret w:=by
 induction t using dQ with
 |h t ih1 ih2=>
  intro ht k most ret hk
  obtain ⟨q,rfl,hq,hf⟩:=hk.pos' (cE t)
  obtain ⟨o1,o2,o3,o4,o5,o6,o7⟩:=ht.no
  have hQ: ∀y∈t.kids,∀n (g:Int→Option S),∃w,fi q y n g=g w:=fun y hy n g=>ih1 y hy (ht.ki hy) n g (hf _ (ct hy))
  have hQ': ∀b∈t.sys,∀y∈b.kids,∀n (g:Int→Option S),∃w,fi q y n g=g w:=fun b hb y hy n g=>ih2 b hb y hy ((ht.bi hb).2 y hy) n g (hf _ (cr hb hy))
  simp only [fi,Ev]
  cases decide (((t.r.length:Nat):Int)>most) with
  |true=>exact ⟨_,rfl⟩
  |false=>
   rw [ad]
   cases decide (((t.name.size:Nat):Int)>most) with
   |true=>exact ⟨_,rfl⟩
   |false=>
    rw [ad]
    exact ZN hq ret hQ hQ' ht t.kids [] q _ rfl (by omega)
end Go.Proofs.YtehekgbehghgdaaGreatDoor
namespace Go.Proofs.YtehekgbehghgdaaGreatDoor
open Go PI
set_option linter.unusedVariables false
set_option linter.unusedSimpArgs false
set_option maxRecDepth 20000
variable {S:Type} {k:Nat}
def pE {α:Type}:Except Int α→Pan Int α
 | .ok a=> .ok a
 | .error e=> .pan e
def eE {α β:Type} (x:Except Int α) (f:α→β) (g:Int→β):β:=match x with
 | .ok a=>f a
 | .error e=>g e
theorem qR {α β:Type} (x:Except Int α) (f:α→β) (g:Int→β):Pan.elim (pE x) f g=eE x f g:=by cases x<;>rfl
theorem ba {α β γ:Type} (x:Except Int α) (f:α→Except Int β) (u:β→γ) (w:Int→γ):eE (bE x f) u w=eE x (fun a=>eE (f a) u w) w:=by cases x<;>rfl
theorem aZ {α β:Type} (a:α) (f:α→β) (g:Int→β):eE (.ok a) f g=f a:=rfl
theorem adj {α:Type} (x:Except Int α) (ret:Pan Int α→Option S):ret (pE x)=eE x (fun a=>ret (.ok a)) fun e=>ret (.pan e):=by cases x<;>rfl
def ar:Tm:= .mk 0 0 ByteArray.empty [] [] []
def bt (e:Int):Tm:= .mk (-e) 0 ByteArray.empty [] [] []
def rE:Except Int Tm→Tm
 | .ok t=>t
 | .error e=>bt e
def tE:Except Int Tm→Tm×Int
 | .ok t=>(t,0)
 | .error e=>(ar,e)
theorem xJ (x:Except Int Tm) (ret:Tm→Option S):ret (rE x)=eE x ret fun e=>ret (bt e):=by cases x<;>rfl
theorem cK {α β:Type} {x:Except Int α} {f f':α→β} {g g':Int→β} (h: ∀a,x= .ok a→f a=f' a) (h': ∀e,x= .error e→g e=g' e):eE x f g=eE x f' g':=by
 cases x with
 |ok a=>exact h a rfl
 |error e=>exact h' e rfl
theorem Nf (hk:Fu k) {a b d:Int} {f:List Cl} (hf:am f) (hl:f.length<1073741824) (hd:aH d) (hb:aH b) (ret:Pan Int (List Cl)→Option S):qn k a b f d ret=ret (pE (co d b f)):=by
 simp only [qn,Oy,ak hk,sP hk hf hl hd hb,bQ,aO,aL (show 0+f.length≤1099511627776 by omega)]
 unfold co
 by_cases h0:b=0
 ·rw [if_pos h0,if_pos (.inl h0)];rfl
 ·rw [if_neg h0]
  by_cases h1:d≥24
  ·rw [if_pos h1,if_pos (.inr h1)];rfl
  ·rw [if_neg h1,if_neg (show ¬ (b=0∨d≥24) by omega)]
   by_cases h2:(aX f d b).2=0
   ·rw [decide_eq_true h2,g_ h2];rfl
   ·rw [decide_eq_false h2,gm h2];rfl
theorem Nh (hk:Fu k) {b d:Int} {f:List Cl} (hf:RF f) (hd:0≤d∧d<9223372036854775808) (hb:0≤b∧b<9223372036854775808) (ret:List Cl×Int→Option S): ∃z:List Cl×Int,b_ z=co d b f∧qD k f d b ret=ret z:=by
 have hl:=hf.len
 simp only [qD,Pb,ak hk,xS hk hf.2 (show f.length<1073741824 by omega) (show aH d by unfold aH;omega) (show aH b by unfold aH;omega),oh,aO]
 by_cases h0:f.length=0
 ·refine ⟨([],0), ?_,by grind⟩
  have:=List.length_eq_zero_iff.1 h0
  subst this
  rw [xN];rfl
 ·refine ⟨aX f d b, ?_,by grind⟩
  unfold co
  split
  ·next h=>rw [abi hf hd.1 hb.1 h];rfl
  ·rfl
section
variable {hd:Int→Int→Tm→Int→Int→(Pan Int Tm→Option S)→Option S} {vb db v d:Int} {t:Tm}
theorem aah (hk:Fu k) (ret:Pan Int Tm→Option S) (rec2:List (Br Tm)→Int→Int→Option S) {r12 r2:List Cl} {b1 v90:Int} {ks:List Tm} {o:List (Br Tm)} {x:Br Tm} {more:Int} (hm:more=aw t.kind)
  (hd0:0≤d∧d<4611686018427387904) (hQ: ∀y∈x.kids,∀g,hd vb db y v (d+more) g=g (pE (a_ vb db v (d+more) y))) (hl:x.kids.length<1073741824) (ho:o.length<1073741824):
  ∀ (r p:List Tm) (m:Nat) (acc:List Tm),x.kids=p++r→r.length<m→acc.length=p.length→
  jZ hd k ret rec2 r12 vb db t b1 r2 ks o x more v d v90 m acc (p.length:Int)=eE (dq vb db v d t.kind r) (fun l=>rec2 (o++[⟨r12,acc++l⟩]) more (IntKind.wrap .i64 (v90+1))) fun e=>ret (.pan e):=by
 subst hm
 have hmo:=dX t.kind
 intro r
 induction r with
 |nil=>
  grind [al,jZ,tK,ad,dq,aZ,aL]
 |cons y r ih=>
  intro p m acc h hm ha
  obtain ⟨m,rfl,hm'⟩:=al hm
  obtain ⟨e1,e2,e3,e4⟩:=ay h (by omega)
  have hpl:p.length<x.kids.length:=by grind
  have hy:=hQ y (by grind)
  simp only [jZ,tK,e1,ai,e2,Option.bind_some,aF,bq (n:=d+aw t.kind) (by omega) (by omega),hy,qR,dq,ba,aZ]
  refine cK (fun t' ht'=> ?_) fun e _=>rfl
  rw [aL (by grind),e3,ih (p++[y]) m (acc++[t']) e4 hm' (by grind)]
  simp
theorem aag (hk:Fu k) (ret:Pan Int Tm→Option S) {r2:List Cl} {b1:Int} {ks:List Tm} {more:Int} (hm:more=aw t.kind) (ht:OkT t) (hdb:aH db) (hd0:0≤d∧d<4611686018427387904)
  (hQ: ∀b∈t.sys,∀y∈b.kids,∀g,hd vb db y v (d+more) g=g (pE (a_ vb db v (d+more) y))):
  ∀ (r p:List (Br Tm)) (m:Nat) (o:List (Br Tm)),t.sys=p++r→r.length<m→o.length=p.length→
  fX hd k ret vb db t b1 r2 ks v d m o more (p.length:Int)=eE (dD vb db v d t.kind r) (fun l=>ret (.ok (.mk t.kind b1 t.name r2 ks (o++l)))) fun e=>ret (.pan e):=by
 obtain ⟨o1,o2,o3,o4,o5,o6,o7⟩:=ht.no
 intro r
 induction r with
 |nil=>
  grind [al,fX,pr,ad,dD,aZ]
 |cons x r ih=>
  intro p m o h hml ho
  obtain ⟨m,rfl,hm'⟩:=al hml
  obtain ⟨e1,e2,e3,e4⟩:=ay h (by omega)
  have hx:x∈t.sys:=by grind
  have hpl:p.length<t.sys.length:=by grind
  have hb:=(ht.bi hx).1
  have hrow:=Nf (S:=S) hk (a:=vb) hb.1 hb.2.1 (show aH d by unfold aH;omega) hdb
  have:=fun r12=>aah hk ret (fX hd k ret vb db t b1 r2 ks v d m) (r12:=r12) (r2:=r2) (b1:=b1) (v90:=(p.length:Int)) (ks:=ks) (o:=o) hm hd0 (hQ x hx) hb.2.2 (by omega) x.kids [] k [] rfl (by omega) rfl
  have this: ∀r12,jZ hd k ret (fX hd k ret vb db t b1 r2 ks v d m) r12 vb db t b1 r2 ks o x more v d (p.length:Int) k [] 0=_:=this
  have hB:rq vb db v d t.kind x=bE (co d db x.face) fun f'=>bE (dq vb db v d t.kind x.kids) fun ks'=> .ok (.mk f' ks'):=by cases x;rfl
  simp only [fX,pr,e1,ai,e2,Option.bind_some,ak hk,hrow,qR,this,dD,hB,ba,aZ,List.nil_append,e3]
  refine cK (fun f' _=>cK (fun ks' _=> ?_) fun e _=>rfl) fun e _=>rfl
  rw [ih (p++[x]) m (o++[Br.mk f' ks']) e4 hm' (by grind)]
  simp
theorem aaf (hk:Fu k) (ret:Pan Int Tm→Option S) {r2:List Cl} {b1:Int} (ht:OkT t) (hdb:aH db) (hd0:0≤d∧d<4611686018427387904) (hv0:0≤v∧v<4611686018427387904)
  (hQ: ∀y∈t.kids,∀a b,0≤a∧a≤1→0≤b∧b≤1→ ∀g,hd vb db y (v+a) (d+b) g=g (pE (a_ vb db (v+a) (d+b) y))) (hQ': ∀b∈t.sys,∀y∈b.kids,∀g,hd vb db y v (d+aw t.kind) g=g (pE (a_ vb db v (d+aw t.kind) y))):
  ∀ (r p:List Tm) (m:Nat) (acc:List Tm),t.kids=p++r→r.length<m→acc.length=p.length→
  iR hd k ret vb db t b1 r2 v d m acc (p.length:Int)=eE (dU vb db v d t.kind p.length r) (fun l=>eE (dD vb db v d t.kind t.sys) (fun s=>ret (.ok (.mk t.kind b1 t.name r2 (acc++l) s))) fun e=>ret (.pan e)) fun e=>ret (.pan e):=by
 obtain ⟨o1,o2,o3,o4,o5,o6,o7⟩:=ht.no
 intro r
 induction r with
 |nil=>
  intro p m acc h hm ha
  obtain ⟨m,rfl,hm'⟩:=al hm
  have hs:fX hd k ret vb db t b1 r2 acc v d k [] (aw t.kind) 0=_:=aag hk ret rfl ht hdb hd0 hQ' t.sys [] k [] rfl (by omega) rfl
  grind [iR,pq,dU,aZ,b9,aw]
 |cons y r ih=>
  intro p m acc h hm ha
  obtain ⟨m,rfl,hm'⟩:=al hm
  obtain ⟨e1,e2,e3,e4⟩:=ay h (by omega)
  have hpl:p.length<t.kids.length:=by grind
  have b1':=uB t.kind p.length
  have b2':=iq t.kind p.length
  have hy:=hQ y (by grind) (dy t.kind p.length) (bJ t.kind p.length) b1' b2'
  simp only [iR,pq,e1,ai,e2,Option.bind_some,ak hk,oJ,aF,bq (n:=v+dy t.kind p.length) (by omega) (by omega),bq (n:=d+bJ t.kind p.length) (by omega) (by omega),hy,qR,dU,ba,aZ]
  refine cK (fun t' ht'=> ?_) fun e _=>rfl
  rw [aL (by grind),e3,ih (p++[y]) m (acc++[t']) e4 hm' (by grind),show (p++[y]).length=p.length+1 by simp]
  simp
end
theorem BI (vb db v d:Int) (t:Tm):a_ vb db v d t=if t.kind=1∧t.n≥v∧t.n>1000000000-vb then .error 100 else bE (co d db t.r) fun r'=>bE (dU vb db v d t.kind 0 t.kids) fun ks'=>bE (dD vb db v d t.kind t.sys) fun sys'=> .ok (.mk t.kind (if t.kind=1∧t.n≥v then t.n+vb else t.n) t.name r' ks' sys'):=by cases t;rfl
theorem RowsT.no {t:Tm} (h:RowsT t):RF t.r∧(t.kind=1→t.r=[])∧0≤t.kind:=by cases t;rw [RowsT] at h;exact h.1
theorem RowsT.ki {t x:Tm} (h:RowsT t) (hx:x∈t.kids):RowsT x:=by cases t;rw [RowsT] at h;exact rowsK_iff.1 h.2.1 x hx
theorem RowsT.bi {t:Tm} {b:Br Tm} (h:RowsT t) (hb:b∈t.sys):RF b.face∧ ∀x∈b.kids,RowsT x:=by cases t;rw [RowsT] at h;exact rowsS_iff.1 h.2.2 b hb
def VP (v d:Int) (n:Nat):Prop:=0≤v∧v+n<4611686018427387904∧0≤d∧d+n<4611686018427387904
theorem ad5 {vb db:Int} (hvb:0≤vb∧vb≤1000000000) (hdb:aH db) (t:Tm):OkT t→RowsT t→ ∀ {k:Nat} {v d:Int} (ret:Pan Int Tm→Option S),Fd k (ap t)→VP v d (ap t)→cJ k vb db t v d ret=ret (pE (a_ vb db v d t)):=by
 induction t using dQ with
 |h t ih1 ih2=>
  intro ht hro k v d ret hk hv
  obtain ⟨q,rfl,hq,hf⟩:=hk.pos' (cE t)
  obtain ⟨q',hq'⟩: ∃q',q=q'+1:=⟨q-1,by omega⟩
  have hp:=cE t
  unfold VP at hv
  obtain ⟨o1,o2,o3,o4,o5,o6,o7⟩:=ht.no
  have hmo:=dX t.kind
  have hQ: ∀y∈t.kids,∀a b,0≤a∧a≤1→0≤b∧b≤1→ ∀g:Pan Int Tm→Option S,cJ q vb db y (v+a) (d+b) g=g (pE (a_ vb db (v+a) (d+b) y)):=fun y hy a b h1 h2 g=>
   ih1 y hy (ht.ki hy) (hro.ki hy) g (hf _ (ct hy)) (by have:=ct hy;unfold VP;omega)
  have hQ': ∀b∈t.sys,∀y∈b.kids,∀g:Pan Int Tm→Option S,cJ q vb db y v (d+aw t.kind) g=g (pE (a_ vb db v (d+aw t.kind) y)):=fun b hb y hy g=>
   ih2 b hb y hy ((ht.bi hb).2 y hy) ((hro.bi hb).2 y hy) g (hf _ (cr hb hy)) (by have:=cr hb hy;unfold VP;omega)
  have h1:=fun r2 b1=>aaf (r2:=r2) (b1:=b1) hq ret ht hdb (show 0≤d∧d<4611686018427387904 by omega) (show 0≤v∧v<4611686018427387904 by omega) hQ hQ' t.kids [] q [] rfl (by omega) rfl
  have h0: ∀r2 b1,rg (cJ q) q ret vb db t r2 v d q b1=iR (cJ q) q ret vb db t b1 r2 v d q [] 0:=by
   intro r2 b1
   have: ∀j,j=q'+1→rg (cJ q) q ret vb db t r2 v d j b1=iR (cJ q) q ret vb db t b1 r2 v d q [] 0:=by rintro j rfl;rfl
   grind
  have h2: ∀r2 b1,rg (cJ q) q ret vb db t r2 v d q b1=_:=fun r2 b1=>(h0 r2 b1).trans (h1 r2 b1)
  have hrow:=Nf (S:=S) hq (a:=vb) o4 o5 (show aH d by unfold aH;omega) hdb
  simp only [cJ,D6,ak hq,hrow,qR,h2,List.length_nil,List.nil_append]
  rw [adj _ ret,BI]
  unfold aH at o2
  by_cases hc:t.kind=1
  ·have hr:=hro.no.2.1 hc
   rw [hr,xN,aZ,hc,show ((1:Int)==1)=true from rfl,ai,aO]
   by_cases hn:t.n≥v
   ·rw [if_pos hn,bq (n:=1000000000-vb) (by omega) (by omega),aO]
    by_cases hb:t.n>1000000000-vb
    ·rw [if_pos hb,if_pos (show (1:Int)=1∧t.n≥v∧t.n>1000000000-vb from ⟨rfl,hn,hb⟩)];rfl
    grind [ba,bq,aZ]
   grind [ba,aZ]
  ·have hc':(t.kind==1)=false:=by grind
   rw [hc',if_neg (show ¬ (t.kind=1∧t.n≥v∧t.n>1000000000-vb) from fun h=>hc h.1)]
   simp_all [ad,ba,aZ]
theorem kx {e:Int} (he:0<e∧e≤1000) (ret:Int×Int×ByteArray→Option S):ei k e ret=ret (-e,0,ByteArray.empty):=by
 grind [ei,O9,bq]
theorem np {e:Int} (he:0<e):decide ((bt e).kind<0)=true:=decide_eq_true (show-e<0 by omega)
section
variable {hd:Tm→Int→Int→Int→Int→(Tm→Option S)→Option S} {vb db v d:Int} {t:Tm}
theorem xl {x:Except Int Tm} (hx: ∀e,x= .error e→0<e) (hx': ∀y,x= .ok y→0≤y.kind) (f:Tm→Option S) (ret:Tm→Option S):
  (fun r:Tm=>ab (decide (r.kind<0)) (ret r) (f r)) (rE x)=eE x f fun e=>ret (bt e):=by
 cases x with
 |error e=>show ab _ _ _=_;rw [show rE (.error e)=bt e from rfl,np (hx e rfl),ai];rfl
 |ok y=>show ab _ _ _=_;rw [show rE (.ok y)=y from rfl,decide_eq_false (by grind),ad];rfl
theorem wK {vb db v d:Int} {x y:Tm} (h:a_ vb db v d x= .ok y):y.kind=x.kind:=by
 rw [BI] at h
 split at h
 ·cases h
 ·obtain ⟨_,_,h⟩:=bH h
  obtain ⟨_,_,h⟩:=bH h
  obtain ⟨_,_,h⟩:=bH h
  injection h with h;subst h;rfl
theorem aaQ (hk:Fu k) (ret:Tm→Option S) (rec2:List (Br Tm)→Int→Option S) {r9 r2:List Cl×Int} {b1 i18:Int} {ks:List Tm} {o:List (Br Tm)} {x:Br Tm} (hi:ae t.sys i18=some x)
  (hd0:0≤d∧d<4611686018427387904) (hQ: ∀y∈x.kids,∀g,hd y v vb (d+aw t.kind) db g=g (rE (a_ vb db v (d+aw t.kind) y))) (hkd: ∀y∈x.kids,0≤y.kind) (hl:x.kids.length<1073741824) (ho:o.length<1073741824):
  ∀ (r p:List Tm) (m:Nat) (acc:List Tm),x.kids=p++r→r.length<m→acc.length=p.length→
  gR hd k ret rec2 t b1 r2 ks o r9 v i18 vb d db m acc (p.length:Int)=eE (dq vb db v d t.kind r) (fun l=>rec2 (o++[⟨r9.1,acc++l⟩]) (IntKind.wrap .i64 (i18+1))) fun e=>ret (bt e):=by
 have hmo:=dX t.kind
 intro r
 induction r with
 |nil=>
  grind [al,gR,ul,ad,dq,aZ,aL]
 |cons y r ih=>
  intro p m acc h hm ha
  obtain ⟨m,rfl,hm'⟩:=al hm
  obtain ⟨e1,e2,e3,e4⟩:=ay h (by omega)
  have hpl:p.length<x.kids.length:=by grind
  have hym:y∈x.kids:=by grind
  have hy:=hQ y hym
  simp only [gR,ul,hi,e1,ai,e2,Option.bind_some,ak hk,Dp,aF,bq (n:=d+aw t.kind) (by omega) (by omega),hy]
  refine Eq.trans (xl (fun e he=>(jf y he).1) (fun z hz=>by grind [wK]) (fun z=>Option.bind (aq 1099511627776 acc.length [z].length) fun _=>gR hd k ret rec2 t b1 r2 ks o r9 v i18 vb d db m (acc++[z]) (IntKind.wrap .i64 ((p.length:Int)+1))) ret) ?_
  simp only [dq,ba,aZ]
  refine cK (fun t' ht'=> ?_) fun e _=>rfl
  rw [aL (by grind),e3,ih (p++[y]) m (acc++[t']) e4 hm' (by grind)]
  simp
theorem s_ {z:List Cl×Int} {α:Type} (f:List Cl→α) (g:Int→α):ab (!(z.2==0)) (g z.2) (f z.1)=eE (b_ z) f g:=by
 rw [bQ]
 unfold b_
 by_cases h:z.2=0
 ·rw [decide_eq_true h,if_pos h];rfl
 ·rw [decide_eq_false h,if_neg h];rfl
theorem aaP (hk:Fu k) (ret:Tm→Option S) {r2:List Cl×Int} {b1:Int} {ks:List Tm} (ht:OkT t) (hro:RowsT t) (hdb:0≤db∧db<9223372036854775808) (hd0:0≤d∧d<4611686018427387904)
  (hQ: ∀b∈t.sys,∀y∈b.kids,∀g,hd y v vb (d+aw t.kind) db g=g (rE (a_ vb db v (d+aw t.kind) y))):
  ∀ (r p:List (Br Tm)) (m:Nat) (o:List (Br Tm)),t.sys=p++r→r.length<m→o.length=p.length→
  d9 hd k ret t b1 r2 ks v vb d db m o (p.length:Int)=eE (dD vb db v d t.kind r) (fun l=>ret (.mk t.kind b1 t.name r2.1 ks (o++l))) fun e=>ret (bt e):=by
 obtain ⟨o1,o2,o3,o4,o5,o6,o7⟩:=ht.no
 intro r
 induction r with
 |nil=>
  grind [al,d9,pR,ad,dD,aZ]
 |cons x r ih=>
  intro p m o h hml ho
  obtain ⟨m,rfl,hm'⟩:=al hml
  obtain ⟨e1,e2,e3,e4⟩:=ay h (by omega)
  have hx:x∈t.sys:=by grind
  have hpl:p.length<t.sys.length:=by grind
  have hb:=(ht.bi hx).1
  obtain ⟨z,hz,hrow⟩:=Nh (S:=S) hk (hro.bi hx).1 (show 0≤d∧d<9223372036854775808 by omega) hdb (fun r9=>ab (!(r9.2==0)) (ei k r9.2 fun r10=>ret (Tm.mk r10.1 r10.2.1 r10.2.2 [] [] []))
   (gR hd k ret (d9 hd k ret t b1 r2 ks v vb d db m) t b1 r2 ks o r9 v (p.length:Int) vb d db k [] 0))
  have:=aaQ (r9:=z) (r2:=r2) (b1:=b1) (ks:=ks) (o:=o) hk ret (d9 hd k ret t b1 r2 ks v vb d db m) e2 hd0 (hQ x hx) (fun y hy=>((hro.bi hx).2 y hy).no.2.2) hb.2.2 (by omega) x.kids [] k [] rfl (by omega) rfl
  have this:gR hd k ret (d9 hd k ret t b1 r2 ks v vb d db m) t b1 r2 ks o z v (p.length:Int) vb d db k [] 0=_:=this
  have hB:rq vb db v d t.kind x=bE (co d db x.face) fun f'=>bE (dq vb db v d t.kind x.kids) fun ks'=> .ok (.mk f' ks'):=by cases x;rfl
  simp only [d9,pR,e1,ai,e2,Option.bind_some,ak hk,hrow,this,dD,hB,ba,aZ,List.nil_append,e3]
  have hbad:ab (!(z.2==0)) (ei k z.2 fun r10=>ret (Tm.mk r10.1 r10.2.1 r10.2.2 [] [] [])) (eE (dq vb db v d t.kind x.kids) (fun l=>d9 hd k ret t b1 r2 ks v vb d db m (o++[Br.mk z.1 l]) (((p++[x]).length:Nat):Int)) fun e=>ret (bt e))
    =ab (!(z.2==0)) (ret (bt z.2)) (eE (dq vb db v d t.kind x.kids) (fun l=>d9 hd k ret t b1 r2 ks v vb d db m (o++[Br.mk z.1 l]) (((p++[x]).length:Nat):Int)) fun e=>ret (bt e)):=by
   by_cases h0:z.2=0
   ·rw [h0];rfl
   ·have hze:b_ z= .error z.2:=gm h0
    rw [hz] at hze
    rw [kx (xM hze)];rfl
  rw [hbad,s_ (z:=z) (fun f'=>eE (dq vb db v d t.kind x.kids) (fun l=>d9 hd k ret t b1 r2 ks v vb d db m (o++[Br.mk f' l]) (((p++[x]).length:Nat):Int)) fun e=>ret (bt e)) (fun e=>ret (bt e)),hz]
  refine cK (fun f' _=>cK (fun ks' _=> ?_) fun e _=>rfl) fun e _=>rfl
  grind
theorem aaO (hk:Fu k) (ret:Tm→Option S) {r2:List Cl×Int} {b1:Int} (ht:OkT t) (hro:RowsT t) (hdb:0≤db∧db<9223372036854775808) (hd0:0≤d∧d<4611686018427387904) (hv0:0≤v∧v<4611686018427387904)
  (hQ: ∀y∈t.kids,∀a b,0≤a∧a≤1→0≤b∧b≤1→ ∀g,hd y (v+a) vb (d+b) db g=g (rE (a_ vb db (v+a) (d+b) y))) (hQ': ∀b∈t.sys,∀y∈b.kids,∀g,hd y v vb (d+aw t.kind) db g=g (rE (a_ vb db v (d+aw t.kind) y))):
  ∀ (r p:List Tm) (m:Nat) (acc:List Tm),t.kids=p++r→r.length<m→acc.length=p.length→
  fZ hd k ret t b1 r2 v vb d db m acc (p.length:Int)=eE (dU vb db v d t.kind p.length r) (fun l=>eE (dD vb db v d t.kind t.sys) (fun s=>ret (.mk t.kind b1 t.name r2.1 (acc++l) s)) fun e=>ret (bt e)) fun e=>ret (bt e):=by
 obtain ⟨o1,o2,o3,o4,o5,o6,o7⟩:=ht.no
 intro r
 induction r with
 |nil=>
  intro p m acc h hm ha
  obtain ⟨m,rfl,hm'⟩:=al hm
  have hs:d9 hd k ret t b1 r2 acc v vb d db k [] 0=_:=aaP hk ret ht hro hdb hd0 hQ' t.sys [] k [] rfl (by omega) rfl
  grind [fZ,pQ,ad,dU,aZ]
 |cons y r ih=>
  intro p m acc h hm ha
  obtain ⟨m,rfl,hm'⟩:=al hm
  obtain ⟨e1,e2,e3,e4⟩:=ay h (by omega)
  have hpl:p.length<t.kids.length:=by grind
  have b1':=uB t.kind p.length
  have b2':=iq t.kind p.length
  have hym:y∈t.kids:=by grind
  have hy:=hQ y hym (dy t.kind p.length) (bJ t.kind p.length) b1' b2'
  simp only [fZ,pQ,e1,ai,e2,Option.bind_some,ak hk,Dl hk,aF,bq (n:=v+dy t.kind p.length) (by omega) (by omega),bq (n:=d+bJ t.kind p.length) (by omega) (by omega),hy]
  refine Eq.trans (xl (fun e he=>(jf y he).1) (fun z hz=>by rw [wK hz];exact (hro.ki hym).no.2.2) (fun z=>Option.bind (aq 1099511627776 acc.length [z].length) fun _=>fZ hd k ret t b1 r2 v vb d db m (acc++[z]) (IntKind.wrap .i64 ((p.length:Int)+1))) ret) ?_
  simp only [dU,ba,aZ]
  refine cK (fun t' ht'=> ?_) fun e _=>rfl
  rw [aL (by grind),e3,ih (p++[y]) m (acc++[t']) e4 hm' (by grind),show (p++[y]).length=p.length+1 by simp]
  simp
end
theorem aeD {vb db:Int} (hvb:0≤vb∧vb≤1000000000) (hdb:0≤db∧db<9223372036854775808) (t:Tm):OkT t→RowsT t→ ∀ {k:Nat} {v d:Int} (ret:Tm→Option S),Fd k (ap t)→VP v d (ap t)→dm k t v vb d db ret=ret (rE (a_ vb db v d t)):=by
 induction t using dQ with
 |h t ih1 ih2=>
  intro ht hro k v d ret hk hv
  obtain ⟨q,rfl,hq,hf⟩:=hk.pos' (cE t)
  obtain ⟨q',hq'⟩: ∃q',q=q'+1:=⟨q-1,by omega⟩
  have hp:=cE t
  unfold VP at hv
  obtain ⟨o1,o2,o3,o4,o5,o6,o7⟩:=ht.no
  have hmo:=dX t.kind
  have hQ: ∀y∈t.kids,∀a b,0≤a∧a≤1→0≤b∧b≤1→ ∀g:Tm→Option S,dm q y (v+a) vb (d+b) db g=g (rE (a_ vb db (v+a) (d+b) y)):=fun y hy a b h1 h2 g=>
   ih1 y hy (ht.ki hy) (hro.ki hy) g (hf _ (ct hy)) (by have:=ct hy;unfold VP;omega)
  have hQ': ∀b∈t.sys,∀y∈b.kids,∀g:Tm→Option S,dm q y v vb (d+aw t.kind) db g=g (rE (a_ vb db v (d+aw t.kind) y)):=fun b hb y hy g=>
   ih2 b hb y hy ((ht.bi hb).2 y hy) ((hro.bi hb).2 y hy) g (hf _ (cr hb hy)) (by have:=cr hb hy;unfold VP;omega)
  have h1:=fun r2 b1=>aaO (r2:=r2) (b1:=b1) hq ret ht hro hdb (show 0≤d∧d<4611686018427387904 by omega) (show 0≤v∧v<4611686018427387904 by omega) hQ hQ' t.kids [] q [] rfl (by omega) rfl
  have h1: ∀r2 b1,fZ (dm q) q ret t b1 r2 v vb d db q [] 0=_:=h1
  have h0: ∀b1,wE (dm q) q ret t v vb d db q b1=eE (co d db t.r) (fun r'=>eE (dU vb db v d t.kind 0 t.kids) (fun l=>eE (dD vb db v d t.kind t.sys) (fun s=>ret (.mk t.kind b1 t.name r' l s)) fun e=>ret (bt e)) fun e=>ret (bt e)) fun e=>ret (bt e):=by
   intro b1
   have: ∀j,j=q'+1→wE (dm q) q ret t v vb d db j b1=pP (dm q) q ret t v vb d db (fun b11_1 r2 b11_4 i14=>fZ (dm q) q ret t b11_1 r2 v vb d db q b11_4 i14) b1:=by rintro j rfl;rfl
   rw [this q hq']
   obtain ⟨z,hz,hrow⟩:=Nh (S:=S) hq hro.no.1 (show 0≤d∧d<9223372036854775808 by omega) hdb (fun r2=>ab (!(r2.2==0)) (ei q r2.2 fun r3=>ret (Tm.mk r3.1 r3.2.1 r3.2.2 [] [] [])) (fZ (dm q) q ret t b1 r2 v vb d db q [] 0))
   simp only [pP,ak hq,hrow]
   rw [h1]
   simp only [List.nil_append]
   rw [←hz]
   by_cases hz0:z.2=0
   ·rw [g_ hz0,hz0];rfl
   ·have hze:b_ z= .error z.2:=gm hz0
    have hze':=hze
    rw [hz] at hze'
    rw [hze,bQ,decide_eq_false hz0,Bool.not_false,ai,kx (xM hze')];rfl
  simp only [dm,ED,ak hq,h0]
  rw [xJ _ ret,BI]
  unfold aH at o2
  by_cases hc:t.kind=1
  ·rw [hc,show ((1:Int)==1)=true from rfl,ai,aO]
   by_cases hn:t.n≥v
   ·rw [if_pos hn,bq (n:=1000000000-vb) (by omega) (by omega),aO]
    by_cases hb:t.n>1000000000-vb
    ·rw [if_pos hb,if_pos (show (1:Int)=1∧t.n≥v∧t.n>1000000000-vb from ⟨rfl,hn,hb⟩),kx (by omega)];rfl
    grind [bq,ba,aZ]
   grind [ba,aZ]
  ·have hc':(t.kind==1)=false:=by grind
   rw [hc',if_neg (show ¬ (t.kind=1∧t.n≥v∧t.n>1000000000-vb) from fun h=>hc h.1)]
   simp_all [ad,ba,aZ]
end Go.Proofs.YtehekgbehghgdaaGreatDoor
namespace Go.Proofs.YtehekgbehghgdaaGreatDoor
open Go PI
set_option linter.unusedVariables false
set_option linter.unusedSimpArgs false
set_option maxRecDepth 20000
variable {S:Type} {k:Nat}
theorem gN {t:Tm} (h:bA t=0):ap t≤200∧aG t≤20000∧bg false (-1) 24 t=true:=by
 grind [bA]
theorem AY {t:Tm} (h1:ap t≤200) (h2:aG t≤20000) (h3:bg false (-1) 24 t=true):bA t=0:=by
 grind [bA]
theorem Yq (t:Tm):0≤bA t∧bA t≤1000:=by
 grind [bA]
def Fm (t:Tm):Prop:=OkT t∧bA t=0
theorem Fm.ok {t:Tm} (h:Fm t):OkT t:=h.1
theorem Fm.rows {t:Tm} (h:Fm t):RowsT t:=U1 t h.1 (gN h.2).2.2
theorem Fm.dep {t:Tm} (h:Fm t):ap t≤200:=(gN h.2).1
theorem Fm.siz {t:Tm} (h:Fm t):aG t≤20000:=(gN h.2).2.1
theorem HV {vb db v d:Int} (hvb:0≤vb∧vb≤1000000000) {t t':Tm} (h:Fm t) (hl:a_ vb db v d t= .ok t'):Fm t':=by
 obtain ⟨h1,h2,h3,h4⟩:=abt hvb.1 hvb.2 t v d t' hl
 obtain ⟨a,b,c⟩:=gN h.2
 have:=h4 h.1
 exact ⟨this.1,AY (by omega) (by omega) (this.2.2 24 24 (by omega) (by omega) c)⟩
abbrev F3 (k:Nat):Prop:=4294968296≤k
theorem F3.fu (h:F3 k):Fu k:=by omega
theorem F3.fd (h:F3 k) {n:Nat} (hn:n≤1000):Fd k n:=by omega
theorem Fm.fd {t:Tm} (h:Fm t) (hk:F3 k):Fd k (ap t):=hk.fd (by have:=h.dep;omega)
theorem Fm.vp {t:Tm} (h:Fm t) {v d:Int} (hv:0≤v∧v≤4611686018427380000) (hd:0≤d∧d≤4611686018427380000):VP v d (ap t):=by have:=h.dep;unfold VP;omega
theorem sK (x:Except Int Tm) (ret:Tm×Int→Option S):ret (tE x)=eE x (fun t=>ret (t,0)) fun e=>ret (ar,e):=by cases x<;>rfl
theorem Z_ (hk:Fu k) (ret:Tm×Int→Option S) {c0 c2:Int} {c1:Tm} {ns:List Int} (hl:ns.length<1000) (hn: ∀x∈ns,0≤x):
  ∀ (r p:List Int) (m:Nat),ns=p++r→r.length<m→lw k ret c0 c1 c2 ns m (p.length:Int)=va k c0 c1 c2 fun r4=>Pan.elim r4 (fun r4=>ret (r4,0)) fun e5=>ret (ar,e5):=by
 intro r
 induction r with
 |nil=>
  intro p m h hm
  obtain ⟨m,rfl,hm'⟩:=al hm
  simp only [lw,tJ,cv h,ad,ak hk,aF];rfl
 |cons x r ih=>
  intro p m h hm
  obtain ⟨m,rfl,hm'⟩:=al hm
  obtain ⟨e1,e2,e3,e4⟩:=ay h (by omega)
  have hx:=hn x (by grind)
  grind [lw,tJ,aO]
theorem ad4 (hk:F3 k) {t:Tm} (ht:Fm t) {f b:Int} (hf:0≤f∧f≤24) (hb:0≤b∧b<9223372036854775808) (ret:Tm×Int→Option S):jz k t f b ret=ret (tE (a_ 0 b 0 f t)):=by
 have hl:=Z_ hk.fu ret (c0:=b) (c2:=f) (c1:=t) (ns:=[f,b]) (by simp) (by grind) [f,b] [] k rfl (by grind)
 have hl:lw k ret b t f [f,b] k 0=_:=hl
 simp only [jz,D5,ak hk.fu,aF,vc,yd,oK ht.ok (ht.fd hk) (show ap t<1099511627776 by have:=ht.dep;omega),ht.2,hl,va,Ov]
 rw [show ((0:Int)==0)=true from rfl,Bool.not_true,ad,if_neg (by omega),ad5 (by omega) (by unfold aH;omega) t ht.ok ht.rows _ (ht.fd hk) (ht.vp (by omega) (by omega)),qR,sK _ ret]
 rfl
theorem aeg (hk:F3 k) {t:Tm} (ht:Fm t) {f b:Int} (hf:0≤f∧f≤24) (hb:0≤b∧b<9223372036854775808) (ret:Tm×Int→Option S):vv k t f b ret=ret (tE (a_ 0 b 0 f t)):=by
 simp only [vv,O_,ak hk.fu,aF,An,Pc,Dm ht.ok (ht.fd hk) (show aG t<1099511627776 by have:=ht.siz;omega),ht.2,aO]
 rw [show ((0:Int)==0)=true from rfl,ai,if_neg (by omega),if_neg (by omega)]
 rw [Bool.not_true,ad,if_neg (by omega),aeD (by omega) (by omega) t ht.ok ht.rows _ (ht.fd hk) (ht.vp (by omega) (by omega))]
 simp only [vw,Pa]
 cases hx:a_ 0 b 0 f t with
 |ok y=>
  rw [show rE (.ok y)=y from rfl,decide_eq_false (by have:=wK hx;have:=ht.rows.no.2.2;omega),ad]
  simp only [aF];rfl
 |error e=>
  have he:=jf t hx
  rw [show rE (.error e)=bt e from rfl,np he.1,ai,bq (show-9223372036854775808≤0-(bt e).kind by show _≤0-(-e);omega) (by show 0-(-e)<_;omega)]
  show ret (ar,0-(-e))=ret (ar,e)
  simp
end Go.Proofs.YtehekgbehghgdaaGreatDoor
namespace Go.Proofs.YtehekgbehghgdaaGreatDoor
open Go PI
set_option linter.unusedVariables false
set_option linter.unusedSimpArgs false
set_option maxRecDepth 20000
variable {S:Type} {k:Nat}
theorem M6 {l:List Cl} (hl:l.length<1073741824) (ret:List Cl→Option S):ow l ret=ret l:=by
 grind [ow,aL]
section
variable {hd:Tm→(Tm→Option S)→Option S}
theorem ZR (hk:Fu k) (ret:List Tm→Option S) {l:List Tm} (hQ: ∀y∈l,∀g,hd y g=g y) (hl:l.length<1073741824):
  ∀ (r p:List Tm) (m:Nat),l=p++r→r.length<m→n9 hd k ret l m p (p.length:Int)=ret l:=by
 intro r
 induction r with
 |nil=>
  grind [al,n9,uw,ad]
 |cons y r ih=>
  intro p m h hm
  obtain ⟨m,rfl,hm'⟩:=al hm
  obtain ⟨e1,e2,e3,e4⟩:=ay h (by omega)
  grind [n9,uw,ai,aF,aL]
theorem M7 (hk:Fu k) {l:List Tm} (hQ: ∀y∈l,∀g,hd y g=g y) (hl:l.length<1073741824) (ret:List Tm→Option S):qJ hd k l ret=ret l:=by
 simp only [qJ,EO]
 exact ZR hk ret hQ hl l [] k rfl (by omega)
theorem ZS (hk:Fu k) (ret:Tm→Option S) {t:Tm} (ht:OkT t) (hQ: ∀b∈t.sys,∀y∈b.kids,∀g,hd y g=g y) (r1:List Cl) (r2:List Tm):
  ∀ (r p:List (Br Tm)) (m:Nat),t.sys=p++r→r.length<m→n8 hd k ret t r1 r2 m p (p.length:Int)=ret (.mk t.kind t.n t.name r1 r2 t.sys):=by
 obtain ⟨o1,o2,o3,o4,o5,o6,o7⟩:=ht.no
 intro r
 induction r with
 |nil=>
  grind [al,n8,uu,ad]
 |cons y r ih=>
  intro p m h hm
  obtain ⟨m,rfl,hm'⟩:=al hm
  obtain ⟨e1,e2,e3,e4⟩:=ay h (by omega)
  have hy:y∈t.sys:=by grind
  have hb:=(ht.bi hy).1
  have hlen:p.length+r.length+1=t.sys.length:=by grind
  simp only [n8,uu,e1,ai,e2,Option.bind_some,aF,e3,M6 hb.2.1,ak hk,M7 hk (hQ y hy) hb.2.2]
  rw [aL (by grind)]
  have:=ih (p++[y]) m e4 hm'
  omega
end
theorem MX (t:Tm):OkT t→ ∀ {k:Nat} (ret:Tm→Option S),Fd k (ap t)→dn k t ret=ret t:=by
 induction t using dQ with
 |h t ih1 ih2=>
  intro ht k ret hk
  obtain ⟨q,rfl,hq,hf⟩:=hk.pos' (cE t)
  obtain ⟨o1,o2,o3,o4,o5,o6,o7⟩:=ht.no
  simp only [dn,EM,M6 o5,ak hq,M7 hq (fun y hy g=>ih1 y hy (ht.ki hy) g (hf _ (ct hy))) o6]
  have:=ZS hq ret ht (fun b hb y hy g=>ih2 b hb y hy ((ht.bi hb).2 y hy) g (hf _ (cr hb hy))) t.r t.kids t.sys [] q rfl (by omega)
  refine Eq.trans this ?_
  cases t;rfl
theorem acq {v d d':Int} (h:24≤d) (h':24≤d') (t:Tm):dO v d t=dO v d' t:=by
 have hb: ∀kd,bZ kd d=bZ kd d':=fun kd=>by grind [bZ,wM]
 simp_all [dO,wM]
theorem Fc (t:Tm): ∀ {v d d':Int},24≤d→24≤d'→bg false v d t=bg false v d' t:=by
 induction t using dQ with
 |h t ih1 ih2=>
  intro v d d' h h'
  rw [th,th,acq h h']
  have hK: ∀ (l:List Tm) (i:Nat),(∀x∈l,x∈t.kids)→bY false v d t.kind i l=bY false v d' t.kind i l:=by
   intro l
   induction l<;>grind [bY,bJ]
  grind [zq,aw]
end Go.Proofs.YtehekgbehghgdaaGreatDoor
namespace Go.Proofs.YtehekgbehghgdaaGreatDoor
open Go PI
set_option linter.unusedVariables false
set_option linter.unusedSimpArgs false
set_option maxRecDepth 20000
variable {S:Type} {k:Nat}
def aR (i:Int) (r:List Cl) (fa:Bool):c6:=fun d f=>if bo (fS f) (i+d) then bE (b_ (aX r 0 d)) fun s=>b_ (if fa then gb f (i+d) s else gc f (i+d) s) else .ok f
theorem Ax (f:List Cl):U32 (fS f):=by
 have:=Ay f
 exact ⟨Int.natCast_nonneg _,by show ((eQ f:Nat):Int)<_;omega⟩
theorem acE {f r:List Cl} {i:Int} (hr:am r) (h:(gc f i r).2=0):RF (gc f i r).1:=by
 grind [gc,GR,JW,eI,oE]
theorem B_ (f g:List Cl):EN (cH f g).2:=oe _
theorem Bd (f g:List Cl):EN (ck f g).2:=oe _
theorem abD (f g:List Cl):EN (dW f g).2:=oe _
theorem JI (f:List Cl):EN (cx f).2:=wg fun h c=>B_ _ _
theorem acu (i:Int) (r:List Cl) (c:Cl):EN (dF i r c).2:=by
 grind [dF,B_,qS]
theorem acw (i:Int) (r:List Cl) (c:Cl) (g:List Cl):EN (ee i r c g).2:=by
 grind [ee,B_,JI,qS]
theorem act (i:Int) (r h:List Cl) (c:Cl):EN (dt i r h c).2:=by
 grind [dt,Bd,acw,acu]
theorem acD (f:List Cl) (i:Int) (r:List Cl):EN (gc f i r).2:=by
 grind [gc,wg,act,jN]
theorem abQ (f:List Cl):EN (eD f).2:=by
 unfold eD
 split
 ·exact oe _
 ·exact jN
theorem abR (f:List Cl):EN (eX f).2:=by
 unfold eX
 split
 ·split
  ·exact oe _
  ·exact JI _
 ·exact jN
theorem acz {i:Int} {c:Cl} {h:List Cl} {q:List Cl×Int} (hq:EN q.2):EN (dP i c h q).2:=by
 grind [dP,Bd,abD]
theorem acA (f:List Cl) (i:Int) (r:List Cl):EN (gb f i r).2:=by
 grind [gb,wg,b8,acz,abQ,abR,Bd,jN]
theorem oF {i:Int} {r:List Cl} {fa:Bool} {d:Int} {f g:List Cl} (hf:RF f) (h:aR i r fa d f= .ok g):RF g:=by
 unfold aR at h
 split at h
 ·obtain ⟨s,h1,h⟩:=bH h
  obtain ⟨h0,rfl⟩:=ta h1
  have hs:=je h0
  obtain ⟨h2,rfl⟩:=ta h
  cases fa with
  |true=>exact (acB hf.2 hs.2 h2).1
  |false=>exact acE hs.2 h2
 grind
theorem xO {i:Int} {r:List Cl} {fa:Bool} {d:Int} {f:List Cl} {e:Int} (h:aR i r fa d f= .error e):0<e∧e≤1000:=by
 grind [aR,bV,yk,oj,EN,acA,acD]
theorem MD {i:Int} {r:List Cl} {fa:Bool} {d:Int}:aR i r fa d []= .ok []:=by
 grind [aR,bo,fS,Int.toNat_natCast,Az,h8]
def du (i:Int) (r:List Cl) (fa:Bool) (d:Int) (f:List Cl):List Cl×Int:=if bo (fS f) (i+d) then if (aX r 0 d).2=0 then if fa then gb f (i+d) (aX r 0 d).1 else gc f (i+d) (aX r 0 d).1 else ([],(aX r 0 d).2) else (f,0)
theorem mn (i:Int) (r:List Cl) (fa:Bool) (d:Int) (f:List Cl):b_ (du i r fa d f)=aR i r fa d f:=by
 grind [du,aR,g_,aD,gm,io]
section
variable {i d:Int} {r f:List Cl}
theorem Nu (hk:Fu k) (hf:RF f) (hr:RF r) (hi:0≤i∧i<24) (hd:0≤d∧d<4611686018427387000) (ret:List Cl×Int→Option S):qe k f d i r ret=ret (du i r true d f):=by
 have l1:=hf.len;have l2:=hr.len
 simp only [qe,NZ,ak hk,bq (n:=i+d) (by omega) (by omega),Dh hk hf.2 (show f.length<4294967296 by omega),oL hk (Ax f),qc,DE,aL (show 0+f.length≤1099511627776 by omega),sP hk hr.2 (show r.length<1073741824 by omega) (show aH 0 by unfold aH;omega) (show aH d by unfold aH;omega)]
 unfold du
 cases bo (fS f) (i+d) with
 |false=>rfl
 |true=>
  rw [Bool.not_true,ad,bQ,if_pos rfl]
  by_cases h0:(aX r 0 d).2=0
  ·have hs:=je h0
   rw [decide_eq_true h0,Bool.not_true,ad,adY hk hf.2 hs.2 hf.lt hs.lt,if_pos h0,if_pos rfl]
  grind [ai]
theorem aeF (hk:Fu k) (hf:RF f) (hr:RF r) (hi:0≤i∧i<24) (hd:0≤d∧d<4611686018427387000) (ret:List Cl×Int→Option S):uP k f d i r ret=ret (du i r false d f):=by
 have l1:=hf.len;have l2:=hr.len
 simp only [uP,NY,ak hk,bq (n:=i+d) (by omega) (by omega),Dh hk hf.2 (show f.length<4294967296 by omega),oL hk (Ax f),qc,DE,aL (show 0+f.length≤1099511627776 by omega),sP hk hr.2 (show r.length<1073741824 by omega) (show aH 0 by unfold aH;omega) (show aH d by unfold aH;omega)]
 unfold du
 cases bo (fS f) (i+d) with
 |false=>rfl
 |true=>
  rw [Bool.not_true,ad,bQ,if_pos rfl]
  by_cases h0:(aX r 0 d).2=0
  ·have hs:=je h0
   rw [decide_eq_true h0,Bool.not_true,ad,adV hk hf.2 hs.2 hf.lt hs.lt,if_pos h0,if_neg (by decide)]
  grind [ai]
theorem Ni (hk:Fu k) {fa:Bool} (hf:RF f) (hr:RF r) (hi:0≤i∧i<24) (hd:0≤d∧d<4611686018427387000) (ret:List Cl×Int→Option S):qF k f fa i r d ret=ret (du i r fa d f):=by
 have l1:=hf.len;have l2:=hr.len
 simp only [qF,Pe,ak hk,bq (n:=i+d) (by omega) (by omega),Nm hk hf.2 (show f.length<1073741824 by omega),gi hk (Ax f),xS hk hr.2 (show r.length<1073741824 by omega) (show aH 0 by unfold aH;omega) (show aH d by unfold aH;omega)]
 unfold du
 cases bo (fS f) (i+d) with
 |false=>rfl
 |true=>
  rw [Bool.not_true,ad,bQ,if_pos rfl]
  by_cases h0:(aX r 0 d).2=0
  ·have hs:=je h0
   rw [decide_eq_true h0,Bool.not_true,ad,if_pos h0]
   cases fa with
   |true=>rw [ai,aeq hk hf.2 hs.2 hf.lt hs.lt,if_pos rfl]
   |false=>rw [ad,aez hk hf.2 hs.2 hf.lt hs.lt,if_neg (by decide)]
  grind [ai]
end
def ir (j:Int) (c:Cl):Cl:=⟨m7 c.pos j,m7 c.neg j⟩
def aW (j:Int) (f:List Cl):List Cl:=(aY (f.map (ir j))).1
theorem Ge (s j:Int):0≤m7 s j∧m7 s j<16777216:=by
 have:=VL s.toNat j
 exact ⟨Int.natCast_nonneg _,by show ((iE s.toNat j:Nat):Int)<_;omega⟩
theorem zW (j:Int) (c:Cl):RC (ir j c):=⟨Ge _ _,Ge _ _⟩
theorem zZ (j:Int) (f:List Cl): ∀c∈f.map (ir j),RC c:=fun c hc=>by
 grind [zW]
theorem zY {j:Int} {f:List Cl} (hf:f.length≤64):aY (f.map (ir j))=(aW j f,0):=Prod.ext rfl (HQ (zZ j f) (by grind))
theorem VB {j:Int} {f:List Cl} (hf:f.length≤64):RF (aW j f):=og (fun c hc=>(zZ j f c hc).ok) (by rw [zY hf])
theorem abL: ∀ (n:Nat) {l:List Cl} {c:Cl},(l.filter fun d=>di c d&& !decide (d=c)).length≤n→(∀d∈l,RC d)→c∈l→ ∃d∈l,bK l d=true:=by
 have hle: ∀ {a b:Cl},RC a→RC b→(di a b=true↔(∀j,b.pos.toNat.testBit j=true→a.pos.toNat.testBit j=true)∧ ∀j,b.neg.toNat.testBit j=true→a.neg.toNat.testBit j=true):=by
  intro a b ha hb
  unfold di dE
  rw [decide_eq_true_eq]
  have hor: ∀ {x y:Int},0≤x→(dN x y=x↔ ∀j,y.toNat.testBit j=true→x.toNat.testBit j=true):=by
   intro x y hx
   unfold dN
   constructor
   ·intro h j hj
    have:(x.toNat|||y.toNat)=x.toNat:=by omega
    grind
   ·intro h
    have:(x.toNat|||y.toNat)=x.toNat:=by
     apply Nat.eq_of_testBit_eq
     grind
    omega
  cases a with
  |mk p q=>
   have h1:0≤p:=ha.1.1
   have h2:0≤q:=ha.2.1
   grind
 have hanti: ∀ {a b:Cl},RC a→RC b→di a b=true→di b a=true→a=b:=by
  intro a b ha hb h1 h2
  have e1:=(hle ha hb).1 h1
  have e2:=(hle hb ha).1 h2
  have hx: ∀ {x y:Int},0≤x→0≤y→(∀j,y.toNat.testBit j=true→x.toNat.testBit j=true)→(∀j,x.toNat.testBit j=true→y.toNat.testBit j=true)→x=y:=by
   intro x y hx hy a b
   have:x.toNat=y.toNat:=by
    apply Nat.eq_of_testBit_eq
    grind
   omega
  cases a;cases b
  have p1:=hx ha.1.1 hb.1.1 e1.1 e2.1
  have p2:=hx ha.2.1 hb.2.1 e1.2 e2.2
  grind
 intro n
 induction n with
 |zero=>
  grind [bK,List.filter_eq_nil_iff]
 |succ n ih=>
  intro l c hn hl hc
  by_cases h:bK l c=true
  ·grind
  ·unfold bK at h
   rw [List.all_eq_true] at h
   have: ∃d∈l,¬ ((decide (d=c)|| !di c d)=true):=Classical.byContradiction fun hh=>h fun d hd=>Classical.byContradiction fun h2=>hh ⟨d,hd,h2⟩
   obtain ⟨d,hd,hd'⟩:=this
   have h1:d≠c:=fun h=>hd' (by grind)
   have h2:di c d=true:=by
    grind
   refine ih (c:=d) ?_ hl hd
   have hsub:(l.filter fun e=>di d e&& !decide (e=d)).length<(l.filter fun e=>di c e&& !decide (e=c)).length:=by
    have hc':=hl c hc;have hdr:=hl d hd
    have himp: ∀e∈l,(di d e&& !decide (e=d))=true→(di c e&& !decide (e=c))=true:=by
     grind
    have hle2: ∀ (p q:Cl→Bool) (m:List Cl),(∀e∈m,p e=true→q e=true)→(m.filter p).length≤(m.filter q).length:=by
     intro p q m
     induction m<;>grind
    have hlt: ∀ (p q:Cl→Bool) (m:List Cl),(∀e∈m,p e=true→q e=true)→d∈m→p d=false→q d=true→(m.filter p).length<(m.filter q).length:=by
     intro p q m
     induction m with
     |nil=>simp
     |cons e m im=>
      intro hm hdm hp hq
      have hrest: ∀e∈m,p e=true→q e=true:=fun e he=>hm e (by simp [he])
      have hb:=hle2 p q m hrest
      rcases List.mem_cons.1 hdm with rfl|hdm<;>grind
    exact hlt _ _ l himp hd (by simp) (by grind)
   omega
theorem FK {j:Int} {f:List Cl} (hf:RF f):(aW j f).length=0↔f.length=0:=by
 have h:=zY (j:=j) hf.len
 have hm:=(wJ h).1
 constructor
 ·intro h0
  apply Classical.byContradiction
  intro hne
  obtain ⟨c,hc⟩:=List.exists_mem_of_length_pos (l:=f.map (ir j)) (by grind)
  obtain ⟨d,hd,hn⟩:=abL _ (Nat.le_refl _) (zZ j f) hc
  have:d∈aW j f:=by grind [mem_mins]
  grind
 ·intro h0
  have:=List.length_eq_zero_iff.1 h0
  subst this;rfl
theorem ZV (hk:Fu k) (ret:List Cl×Int→Option S) {i d:Int} (hi:0≤i∧i<24) (hd:0≤d∧d<4611686018427387000) {f:List Cl} (hf:am f) (hlen:f.length<1073741824):
  ∀ (r p:List Cl) (m:Nat) (o:List Cl),f=p++r→r.length<m→am o→o.length=p.length→nr k ret i d f m (p.length:Int) o=ret (aY (o++r.map (ir (i+d)))):=by
 intro r
 induction r with
 |nil=>
  intro p m o h hm hok ho
  obtain ⟨m,rfl,hm'⟩:=al hm
  grind [nr,tl,ad,ak,jj]
 |cons x r ih=>
  intro p m o h hm hok ho
  obtain ⟨m,rfl,hm'⟩:=al hm
  obtain ⟨e1,e2,e3,e4⟩:=ay h (by omega)
  have hx:aM x:=hf x (by grind)
  have hpl:p.length<f.length:=by grind
  simp only [nr,tl,e1,ai,e2,Option.bind_some,ak hk,bq (n:=i+d) (by omega) (by omega),MY hk hx.1,MY hk hx.2,e3]
  rw [aL (by grind)]
  have:=ih (p++[x]) m (o++[ir (i+d) x]) e4 hm' (eb hok fun c hc=>by simp at hc;subst hc;exact (zW _ _).ok) (by grind)
  refine Eq.trans this ?_
  simp
theorem M9 (hk:Fu k) {i d:Int} (hi:0≤i∧i<24) (hd:0≤d∧d<4611686018427387000) {f:List Cl} (hf:RF f) (ret:List Cl×Int→Option S):mE k f d i ret=ret (aW (i+d) f,0):=by
 have l1:=hf.len
 have:=ZV hk ret hi hd hf.2 (by omega) f [] k [] rfl (by omega) (fun c hc=>by cases hc) rfl
 grind [mE,DD,zY]
theorem ZT (hk:Fu k) (ret:List Cl→Option S) {j:Int} {f:List Cl} (hf:am f) (hlen:f.length<1073741824):
  ∀ (r p:List Cl) (m:Nat) (o:List Cl),f=p++r→r.length<m→am o→o.length=p.length→nZ k ret f j m o (p.length:Int)=ret (aY (o++r.map (ir j))).1:=by
 intro r
 induction r with
 |nil=>
  intro p m o h hm hok ho
  obtain ⟨m,rfl,hm'⟩:=al hm
  grind [nZ,um,ad,ak,mj]
 |cons x r ih=>
  intro p m o h hm hok ho
  obtain ⟨m,rfl,hm'⟩:=al hm
  obtain ⟨e1,e2,e3,e4⟩:=ay h (by omega)
  have hx:aM x:=hf x (by grind)
  have hpl:p.length<f.length:=by grind
  simp only [nZ,um,e1,ai,e2,Option.bind_some,ak hk,Nn hk hx.1,Nn hk hx.2,e3]
  rw [aL (by grind)]
  have:=ih (p++[x]) m (o++[ir j x]) e4 hm' (eb hok fun c hc=>by simp at hc;subst hc;exact (zW _ _).ok) (by grind)
  refine Eq.trans this ?_
  simp
theorem M8 (hk:Fu k) {j:Int} {f:List Cl} (hf:RF f) (ret:List Cl→Option S):qE k f j ret=ret (aW j f):=by
 have l1:=hf.len
 have:=ZT hk ret (j:=j) hf.2 (by omega) f [] k [] rfl (by omega) (fun c hc=>by cases hc) rfl
 simp only [qE,EE]
 exact this
end Go.Proofs.YtehekgbehghgdaaGreatDoor
namespace Go.Proofs.YtehekgbehghgdaaGreatDoor
open Go PI
set_option linter.unusedVariables false
set_option linter.unusedSimpArgs false
set_option maxRecDepth 20000
variable {S:Type} {k:Nat}
theorem ym (fo fa:c6) (d:Int) (t:Tm):aP fo fa d t=bE (if t.kind=14 then fa d t.r else fo d t.r) fun r'=>bE (bh fo fa d t.kind 0 t.kids) fun ks'=>bE (aU fo fa d t.kind t.sys) fun sys'=> .ok (.mk t.kind t.n t.name r' ks' sys'):=by cases t;rfl
theorem E5 {fo fa:c6} {d:Int} {x y:Tm} (h:aP fo fa d x= .ok y):y.kind=x.kind:=by
 rw [ym] at h
 obtain ⟨_,_,h⟩:=bH h
 obtain ⟨_,_,h⟩:=bH h
 obtain ⟨_,_,h⟩:=bH h
 injection h with h;subst h;rfl
theorem yl (fo fa:c6) (d kd:Int) (b:Br Tm):eJ fo fa d kd b=bE (fa d b.face) fun f'=>if f'.length=0 then .ok [] else bE (bk fo fa d kd b.kids) fun ks'=> .ok [.mk f' ks']:=by cases b;rfl
section
variable {fo fa:c6} (hfo: ∀d f e,fo d f= .error e→0<e∧e≤1000) (hfa: ∀d f e,fa d f= .error e→0<e∧e≤1000)
include hfo hfa
theorem h9 (t:Tm): ∀ {d e},aP fo fa d t= .error e→0<e∧e≤1000:=by
 induction t using jm with
 |h kd n nm r ks sys ih1 ih2=>
  intro d e h
  rw [aP] at h
  rcases bV h with h|⟨_,_,h⟩
  ·grind
  have hkids: ∀ {l:List Tm} {i:Nat},(∀x∈l,∀ {d e},aP fo fa d x= .error e→0<e∧e≤1000)→bh fo fa d kd i l= .error e→0<e∧e≤1000:=by
   intro l
   induction l with
   |nil=>grind [bh]
   |cons t l ih=>
    intro i hl h
    rw [bh] at h
    rcases bV h with h|⟨_,_,h⟩
    ·exact hl t (by simp) h
    grind [bV]
  have hmore: ∀ {l:List Tm},(∀x∈l,∀ {d e},aP fo fa d x= .error e→0<e∧e≤1000)→ ∀ {e},bk fo fa d kd l= .error e→0<e∧e≤1000:=by
   intro l
   induction l with
   |nil=>grind [bk]
   |cons t l ih=>
    intro hl e h
    rw [bk] at h
    rcases bV h with h|⟨_,_,h⟩
    ·grind
    ·rcases bV h with h|⟨_,_,h⟩
     ·exact ih (fun x hx=>hl x (by simp [hx])) h
     simp_all
  have hsys: ∀ {l:List (Br Tm)},(∀b∈l,∀x∈b.kids,∀ {d e},aP fo fa d x= .error e→0<e∧e≤1000)→aU fo fa d kd l= .error e→0<e∧e≤1000:=by
   intro l
   induction l<;>grind [aU,bV,yl]
  grind [bV]
theorem PR {kd d:Int}: ∀ {l:List Tm} {i:Nat} {e:Int},bh fo fa d kd i l= .error e→0<e∧e≤1000:=by
 intro l
 induction l with
 |nil=>grind [bh]
 |cons t l ih=>
  intro i e h
  rw [bh] at h
  rcases bV h with h|⟨_,_,h⟩
  ·exact h9 hfo hfa t h
  grind [bV]
theorem PS {kd d:Int}: ∀ {l:List Tm} {e:Int},bk fo fa d kd l= .error e→0<e∧e≤1000:=by
 intro l
 induction l<;>grind [bk,bV,h9]
end
theorem sX {α β:Type} (x:Except Int Tm) (hx: ∀e,x= .error e→0<e∧e≤1000) (f:Tm→α) (g:Int→α):(fun r:Tm×Int=>ab (!(r.2==0)) (g r.2) (f r.1)) (tE x)=eE x f g:=by
 cases x with
 |ok t=>rfl
 |error e=>
  have:=(hx e rfl).1
  show ab (!(e==0)) (g e) (f ar)=g e
  grind [decide_eq_false,ai]
theorem wZ {α β γ:Type} (x:Except Int α) (hx: ∀e,x= .error e→0<e∧e≤1000) (z:α) (f:α→β) (g:Int→β):eE x (fun l=>(fun r:α×Int=>ab (!(r.2==0)) (g r.2) (f r.1)) (l,0)) (fun e=>(fun r:α×Int=>ab (!(r.2==0)) (g r.2) (f r.1)) (z,e))=eE x f g:=by
 cases x with
 |ok t=>rfl
 |error e=>
  have:=(hx e rfl).1
  show ab (!(e==0)) (g e) (f z)=g e
  grind [decide_eq_false,ai]
theorem kj {G:Int→List Cl→List Cl}: ∀d f e,ax G d f= .error e→0<e∧e≤1000:=fun d f e h=>by cases h
theorem g8 {i:Int} {r:List Cl} {fa:Bool}: ∀d f e,aR i r fa d f= .error e→0<e∧e≤1000:=fun d f e h=>xO h
section
variable {hd:Tm→Int→Int→List Cl→(Tm×Int→Option S)→Option S} {i d:Int} {t:Tm} {r:List Cl}
theorem acI (hk:Fu k) (hi:0≤i∧i<24) (hr:RF r) (hd0:0≤d∧d<4611686018427386000) (hro:RowsT t) (ret:List Cl×Int→Option S): ∃z:List Cl×Int,b_ z=(if t.kind=14 then (aR i r true) d t.r else (aR i r false) d t.r)∧uQ k t d i r ret=ret z:=by
 have hr0:=hro.no.1
 simp only [uQ,N5,ak hk,Nu hk hr0 hr hi (show 0≤d∧d<4611686018427387000 by omega),aeF hk hr0 hr hi (show 0≤d∧d<4611686018427387000 by omega)]
 by_cases h:t.kind=14
 ·rw [h,if_pos rfl,show ((14:Int)==14)=true from rfl,ai]
  grind [mn]
 ·rw [if_neg h,show (t.kind==14)=false from by grind,ad]
  grind [mn]
theorem acF (hk:Fu k) (ret:List Tm×Int→Option S) (hd0:0≤d∧d<4611686018427386000) (hQ: ∀y∈t.kids,∀b,0≤b∧b≤1→ ∀g,hd y (d+b) i r g=g (tE (aP (aR i r false) (aR i r true) (d+b) y))) (hl:t.kids.length<1073741824):
  ∀ (r' p:List Tm) (m:Nat) (acc:List Tm),t.kids=p++r'→r'.length<m→acc.length=p.length→
  jW hd k ret i r t t.kids d m acc (p.length:Int)=eE (bh (aR i r false) (aR i r true) d t.kind p.length r') (fun l=>ret (acc++l,0)) fun e=>ret ([],e):=by
 intro r'
 induction r' with
 |nil=>
  grind [al,jW,tr,ad,bh,aZ]
 |cons y r' ih=>
  intro p m acc h hm ha
  obtain ⟨m,rfl,hm'⟩:=al hm
  obtain ⟨e1,e2,e3,e4⟩:=ay h (by omega)
  have hpl:p.length<t.kids.length:=by grind
  have b2':=iq t.kind p.length
  have hy:=hQ y (by grind) (bJ t.kind p.length) b2'
  simp only [jW,tr,e1,ai,e2,Option.bind_some,ak hk,qf,DJ,oJ,aF,bq (n:=d+bJ t.kind p.length) (by omega) (by omega),hy]
  refine Eq.trans (sX (β:=Unit) _ (fun e he=>h9 g8 g8 y he) (fun z=>Option.bind (aq 1099511627776 acc.length [z].length) fun _=>jW hd k ret i r t t.kids d m (acc++[z]) (IntKind.wrap .i64 ((p.length:Int)+1))) fun e=>ret ([],e)) ?_
  simp only [bh,ba,aZ]
  refine cK (fun t' ht'=> ?_) fun e _=>rfl
  rw [aL (by grind),e3,ih (p++[y]) m (acc++[t']) e4 hm' (by grind),show (p++[y]).length=p.length+1 by simp]
  simp
theorem acG (hk:Fu k) (ret:List Tm×Int→Option S) {x:Br Tm} {kd:Int} (hd0:0≤d∧d<4611686018427386000) (hQ: ∀y∈x.kids,∀g,hd y (d+aw kd) i r g=g (tE (aP (aR i r false) (aR i r true) (d+aw kd) y))) (hl:x.kids.length<1073741824):
  ∀ (r' p:List Tm) (m:Nat) (acc:List Tm),x.kids=p++r'→r'.length<m→acc.length=p.length→
  jV hd k ret i r (aw kd) x.kids d m acc (p.length:Int)=eE (bk (aR i r false) (aR i r true) d kd r') (fun l=>ret (acc++l,0)) fun e=>ret ([],e):=by
 have hmo:=dX kd
 intro r'
 induction r' with
 |nil=>
  grind [al,jV,tq,ad,bk,aZ]
 |cons y r' ih=>
  intro p m acc h hm ha
  obtain ⟨m,rfl,hm'⟩:=al hm
  obtain ⟨e1,e2,e3,e4⟩:=ay h (by omega)
  have hpl:p.length<x.kids.length:=by grind
  have hy:=hQ y (by grind)
  simp only [jV,tq,e1,ai,e2,Option.bind_some,ak hk,qh,DK,aF,bq (n:=d+aw kd) (by omega) (by omega),hy]
  refine Eq.trans (sX (β:=Unit) _ (fun e he=>h9 g8 g8 y he) (fun z=>Option.bind (aq 1099511627776 acc.length [z].length) fun _=>jV hd k ret i r (aw kd) x.kids d m (acc++[z]) (IntKind.wrap .i64 ((p.length:Int)+1))) fun e=>ret ([],e)) ?_
  simp only [bk,ba,aZ]
  refine cK (fun t' ht'=> ?_) fun e _=>rfl
  rw [aL (by grind),e3,ih (p++[y]) m (acc++[t']) e4 hm' (by grind)]
  simp
theorem acH (hk:Fu k) (ret:Tm×Int→Option S) (hi:0≤i∧i<24) (hr:RF r) (hd0:0≤d∧d<4611686018427386000) {r1:List Cl×Int} {r2:List Tm×Int} (ht:OkT t) (hro:RowsT t) (hQ: ∀b∈t.sys,∀y∈b.kids,∀g,hd y (d+aw t.kind) i r g=g (tE (aP (aR i r false) (aR i r true) (d+aw t.kind) y))):
  ∀ (r' p:List (Br Tm)) (m:Nat) (o:List (Br Tm)),t.sys=p++r'→r'.length<m→o.length≤p.length→
  eT hd k ret i r t r1 r2 d m (aw t.kind) o (p.length:Int)=eE (aU (aR i r false) (aR i r true) d t.kind r') (fun s=>ret (.mk t.kind t.n t.name r1.1 r2.1 (o++s),0)) fun e=>ret (ar,e):=by
 obtain ⟨o1,o2,o3,o4,o5,o6,o7⟩:=ht.no
 intro r'
 induction r' with
 |nil=>
  grind [al,eT,tt,ad,aU,aZ]
 |cons x r' ih=>
  intro p m o h hml ho
  obtain ⟨m,rfl,hm'⟩:=al hml
  obtain ⟨e1,e2,e3,e4⟩:=ay h (by omega)
  have hx:x∈t.sys:=by grind
  have hpl:p.length<t.sys.length:=by grind
  have hb:=(ht.bi hx).1
  have hr0:=(hro.bi hx).1
  have hM:=fun g:List Tm×Int→Option S=>acG (kd:=t.kind) hk g hd0 (hQ x hx) hb.2.2 x.kids [] k [] rfl (by omega) rfl
  have hM: ∀g:List Tm×Int→Option S,jV hd k g i r (aw t.kind) x.kids d k [] 0=_:=hM
  simp only [eT,tt,e1,ai,e2,Option.bind_some,ak hk,Nu hk hr0 hr hi (show 0≤d∧d<4611686018427387000 by omega),Ae,DH,hM,e3,List.nil_append]
  have hin:=fun f':List Cl=>wZ (β:=Option S) (γ:=Unit) (bk (aR i r false) (aR i r true) d t.kind x.kids) (fun e he=>PS g8 g8 he) [] (fun l=>Option.bind (aq 1099511627776 o.length [Br.mk f' l].length) fun _=>eT hd k ret i r t r1 r2 d m (aw t.kind) (o++[Br.mk f' l]) (((p++[x]).length:Nat):Int)) fun e=>ret (ar,e)
  refine Eq.trans (s_ (z:=(du i r true d x.face)) (fun f'=>ab (((f'.length:Nat):Int)==0) (eT hd k ret i r t r1 r2 d m (aw t.kind) o (((p++[x]).length:Nat):Int)) (eE (bk (aR i r false) (aR i r true) d t.kind x.kids) (fun l=>(fun r5:List Tm×Int=>ab (!(r5.2==0)) (ret (ar,r5.2)) (Option.bind (aq 1099511627776 o.length [Br.mk f' r5.1].length) fun _=>eT hd k ret i r t r1 r2 d m (aw t.kind) (o++[Br.mk f' r5.1]) (((p++[x]).length:Nat):Int))) (l,0)) fun e=>(fun r5:List Tm×Int=>ab (!(r5.2==0)) (ret (ar,r5.2)) (Option.bind (aq 1099511627776 o.length [Br.mk f' r5.1].length) fun _=>eT hd k ret i r t r1 r2 d m (aw t.kind) (o++[Br.mk f' r5.1]) (((p++[x]).length:Nat):Int))) ([],e))) fun e=>ret (ar,e)) ?_
  rw [show b_ (du i r true d x.face)=(aR i r true) d x.face from mn _ _ _ _ _]
  rw [aU,yl,ba,ba]
  refine cK (fun f' hf'=> ?_) fun e _=>rfl
  rw [oh,aO]
  by_cases h0:f'.length=0
  ·rw [if_pos h0,if_pos h0,aZ,ba,ih (p++[x]) m o e4 hm' (by grind)]
   rfl
  ·rw [if_neg h0,if_neg h0,hin f',ba]
   refine cK (fun l hl=> ?_) fun e _=>rfl
   rw [aZ,ba,aL (by grind),ih (p++[x]) m (o++[Br.mk f' l]) e4 hm' (by grind)]
   grind [aZ]
end
theorem acJ {i:Int} {r:List Cl} (hi:0≤i∧i<24) (hr:RF r) (t:Tm):OkT t→RowsT t→ ∀ {k:Nat} {d:Int} (ret:Tm×Int→Option S),Fd k (ap t)→0≤d→d+ap t<4611686018427386000→dA k t d i r ret=ret (tE (aP (aR i r false) (aR i r true) d t)):=by
 induction t using dQ with
 |h t ih1 ih2=>
  intro ht hro k d ret hk hv hv'
  obtain ⟨q,rfl,hq,hf⟩:=hk.pos' (cE t)
  have hp:=cE t
  have hd0:0≤d∧d<4611686018427386000:=by omega
  obtain ⟨o1,o2,o3,o4,o5,o6,o7⟩:=ht.no
  have hmo:=dX t.kind
  have hQ: ∀y∈t.kids,∀b,0≤b∧b≤1→ ∀g:Tm×Int→Option S,dA q y (d+b) i r g=g (tE (aP (aR i r false) (aR i r true) (d+b) y)):=fun y hy b h2 g=>
   ih1 y hy (ht.ki hy) (hro.ki hy) g (hf _ (ct hy)) (by omega) (by have:=ct hy;omega)
  have hQ': ∀b∈t.sys,∀y∈b.kids,∀g:Tm×Int→Option S,dA q y (d+aw t.kind) i r g=g (tE (aP (aR i r false) (aR i r true) (d+aw t.kind) y)):=fun b hb y hy g=>
   ih2 b hb y hy ((ht.bi hb).2 y hy) ((hro.bi hb).2 y hy) g (hf _ (cr hb hy)) (by omega) (by have:=cr hb hy;omega)
  have hK: ∀g:List Tm×Int→Option S,jW (dA q) q g i r t t.kids d q [] 0=_:=fun g=>acF hq g hd0 hQ o6 t.kids [] q [] rfl (by omega) rfl
  have hS:=fun (r1:List Cl×Int) (r2:List Tm×Int)=>acH (r1:=r1) (r2:=r2) hq ret hi hr hd0 ht hro hQ' t.sys [] q [] rfl (by omega) (Nat.le_refl _)
  have hS: ∀ (r1:List Cl×Int) (r2:List Tm×Int),eT (dA q) q ret i r t r1 r2 d q (aw t.kind) [] 0=_:=hS
  have hcase: ∀ (r1:List Cl×Int) (r2:List Tm×Int),ab (t.kind==15) (eT (dA q) q ret i r t r1 r2 d q 1 [] 0) (eT (dA q) q ret i r t r1 r2 d q 0 [] 0)=eE (aU (aR i r false) (aR i r true) d t.kind t.sys) (fun s=>ret (.mk t.kind t.n t.name r1.1 r2.1 s,0)) fun e=>ret (ar,e):=by
   grind [b9,aw]
  obtain ⟨z,hz,hrow⟩:=acI hq hi hr hd0 hro (fun r1=>ab (!(r1.2==0)) (ret (ar,r1.2)) (eE (bh (aR i r false) (aR i r true) d t.kind 0 t.kids) (fun l=>(fun r2:List Tm×Int=>ab (!(r2.2==0)) (ret (ar,r2.2)) (eE (aU (aR i r false) (aR i r true) d t.kind t.sys) (fun s=>ret (.mk t.kind t.n t.name r1.1 r2.1 s,0)) fun e=>ret (ar,e))) (l,0)) fun e=>(fun r2:List Tm×Int=>ab (!(r2.2==0)) (ret (ar,r2.2)) (eE (aU (aR i r false) (aR i r true) d t.kind t.sys) (fun s=>ret (.mk t.kind t.n t.name r1.1 r2.1 s,0)) fun e=>ret (ar,e))) ([],e)))
  simp only [dA,DL,ak hq,aF,Af,DI,hK,hcase,List.nil_append,List.length_nil]
  refine Eq.trans hrow ?_
  rw [sK _ ret,ym,←hz]
  refine Eq.trans (s_ (z:=z) (fun r'=>eE (bh (aR i r false) (aR i r true) d t.kind 0 t.kids) (fun l=>(fun r2:List Tm×Int=>ab (!(r2.2==0)) (ret (ar,r2.2)) (eE (aU (aR i r false) (aR i r true) d t.kind t.sys) (fun s=>ret (.mk t.kind t.n t.name r' r2.1 s,0)) fun e=>ret (ar,e))) (l,0)) fun e=>(fun r2:List Tm×Int=>ab (!(r2.2==0)) (ret (ar,r2.2)) (eE (aU (aR i r false) (aR i r true) d t.kind t.sys) (fun s=>ret (.mk t.kind t.n t.name r' r2.1 s,0)) fun e=>ret (ar,e))) ([],e)) fun e=>ret (ar,e)) ?_
  rw [ba]
  refine cK (fun r' _=> ?_) fun e _=>rfl
  refine Eq.trans (wZ (β:=Option S) (γ:=Unit) (bh (aR i r false) (aR i r true) d t.kind 0 t.kids) (fun e he=>PR g8 g8 he) [] (fun l=>eE (aU (aR i r false) (aR i r true) d t.kind t.sys) (fun s=>ret (.mk t.kind t.n t.name r' l s,0)) fun e=>ret (ar,e)) fun e=>ret (ar,e)) ?_
  simp only [ba,aZ]
section
variable {hd:Tm→Int→Int→(Tm×Int→Option S)→Option S} {i d:Int} {t:Tm}
theorem VQ (hk:Fu k) (hi:0≤i∧i<24) (hd0:0≤d∧d<4611686018427386000) (hro:RowsT t) (ret:List Cl×Int→Option S): ∃z:List Cl×Int,b_ z=(if t.kind=14 then (ax fun d f=>aW (i+d) f) d t.r else (ax fun d f=>aW (i+d) f) d t.r)∧uR k t d i ret=ret z:=by
 have hr0:=hro.no.1
 simp only [uR,N6,ak hk,M9 hk hi (show 0≤d∧d<4611686018427387000 by omega) hr0]
 by_cases h:t.kind=14
 ·rw [h,if_pos rfl,show ((14:Int)==14)=true from rfl,ai]
  exact ⟨_,rfl,rfl⟩
 ·rw [if_neg h,show (t.kind==14)=false from by grind,ad]
  exact ⟨_,rfl,rfl⟩
theorem VM (hk:Fu k) (ret:List Tm×Int→Option S) (hd0:0≤d∧d<4611686018427386000) (hQ: ∀y∈t.kids,∀b,0≤b∧b≤1→ ∀g,hd y (d+b) i g=g (tE (aP (ax fun d f=>aW (i+d) f) (ax fun d f=>aW (i+d) f) (d+b) y))) (hl:t.kids.length<1073741824):
  ∀ (r' p:List Tm) (m:Nat) (acc:List Tm),t.kids=p++r'→r'.length<m→acc.length=p.length→
  jU hd k ret i t t.kids d m acc (p.length:Int)=eE (bh (ax fun d f=>aW (i+d) f) (ax fun d f=>aW (i+d) f) d t.kind p.length r') (fun l=>ret (acc++l,0)) fun e=>ret ([],e):=by
 intro r'
 induction r' with
 |nil=>
  grind [al,jU,tp,ad,bh,aZ]
 |cons y r' ih=>
  intro p m acc h hm ha
  obtain ⟨m,rfl,hm'⟩:=al hm
  obtain ⟨e1,e2,e3,e4⟩:=ay h (by omega)
  have hpl:p.length<t.kids.length:=by grind
  have b2':=iq t.kind p.length
  have hy:=hQ y (by grind) (bJ t.kind p.length) b2'
  simp only [jU,tp,e1,ai,e2,Option.bind_some,ak hk,qf,DJ,oJ,aF,bq (n:=d+bJ t.kind p.length) (by omega) (by omega),hy]
  refine Eq.trans (sX (β:=Unit) _ (fun e he=>h9 kj kj y he) (fun z=>Option.bind (aq 1099511627776 acc.length [z].length) fun _=>jU hd k ret i t t.kids d m (acc++[z]) (IntKind.wrap .i64 ((p.length:Int)+1))) fun e=>ret ([],e)) ?_
  simp only [bh,ba,aZ]
  refine cK (fun t' ht'=> ?_) fun e _=>rfl
  rw [aL (by grind),e3,ih (p++[y]) m (acc++[t']) e4 hm' (by grind),show (p++[y]).length=p.length+1 by simp]
  simp
theorem VN (hk:Fu k) (ret:List Tm×Int→Option S) {x:Br Tm} {kd:Int} (hd0:0≤d∧d<4611686018427386000) (hQ: ∀y∈x.kids,∀g,hd y (d+aw kd) i g=g (tE (aP (ax fun d f=>aW (i+d) f) (ax fun d f=>aW (i+d) f) (d+aw kd) y))) (hl:x.kids.length<1073741824):
  ∀ (r' p:List Tm) (m:Nat) (acc:List Tm),x.kids=p++r'→r'.length<m→acc.length=p.length→
  jT hd k ret i (aw kd) x.kids d m acc (p.length:Int)=eE (bk (ax fun d f=>aW (i+d) f) (ax fun d f=>aW (i+d) f) d kd r') (fun l=>ret (acc++l,0)) fun e=>ret ([],e):=by
 have hmo:=dX kd
 intro r'
 induction r' with
 |nil=>
  grind [al,jT,tn,ad,bk,aZ]
 |cons y r' ih=>
  intro p m acc h hm ha
  obtain ⟨m,rfl,hm'⟩:=al hm
  obtain ⟨e1,e2,e3,e4⟩:=ay h (by omega)
  have hpl:p.length<x.kids.length:=by grind
  have hy:=hQ y (by grind)
  simp only [jT,tn,e1,ai,e2,Option.bind_some,ak hk,qh,DK,aF,bq (n:=d+aw kd) (by omega) (by omega),hy]
  refine Eq.trans (sX (β:=Unit) _ (fun e he=>h9 kj kj y he) (fun z=>Option.bind (aq 1099511627776 acc.length [z].length) fun _=>jT hd k ret i (aw kd) x.kids d m (acc++[z]) (IntKind.wrap .i64 ((p.length:Int)+1))) fun e=>ret ([],e)) ?_
  simp only [bk,ba,aZ]
  refine cK (fun t' ht'=> ?_) fun e _=>rfl
  rw [aL (by grind),e3,ih (p++[y]) m (acc++[t']) e4 hm' (by grind)]
  simp
theorem VO (hk:Fu k) (ret:Tm×Int→Option S) (hi:0≤i∧i<24) (hd0:0≤d∧d<4611686018427386000) {r1:List Cl×Int} {r2:List Tm×Int} (ht:OkT t) (hro:RowsT t) (hQ: ∀b∈t.sys,∀y∈b.kids,∀g,hd y (d+aw t.kind) i g=g (tE (aP (ax fun d f=>aW (i+d) f) (ax fun d f=>aW (i+d) f) (d+aw t.kind) y))):
  ∀ (r' p:List (Br Tm)) (m:Nat) (o:List (Br Tm)),t.sys=p++r'→r'.length<m→o.length≤p.length→
  eU hd k ret i t r1 r2 d m (aw t.kind) o (p.length:Int)=eE (aU (ax fun d f=>aW (i+d) f) (ax fun d f=>aW (i+d) f) d t.kind r') (fun s=>ret (.mk t.kind t.n t.name r1.1 r2.1 (o++s),0)) fun e=>ret (ar,e):=by
 obtain ⟨o1,o2,o3,o4,o5,o6,o7⟩:=ht.no
 intro r'
 induction r' with
 |nil=>
  grind [al,eU,tu,ad,aU,aZ]
 |cons x r' ih=>
  intro p m o h hml ho
  obtain ⟨m,rfl,hm'⟩:=al hml
  obtain ⟨e1,e2,e3,e4⟩:=ay h (by omega)
  have hx:x∈t.sys:=by grind
  have hpl:p.length<t.sys.length:=by grind
  have hb:=(ht.bi hx).1
  have hr0:=(hro.bi hx).1
  have hM:=fun g:List Tm×Int→Option S=>VN (kd:=t.kind) hk g hd0 (hQ x hx) hb.2.2 x.kids [] k [] rfl (by omega) rfl
  have hM: ∀g:List Tm×Int→Option S,jT hd k g i (aw t.kind) x.kids d k [] 0=_:=hM
  simp only [eU,tu,e1,ai,e2,Option.bind_some,ak hk,M9 hk hi (show 0≤d∧d<4611686018427387000 by omega) hr0,Ac,DF,hM,e3,List.nil_append]
  have hin:=fun f':List Cl=>wZ (β:=Option S) (γ:=Unit) (bk (ax fun d f=>aW (i+d) f) (ax fun d f=>aW (i+d) f) d t.kind x.kids) (fun e he=>PS kj kj he) [] (fun l=>Option.bind (aq 1099511627776 o.length [Br.mk f' l].length) fun _=>eU hd k ret i t r1 r2 d m (aw t.kind) (o++[Br.mk f' l]) (((p++[x]).length:Nat):Int)) fun e=>ret (ar,e)
  refine Eq.trans (s_ (z:=(aW (i+d) x.face,(0:Int))) (fun f'=>ab (((f'.length:Nat):Int)==0) (eU hd k ret i t r1 r2 d m (aw t.kind) o (((p++[x]).length:Nat):Int)) (eE (bk (ax fun d f=>aW (i+d) f) (ax fun d f=>aW (i+d) f) d t.kind x.kids) (fun l=>(fun r5:List Tm×Int=>ab (!(r5.2==0)) (ret (ar,r5.2)) (Option.bind (aq 1099511627776 o.length [Br.mk f' r5.1].length) fun _=>eU hd k ret i t r1 r2 d m (aw t.kind) (o++[Br.mk f' r5.1]) (((p++[x]).length:Nat):Int))) (l,0)) fun e=>(fun r5:List Tm×Int=>ab (!(r5.2==0)) (ret (ar,r5.2)) (Option.bind (aq 1099511627776 o.length [Br.mk f' r5.1].length) fun _=>eU hd k ret i t r1 r2 d m (aw t.kind) (o++[Br.mk f' r5.1]) (((p++[x]).length:Nat):Int))) ([],e))) fun e=>ret (ar,e)) ?_
  rw [show b_ (aW (i+d) x.face,(0:Int))=(ax fun d f=>aW (i+d) f) d x.face from rfl]
  rw [aU,yl,ba,ba]
  refine cK (fun f' hf'=> ?_) fun e _=>rfl
  rw [oh,aO]
  by_cases h0:f'.length=0
  ·rw [if_pos h0,if_pos h0,aZ,ba,ih (p++[x]) m o e4 hm' (by grind)]
   rfl
  ·rw [if_neg h0,if_neg h0,hin f',ba]
   refine cK (fun l hl=> ?_) fun e _=>rfl
   rw [aZ,ba,aL (by grind),ih (p++[x]) m (o++[Br.mk f' l]) e4 hm' (by grind)]
   grind [aZ]
end
theorem VR {i:Int} (hi:0≤i∧i<24) (t:Tm):OkT t→RowsT t→ ∀ {k:Nat} {d:Int} (ret:Tm×Int→Option S),Fd k (ap t)→0≤d→d+ap t<4611686018427386000→dk k t d i ret=ret (tE (aP (ax fun d f=>aW (i+d) f) (ax fun d f=>aW (i+d) f) d t)):=by
 induction t using dQ with
 |h t ih1 ih2=>
  intro ht hro k d ret hk hv hv'
  obtain ⟨q,rfl,hq,hf⟩:=hk.pos' (cE t)
  have hp:=cE t
  have hd0:0≤d∧d<4611686018427386000:=by omega
  obtain ⟨o1,o2,o3,o4,o5,o6,o7⟩:=ht.no
  have hmo:=dX t.kind
  have hQ: ∀y∈t.kids,∀b,0≤b∧b≤1→ ∀g:Tm×Int→Option S,dk q y (d+b) i g=g (tE (aP (ax fun d f=>aW (i+d) f) (ax fun d f=>aW (i+d) f) (d+b) y)):=fun y hy b h2 g=>
   ih1 y hy (ht.ki hy) (hro.ki hy) g (hf _ (ct hy)) (by omega) (by have:=ct hy;omega)
  have hQ': ∀b∈t.sys,∀y∈b.kids,∀g:Tm×Int→Option S,dk q y (d+aw t.kind) i g=g (tE (aP (ax fun d f=>aW (i+d) f) (ax fun d f=>aW (i+d) f) (d+aw t.kind) y)):=fun b hb y hy g=>
   ih2 b hb y hy ((ht.bi hb).2 y hy) ((hro.bi hb).2 y hy) g (hf _ (cr hb hy)) (by omega) (by have:=cr hb hy;omega)
  have hK: ∀g:List Tm×Int→Option S,jU (dk q) q g i t t.kids d q [] 0=_:=fun g=>VM hq g hd0 hQ o6 t.kids [] q [] rfl (by omega) rfl
  have hS:=fun (r1:List Cl×Int) (r2:List Tm×Int)=>VO (r1:=r1) (r2:=r2) hq ret hi hd0 ht hro hQ' t.sys [] q [] rfl (by omega) (Nat.le_refl _)
  have hS: ∀ (r1:List Cl×Int) (r2:List Tm×Int),eU (dk q) q ret i t r1 r2 d q (aw t.kind) [] 0=_:=hS
  have hcase: ∀ (r1:List Cl×Int) (r2:List Tm×Int),ab (t.kind==15) (eU (dk q) q ret i t r1 r2 d q 1 [] 0) (eU (dk q) q ret i t r1 r2 d q 0 [] 0)=eE (aU (ax fun d f=>aW (i+d) f) (ax fun d f=>aW (i+d) f) d t.kind t.sys) (fun s=>ret (.mk t.kind t.n t.name r1.1 r2.1 s,0)) fun e=>ret (ar,e):=by
   grind [b9,aw]
  obtain ⟨z,hz,hrow⟩:=VQ hq hi hd0 hro (fun r1=>ab (!(r1.2==0)) (ret (ar,r1.2)) (eE (bh (ax fun d f=>aW (i+d) f) (ax fun d f=>aW (i+d) f) d t.kind 0 t.kids) (fun l=>(fun r2:List Tm×Int=>ab (!(r2.2==0)) (ret (ar,r2.2)) (eE (aU (ax fun d f=>aW (i+d) f) (ax fun d f=>aW (i+d) f) d t.kind t.sys) (fun s=>ret (.mk t.kind t.n t.name r1.1 r2.1 s,0)) fun e=>ret (ar,e))) (l,0)) fun e=>(fun r2:List Tm×Int=>ab (!(r2.2==0)) (ret (ar,r2.2)) (eE (aU (ax fun d f=>aW (i+d) f) (ax fun d f=>aW (i+d) f) d t.kind t.sys) (fun s=>ret (.mk t.kind t.n t.name r1.1 r2.1 s,0)) fun e=>ret (ar,e))) ([],e)))
  simp only [dk,DM,ak hq,aF,Ad,DG,hK,hcase,List.nil_append,List.length_nil]
  refine Eq.trans hrow ?_
  rw [sK _ ret,ym,←hz]
  refine Eq.trans (s_ (z:=z) (fun r'=>eE (bh (ax fun d f=>aW (i+d) f) (ax fun d f=>aW (i+d) f) d t.kind 0 t.kids) (fun l=>(fun r2:List Tm×Int=>ab (!(r2.2==0)) (ret (ar,r2.2)) (eE (aU (ax fun d f=>aW (i+d) f) (ax fun d f=>aW (i+d) f) d t.kind t.sys) (fun s=>ret (.mk t.kind t.n t.name r' r2.1 s,0)) fun e=>ret (ar,e))) (l,0)) fun e=>(fun r2:List Tm×Int=>ab (!(r2.2==0)) (ret (ar,r2.2)) (eE (aU (ax fun d f=>aW (i+d) f) (ax fun d f=>aW (i+d) f) d t.kind t.sys) (fun s=>ret (.mk t.kind t.n t.name r' r2.1 s,0)) fun e=>ret (ar,e))) ([],e)) fun e=>ret (ar,e)) ?_
  rw [ba]
  refine cK (fun r' _=> ?_) fun e _=>rfl
  refine Eq.trans (wZ (β:=Option S) (γ:=Unit) (bh (ax fun d f=>aW (i+d) f) (ax fun d f=>aW (i+d) f) d t.kind 0 t.kids) (fun e he=>PR kj kj he) [] (fun l=>eE (aU (ax fun d f=>aW (i+d) f) (ax fun d f=>aW (i+d) f) d t.kind t.sys) (fun s=>ret (.mk t.kind t.n t.name r' l s,0)) fun e=>ret (ar,e)) fun e=>ret (ar,e)) ?_
  simp only [ba,aZ]
end Go.Proofs.YtehekgbehghgdaaGreatDoor
namespace Go.Proofs.YtehekgbehghgdaaGreatDoor
open Go PI
set_option linter.unusedVariables false
set_option linter.unusedSimpArgs false
set_option maxRecDepth 20000
variable {S:Type} {k:Nat}
def uI (i:Int):Int→List Cl→List Cl:=fun d f=>aW (i+d) f
def bN (i:Int) (r:List Cl) (fa:Bool):c6:=cD (aR i r fa) (uI i)
theorem qW (i:Int) (r:List Cl) (fa:Bool) (d:Int) (f:List Cl):bN i r fa d f=bE (aR i r fa d f) fun m=> .ok (aW (i+d) m):=rfl
theorem ng {i:Int} {r:List Cl} {fa:Bool}: ∀d f e,bN i r fa d f= .error e→0<e∧e≤1000:=fun d f e h=>by
 rw [qW] at h
 rcases bV h with h|⟨_,_,h⟩
 ·exact xO h
 simp_all
section
variable {hd:Tm→Int→List Cl→Int→Bool→(Tm→Option S)→Option S} {i d:Int} {r:List Cl} {t:Tm}
theorem aaY (hk:Fu k) (ret:Tm→Option S) (rec1:List (Br Tm)→Int→Option S) {v18:Int} {r3:List Cl} {ks:List Tm} {o:List (Br Tm)} {x:Br Tm} (hi:ae t.sys v18=some x)
  (hd0:0≤d∧d<4611686018427386000) (hQ: ∀y∈x.kids,∀g,hd y i r (d+aw t.kind) true g=g (rE (aP (bN i r false) (bN i r true) (d+aw t.kind) y))) (hkd: ∀y∈x.kids,0≤y.kind) (hl:x.kids.length<1073741824) (ho:o.length<1073741824) {f'':List Cl}:
  ∀ (r' p:List Tm) (m:Nat) (acc:List Tm),x.kids=p++r'→r'.length<m→acc.length=p.length→
  ja hd k ret rec1 t r3 ks o i v18 r d true m f'' acc (p.length:Int)=eE (bk (bN i r false) (bN i r true) d t.kind r') (fun l=>rec1 (o++[Br.mk f'' (acc++l)]) (IntKind.wrap .i64 (v18+1))) fun e=>ret (bt e):=by
 have hmo:=dX t.kind
 intro r'
 induction r' with
 |nil=>
  grind [al,ja,uo,ad,bk,aZ,aL]
 |cons y r' ih=>
  intro p m acc h hm ha
  obtain ⟨m,rfl,hm'⟩:=al hm
  obtain ⟨e1,e2,e3,e4⟩:=ay h (by omega)
  have hpl:p.length<x.kids.length:=by grind
  have hym:y∈x.kids:=by grind
  have hy:=hQ y hym
  simp only [ja,uo,hi,e1,ai,e2,Option.bind_some,ak hk,Dp,aF,bq (n:=d+aw t.kind) (by omega) (by omega),hy]
  refine Eq.trans (xl (fun e he=>(h9 ng ng y he).1) (fun z hz=>by grind [E5]) (fun z=>Option.bind (aq 1099511627776 acc.length [z].length) fun _=>ja hd k ret rec1 t r3 ks o i v18 r d true m f'' (acc++[z]) (IntKind.wrap .i64 ((p.length:Int)+1))) ret) ?_
  simp only [bk,ba,aZ]
  refine cK (fun t' ht'=> ?_) fun e _=>rfl
  rw [aL (by grind),e3,ih (p++[y]) m (acc++[t']) e4 hm' (by grind)]
  simp
theorem aaX (hk:Fu k) (ret:Tm→Option S) (hi:0≤i∧i<24) (hr:RF r) {r3:List Cl} {ks:List Tm} (ht:OkT t) (hro:RowsT t) (hd0:0≤d∧d<4611686018427386000)
  (hQ: ∀b∈t.sys,∀y∈b.kids,∀g,hd y i r (d+aw t.kind) true g=g (rE (aP (bN i r false) (bN i r true) (d+aw t.kind) y))):
  ∀ (r' p:List (Br Tm)) (m:Nat) (o:List (Br Tm)),t.sys=p++r'→r'.length<m→o.length≤p.length→
  f0 hd k ret t r3 ks i r d true m o (p.length:Int)=eE (aU (bN i r false) (bN i r true) d t.kind r') (fun l=>ret (.mk t.kind t.n t.name r3 ks (o++l))) fun e=>ret (bt e):=by
 obtain ⟨o1,o2,o3,o4,o5,o6,o7⟩:=ht.no
 intro r'
 induction r' with
 |nil=>
  grind [al,f0,pT,ad,aU,aZ]
 |cons x r' ih=>
  intro p m o h hml ho
  obtain ⟨m,rfl,hm'⟩:=al hml
  obtain ⟨e1,e2,e3,e4⟩:=ay h (by omega)
  have hx:x∈t.sys:=by grind
  have hpl:p.length<t.sys.length:=by grind
  have hb:=(ht.bi hx).1
  have hr0:=(hro.bi hx).1
  have hM:=fun f'':List Cl=>aaY (f'':=f'') (r3:=r3) (ks:=ks) (o:=o) hk ret (f0 hd k ret t r3 ks i r d true m) e2 hd0 (hQ x hx) (fun y hy=>((hro.bi hx).2 y hy).no.2.2) hb.2.2 (by omega) x.kids [] k [] rfl (by omega) rfl
  have hM: ∀f'':List Cl,ja hd k ret (f0 hd k ret t r3 ks i r d true m) t r3 ks o i (p.length:Int) r d true k f'' [] 0=_:=hM
  simp only [f0,pT,e1,ai,e2,Option.bind_some,ak hk,Ni hk hr0 hr hi (show 0≤d∧d<4611686018427387000 by omega),bq (n:=i+d) (by omega) (by omega),hM,e3,List.nil_append]
  rw [aU,yl,ba,ba,qW,ba,←mn]
  have hz:=mn i r true d x.face
  by_cases h0:(du i r true d x.face).2=0
  ·have hrf:RF (du i r true d x.face).1:=oF hr0 (hz.symm.trans (g_ h0))
   rw [bQ,decide_eq_true h0,Bool.not_true,ad,g_ h0,aZ,aZ,oh,aO,M8 hk hrf]
   have hlen:=FK (j:=i+d) hrf
   by_cases hl:(du i r true d x.face).1.length=0
   ·rw [if_pos hl,if_pos (hlen.2 hl),aZ,ba,ih (p++[x]) m o e4 hm' (by grind)]
    rfl
   ·rw [if_neg hl,if_neg (fun h=>hl (hlen.1 h)),ba]
    refine cK (fun l _=> ?_) fun e _=>rfl
    rw [aZ,ba,ih (p++[x]) m (o++[Br.mk (aW (i+d) (du i r true d x.face).1) l]) e4 hm' (by grind)]
    grind [aZ]
  ·have hze:b_ (du i r true d x.face)= .error (du i r true d x.face).2:=gm h0
   have hen:=xO (hz.symm.trans hze)
   rw [bQ,decide_eq_false h0,Bool.not_false,ai,hze,kx hen];rfl
theorem aaW (hk:Fu k) (ret:Tm→Option S) (hi:0≤i∧i<24) (hr:RF r) {r3:List Cl} (ht:OkT t) (hro:RowsT t) (hd0:0≤d∧d<4611686018427386000)
  (hQ: ∀y∈t.kids,∀b,0≤b∧b≤1→ ∀g,hd y i r (d+b) true g=g (rE (aP (bN i r false) (bN i r true) (d+b) y))) (hQ': ∀b∈t.sys,∀y∈b.kids,∀g,hd y i r (d+aw t.kind) true g=g (rE (aP (bN i r false) (bN i r true) (d+aw t.kind) y))):
  ∀ (r' p:List Tm) (m:Nat) (acc:List Tm),t.kids=p++r'→r'.length<m→acc.length=p.length→
  j_ hd k ret t i r d true m r3 acc (p.length:Int)=eE (bh (bN i r false) (bN i r true) d t.kind p.length r') (fun l=>eE (aU (bN i r false) (bN i r true) d t.kind t.sys) (fun s=>ret (.mk t.kind t.n t.name r3 (acc++l) s)) fun e=>ret (bt e)) fun e=>ret (bt e):=by
 obtain ⟨o1,o2,o3,o4,o5,o6,o7⟩:=ht.no
 intro r'
 induction r' with
 |nil=>
  intro p m acc h hm ha
  obtain ⟨m,rfl,hm'⟩:=al hm
  have hs:f0 hd k ret t r3 acc i r d true k [] 0=_:=aaX hk ret hi hr ht hro hd0 hQ' t.sys [] k [] rfl (by omega) (Nat.le_refl _)
  grind [j_,pS,ad,bh,aZ]
 |cons y r' ih=>
  intro p m acc h hm ha
  obtain ⟨m,rfl,hm'⟩:=al hm
  obtain ⟨e1,e2,e3,e4⟩:=ay h (by omega)
  have hpl:p.length<t.kids.length:=by grind
  have b2':=iq t.kind p.length
  have hym:y∈t.kids:=by grind
  have hy:=hQ y hym (bJ t.kind p.length) b2'
  simp only [j_,pS,e1,ai,e2,Option.bind_some,ak hk,Dl hk,aF,bq (n:=d+bJ t.kind p.length) (by omega) (by omega),hy]
  refine Eq.trans (xl (fun e he=>(h9 ng ng y he).1) (fun z hz=>by rw [E5 hz];exact (hro.ki hym).no.2.2) (fun z=>Option.bind (aq 1099511627776 acc.length [z].length) fun _=>j_ hd k ret t i r d true m r3 (acc++[z]) (IntKind.wrap .i64 ((p.length:Int)+1))) ret) ?_
  simp only [bh,ba,aZ]
  refine cK (fun t' ht'=> ?_) fun e _=>rfl
  rw [aL (by grind),e3,ih (p++[y]) m (acc++[t']) e4 hm' (by grind),show (p++[y]).length=p.length+1 by simp]
  simp
end
theorem aeh {i:Int} {r:List Cl} (hi:0≤i∧i<24) (hr:RF r) (t:Tm):OkT t→RowsT t→ ∀ {k:Nat} {d:Int} (ret:Tm→Option S),Fd k (ap t)→0≤d→d+ap t<4611686018427386000→eP k t i r d true ret=ret (rE (aP (bN i r false) (bN i r true) d t)):=by
 induction t using dQ with
 |h t ih1 ih2=>
  intro ht hro k d ret hk hv hv'
  obtain ⟨q,rfl,hq,hf⟩:=hk.pos' (cE t)
  have hp:=cE t
  have hd0:0≤d∧d<4611686018427386000:=by omega
  obtain ⟨o1,o2,o3,o4,o5,o6,o7⟩:=ht.no
  have hmo:=dX t.kind
  have hr0:=hro.no.1
  have hQ: ∀y∈t.kids,∀b,0≤b∧b≤1→ ∀g:Tm→Option S,eP q y i r (d+b) true g=g (rE (aP (bN i r false) (bN i r true) (d+b) y)):=fun y hy b h2 g=>
   ih1 y hy (ht.ki hy) (hro.ki hy) g (hf _ (ct hy)) (by omega) (by have:=ct hy;omega)
  have hQ': ∀b∈t.sys,∀y∈b.kids,∀g:Tm→Option S,eP q y i r (d+aw t.kind) true g=g (rE (aP (bN i r false) (bN i r true) (d+aw t.kind) y)):=fun b hb y hy g=>
   ih2 b hb y hy ((ht.bi hb).2 y hy) ((hro.bi hb).2 y hy) g (hf _ (cr hb hy)) (by omega) (by have:=cr hb hy;omega)
  have h1:=fun r3:List Cl=>aaW (r3:=r3) hq ret hi hr ht hro hd0 hQ hQ' t.kids [] q [] rfl (by omega) rfl
  have h1: ∀r3:List Cl,j_ (eP q) q ret t i r d true q r3 [] 0=_:=h1
  simp only [eP,EF,ak hq,Ni hq hr0 hr hi (show 0≤d∧d<4611686018427387000 by omega),bq (n:=i+d) (by omega) (by omega),ai,h1,List.nil_append,List.length_nil]
  have hfa: ∀fa:Bool,(if t.kind=14 then bN i r true d t.r else bN i r false d t.r)=bN i r (t.kind==14) d t.r:=fun _=>by
   grind
  rw [xJ _ ret,ym,hfa true,qW,ba,ba,←mn]
  have hz:=mn i r (t.kind==14) d t.r
  by_cases h0:(du i r (t.kind==14) d t.r).2=0
  ·grind [oF,g_,ad,aZ,M8,ba]
  ·have hze:b_ (du i r (t.kind==14) d t.r)= .error (du i r (t.kind==14) d t.r).2:=gm h0
   have hen:=xO (hz.symm.trans hze)
   rw [bQ,decide_eq_false h0,Bool.not_false,ai,hze,kx hen];rfl
def cM (i:Int) (r:List Cl) (t:Tm):Except Int Tm:=bE (b_ (aX r i 1)) fun s=>aP (bN i s false) (bN i s true) 0 t
theorem s8 {i:Int} {r:List Cl} {t:Tm} {e:Int} (h:cM i r t= .error e):0<e∧e≤1000:=by
 rcases bV h with h|⟨s,_,h⟩
 ·grind [yk,oj,EN]
 ·exact h9 ng ng t h
theorem afJ {i:Int} {r:List Cl} {t y:Tm} (h:cM i r t= .ok y):y.kind=t.kind:=by
 obtain ⟨s,_,h⟩:=bH h
 exact E5 h
theorem adJ (hk:F3 k) {t:Tm} (ht:Fm t) {i:Int} (hi:0≤i∧i<24) {r:List Cl} (hr:RF r) (ret:Tm×Int→Option S):jy k t i r ret=ret (tE (cM i r t)):=by
 have l2:=hr.len
 have hdp:=ht.dep
 simp only [jy,DC,ak hk.fu,aF,uS,DN,oK ht.ok (ht.fd hk) (show ap t<1099511627776 by omega),ht.2,adS hk.fu,oM hk.fu hr.2 hr.lt,hr.right,decide_eq_true hi,sP hk.fu hr.2 (show r.length<1073741824 by omega) (show aH i by unfold aH;omega) (show aH 1 by unfold aH;omega),z_,NX,Aa,N3,Ab,N4,z8,NW]
 rw [show ((0:Int)==0)=true from rfl,Bool.not_true,ad,ad,ad,ad]
 rw [sK _ ret]
 unfold cM
 rw [ba]
 by_cases h0:(aX r i 1).2=0
 ·have hs:=je h0
  rw [bQ,decide_eq_true h0,Bool.not_true,ad,g_ h0,aZ,acJ hi hs t ht.ok ht.rows _ (ht.fd hk) (by omega) (by omega)]
  refine Eq.trans (sX (α:=Option S) (β:=Unit) _ (fun e he=>h9 g8 g8 t he) (fun x=>dk k x 0 i fun r6=>ret (r6.1,r6.2)) fun e=>ret (ar,e)) ?_
  have htw:=agf (fo:=aR i (aX r i 1).1 false) (fa:=aR i (aX r i 1).1 true) (G:=uI i) (fun d f g hf h=>oF hf h) (fun d f hf=>FK hf) t 0 ht.rows
  show _=eE (aP (cD (aR i (aX r i 1).1 false) (uI i)) (cD (aR i (aX r i 1).1 true) (uI i)) 0 t) _ _
  rw [←htw,ba]
  refine cK (fun x hx=> ?_) fun e _=>rfl
  have hw:=PW (fun d f g hf h=>oF hf h) (fun d f g hf h=>oF hf h) (fun d=>MD) t 0 x hx
  obtain ⟨w1,w2,w3,w4⟩:=hw
  obtain ⟨hox,hrx⟩:=w4 ht.ok ht.rows
  rw [VR hi x hox hrx _ (hk.fd (by omega)) (by omega) (by omega)]
  exact sK _ ret
 ·rw [bQ,decide_eq_false h0,Bool.not_false,ai,gm h0];rfl
theorem ady (hk:F3 k) {t:Tm} (ht:Fm t) {i:Int} (hi:0≤i∧i<24) {r:List Cl} (hr:RF r) (ret:Tm→Option S):vz k t i r ret=ret (rE (cM i r t)):=by
 have l2:=hr.len
 have hdp:=ht.dep
 simp only [vz,Pd,ak hk.fu,aF,xS hk.fu hr.2 (show r.length<1073741824 by omega) (show aH i by unfold aH;omega) (show aH 1 by unfold aH;omega)]
 rw [decide_eq_false (by have:=ht.rows.no.2.2;omega),ad,xJ _ ret]
 unfold cM
 rw [ba]
 by_cases h0:(aX r i 1).2=0
 ·have hs:=je h0
  rw [bQ,decide_eq_true h0,Bool.not_true,ad,g_ h0,aZ,aeh hi hs t ht.ok ht.rows _ (ht.fd hk) (by omega) (by omega),xJ _ ret]
 ·have hze:b_ (aX r i 1)= .error (aX r i 1).2:=gm h0
  have hen:0<(aX r i 1).2∧(aX r i 1).2≤1000:=by
   grind [oj,EN]
  rw [bQ,decide_eq_false h0,Bool.not_false,ai,hze,kx hen];rfl
end Go.Proofs.YtehekgbehghgdaaGreatDoor
namespace Go.Proofs.YtehekgbehghgdaaGreatDoor
open Go PI
set_option linter.unusedVariables false
set_option linter.unusedSimpArgs false
set_option maxRecDepth 20000
variable {S:Type} {k:Nat}
def In (k:Nat) (t:Tm):Prop:=OkT t∧Fd k (ap t)∧aG t<1099511627776
theorem In.dep {t:Tm} (h:In k t):ap t<1099511627776:=by have:=vL t;have:=h.2.2;omega
theorem Fm.isIn {t:Tm} (h:Fm t) (hk:F3 k):In k t:=⟨h.ok,h.fd hk,by have:=h.siz;omega⟩
theorem Yk {i:Int} {r:List Cl} {fa:Bool} {d:Int} {f g:List Cl} (hf:RF f) (h:bN i r fa d f= .ok g):RF g:=by
 rw [qW] at h
 obtain ⟨m,h1,h⟩:=bH h
 injection h with h;subst h
 exact VB (oF hf h1).len
theorem Yj {i:Int} {r:List Cl} {fa:Bool} (d:Int):bN i r fa d []= .ok []:=by
 rw [qW,MD,aD];rfl
theorem afK {i:Int} {r:List Cl} {t y:Tm} (h:cM i r t= .ok y):Wk t y:=by
 obtain ⟨s,_,h⟩:=bH h
 grind [PW,Yk,Yj]
section
variable {c:Int}
end
def AC (x:Except Int Tm):Except Int Tm:=bE x fun t=>if bA t=0 then .ok t else .error (bA t)
theorem PC {z:List Cl×Int} (hz:EN z.2) {e:Int} (h:b_ z= .error e):0<e∧e≤1000:=by
 grind [yk,EN]
theorem HI (hk:Fu k) (ret:Tm→Option S) {kd:Int} {l:List Tm} (hlen:l.length<1000):
  ∀ (r p:List Tm) (m:Nat),l=p++r→r.length<m→n1 k ret kd l m (p.length:Int)=ret (match r.find? fun x=>decide (x.kind<0) with|some x=>x|none=> .mk kd 0 ByteArray.empty [] l []):=by
 intro r
 induction r with
 |nil=>
  grind [al,n1,up,ad]
 |cons x r ih=>
  intro p m h hm
  obtain ⟨m,rfl,hm'⟩:=al hm
  obtain ⟨e1,e2,e3,e4⟩:=ay h (by omega)
  grind [n1,up,ai,aF,ad]
theorem adN (hk:F3 k) {kd:Int} {x y:Except Int Tm} (hx: ∀e,x= .error e→0<e) (hx': ∀t,x= .ok t→0≤t.kind) (hy: ∀e,y= .error e→0<e) (hy': ∀t,y= .ok t→0≤t.kind) (ret:Tm→Option S):
  la k kd (rE x) (rE y) ret=ret (rE (bE x fun a=>bE y fun b=> .ok (.mk kd 0 ByteArray.empty [] [a,b] []))):=by
 simp only [la,Pi,ak hk.fu,aF,qH,yh]
 have:=HI hk.fu ret (kd:=kd) (l:=[rE x,rE y]) (by simp) [rE x,rE y] [] k rfl (by grind)
 refine Eq.trans this ?_
 congr 1
 rw [List.find?_cons,List.find?_cons]
 cases x with
 |error e=>rw [show rE (.error e)=bt e from rfl,np (hx e rfl)];rfl
 |ok a=>
  rw [show rE (.ok a)=a from rfl,decide_eq_false (by grind),aD]
  cases y with
  |error e=>rw [show rE (.error e)=bt e from rfl,np (hy e rfl)];rfl
  |ok b=>rw [show rE (.ok b)=b from rfl,decide_eq_false (by grind)];rfl
theorem adB (hk:F3 k) {x:Except Int Tm} (hx: ∀e,x= .error e→0<e∧e≤1000) (hx': ∀t,x= .ok t→In k t∧0≤t.kind) (ret:Tm×Int→Option S):vA k (rE x) ret=ret (tE (AC x)):=by
 simp only [vA,Pg,ak hk.fu,aF]
 unfold AC
 cases x with
 |error e=>
  have he:=hx e rfl
  rw [show rE (.error e)=bt e from rfl,np he.1,ai,bq (show-9223372036854775808≤0-(bt e).kind by show _≤0-(-e);omega) (by show 0-(-e)<_;omega)]
  show ret (ar,0-(-e))=ret (ar,e)
  simp
 |ok t=>
  obtain ⟨hin,hkd⟩:=hx' t rfl
  rw [show rE (.ok t)=t from rfl,decide_eq_false (by omega),ad,Dm hin.1 hin.2.1 (by have:=hin.2.2;omega),aD,bQ]
  by_cases h0:bA t=0
  ·rw [decide_eq_true h0,Bool.not_true,ad,if_pos h0];rfl
  ·rw [decide_eq_false h0,Bool.not_false,ai,if_neg h0];rfl
end Go.Proofs.YtehekgbehghgdaaGreatDoor
namespace Go.Proofs.YtehekgbehghgdaaGreatDoor
open Go PI
set_option linter.unusedVariables false
set_option linter.unusedSimpArgs false
set_option maxRecDepth 20000
variable {S:Type} {k:Nat}
theorem JH:OkT ar:=by
 unfold ar
 rw [OkT,bP,bn]
 exact ⟨⟨by unfold aH;omega,by unfold aH;omega,by simp,fun c hc=>(by cases hc),by simp,by simp,by simp⟩,trivial,trivial⟩
theorem kg (hk:F3 k):In k ar:=⟨JH,hk.fd (by grind [ar,ap,aK,aS]),by grind [ar,aG,aJ,aN]⟩
end Go.Proofs.YtehekgbehghgdaaGreatDoor
namespace Go.Proofs.YtehekgbehghgdaaGreatDoor
open Go PI
set_option linter.unusedVariables false
set_option linter.unusedSimpArgs false
set_option maxRecDepth 20000
variable {S:Type} {k:Nat}
theorem Dt (t:Tm):aG t=1+aJ t.kids+aN t.sys:=by cases t;rfl
section
variable {hd:Tm→Int→(Int→Option S)→Option S} {t:Tm}
end
end Go.Proofs.YtehekgbehghgdaaGreatDoor
namespace Go.Proofs.YtehekgbehghgdaaGreatDoor
open Go PI
set_option linter.unusedVariables false
set_option linter.unusedSimpArgs false
set_option maxRecDepth 20000
variable {S:Type} {k:Nat}
def EY (kd:Int) (l:List Tm):Tm:= .mk kd 0 ByteArray.empty [] l []
def Fd2 (n m:Nat) (t:Tm):Prop:=OkT t∧bg false (-1) 24 t=true∧ap t≤n∧aG t≤m
theorem Fd2.isIn {n m:Nat} {t:Tm} (h:Fd2 n m t) (hk:F3 k) (hn:n≤1000) (hm:m≤1000000):In k t:=⟨h.1,hk.fd (by have:=h.2.2.1;omega),by have:=h.2.2.2;omega⟩
theorem Fm.f2 {t:Tm} (h:Fm t):Fd2 200 20000 t:=⟨h.1,(gN h.2).2.2,(gN h.2).1,(gN h.2).2.1⟩
theorem Fd2.mono {n m n' m':Nat} {t:Tm} (h:Fd2 n m t) (hn:n≤n') (hm:m≤m'):Fd2 n' m' t:=⟨h.1,h.2.1,by have:=h.2.2.1;omega,by have:=h.2.2.2;omega⟩
end Go.Proofs.YtehekgbehghgdaaGreatDoor
namespace Go.Proofs.YtehekgbehghgdaaGreatDoor
open Go PI
set_option linter.unusedVariables false
set_option linter.unusedSimpArgs false
set_option maxRecDepth 20000
variable {S:Type} {k:Nat}
section
variable {n v d kd:Int} {u:Tm}
end
end Go.Proofs.YtehekgbehghgdaaGreatDoor
namespace Go.Proofs.YtehekgbehghgdaaGreatDoor
open Go PI
set_option linter.unusedVariables false
set_option linter.unusedSimpArgs false
set_option maxRecDepth 20000
variable {S:Type} {k:Nat}
def nf {α:Type} (t:Tm) (x:Except Int α):Except Int α:=if bA t=0 then x else .error (bA t)
theorem GQ {α:Type} {t:Tm} {x:Except Int α} {e:Int} (hx: ∀e,x= .error e→0<e∧e≤1000) (h:nf t x= .error e):0<e∧e≤1000:=by
 unfold nf at h
 split at h
 ·exact hx e h
 ·rename_i h0
  injection h with h
  have:=Yq t;omega
def qP (f b:Int) (t:Tm):Except Int Tm:=nf t (a_ 0 b 0 f t)
def oT (i:Int) (r:List Cl) (t:Tm):Except Int Tm:=nf t (cM i r t)
theorem d6 {e:Int} (h:e≠0):(e==0)=false:=by simpa using h
theorem adA (hk:F3 k) {t:Tm} (ht:In k t) {f b:Int} (hf:0≤f∧f≤24) (hb:0≤b∧b<9223372036854775808) (ret:Tm×Int→Option S):jz k t f b ret=ret (tE (qP f b t)):=by
 unfold qP nf
 by_cases h:bA t=0
 ·rw [if_pos h];exact ad4 hk ⟨ht.1,h⟩ hf hb ret
 ·rw [if_neg h]
  simp only [jz,D5,ak hk.fu,aF,vc,yd,oK ht.1 ht.2.1 ht.dep,d6 h,Bool.not_false,ai];rfl
theorem adK (hk:F3 k) {t:Tm} (ht:In k t) {i:Int} (hi:0≤i∧i<24) {r:List Cl} (hr:RF r) (ret:Tm×Int→Option S):jy k t i r ret=ret (tE (oT i r t)):=by
 unfold oT nf
 by_cases h:bA t=0
 ·rw [if_pos h];exact adJ hk ⟨ht.1,h⟩ hi hr ret
 ·rw [if_neg h]
  simp only [jy,DC,ak hk.fu,aF,uS,DN,oK ht.1 ht.2.1 ht.dep,d6 h,Bool.not_false,ai];rfl
end Go.Proofs.YtehekgbehghgdaaGreatDoor
namespace Go.Proofs.YtehekgbehghgdaaGreatDoor
open Go PI
set_option linter.unusedVariables false
set_option linter.unusedSimpArgs false
set_option maxRecDepth 20000
end Go.Proofs.YtehekgbehghgdaaGreatDoor
namespace Go.Proofs.YtehekgbehghgdaaGreatDoor
open Go PI
set_option linter.unusedVariables false
set_option linter.unusedSimpArgs false
set_option maxRecDepth 20000
variable {S:Type} {k:Nat}
end Go.Proofs.YtehekgbehghgdaaGreatDoor
namespace Go.Proofs.YtehekgbehghgdaaGreatDoor
open Go PI
set_option linter.unusedVariables false
set_option linter.unusedSimpArgs false
set_option maxRecDepth 20000
variable {S:Type} {k:Nat}
structure Gd (x:Except Int Tm):Prop where
 en: ∀e,x= .error e→0<e∧e≤1000
 kd: ∀t,x= .ok t→0≤t.kind
theorem lk {t:Tm} (h:0≤t.kind):Gd (.ok t):=⟨fun e h=>(by cases h),fun t' h'=>by grind⟩
theorem Yx {x:Except Int Tm} {f:Tm→Except Int Tm} (hx:Gd x) (hf: ∀t,x= .ok t→Gd (f t)):Gd (bE x f):=by
 cases hh:x with
 |error e=>exact ⟨fun e' h=>by injection h with h;exact h▸hx.en e hh,fun t h=>by cases h⟩
 |ok t=>exact hf t hh
theorem M2 (hk:F3 k) {kd:Int} {x y:Except Int Tm} (hx:Gd x) (hy:Gd y) (ret:Tm→Option S):la k kd (rE x) (rE y) ret=ret (rE (bE x fun a=>bE y fun b=> .ok (EY kd [a,b]))):=
 adN hk (fun e h=>(hx.en e h).1) hx.kd (fun e h=>(hy.en e h).1) hy.kd ret
end Go.Proofs.YtehekgbehghgdaaGreatDoor
namespace Go.Proofs.YtehekgbehghgdaaGreatDoor
open Go PI
set_option linter.unusedVariables false
set_option linter.unusedSimpArgs false
set_option maxRecDepth 20000
variable {S:Type} {k:Nat}
section
variable {hd:Tm→(Tm→Option S)→Option S} {t:Tm}
theorem aaF (hk:Fu k) (ret:Tm→Option S) (rec1:List (Br Tm)→Int→Option S) {ks:List Tm} {acc:List (Br Tm)} {x:Br Tm} {i:Int} (hi:ae t.sys i=some x) (hQ: ∀y∈x.kids,∀g,hd y g=g y) (hl:x.kids.length<1073741824) (hacc:acc.length<1073741824):
  ∀ (r p:List Tm) (m:Nat),x.kids=p++r→r.length<m→lJ hd k ret rec1 t ks acc x i m p (p.length:Int)=rec1 (acc++[x]) (IntKind.wrap .i64 (i+1)):=by
 intro r
 induction r with
 |nil=>
  intro p m h hm
  obtain ⟨m,rfl,hm'⟩:=al hm
  simp only [lJ,ug,hi,Option.bind_some,cv h,ad]
  rw [aL (by grind)]
  have:p=x.kids:=by grind
  subst this
  rfl
 |cons y r ih=>
  intro p m h hm
  obtain ⟨m,rfl,hm'⟩:=al hm
  obtain ⟨e1,e2,e3,e4⟩:=ay h (by omega)
  have hlen:p.length+r.length+1=x.kids.length:=by grind
  simp only [lJ,ug,hi,e1,ai,e2,Option.bind_some,aF,e3,hQ y (by grind)]
  grind [aL]
theorem aaE (hk:Fu k) (ret:Tm→Option S) (ht:OkT t) (hQ: ∀b∈t.sys,∀y∈b.kids,∀g,hd y g=g y) {ks:List Tm}:
  ∀ (r p:List (Br Tm)) (m:Nat),t.sys=p++r→r.length<m→iZ hd k ret t ks m p (p.length:Int)=ret (.mk t.kind t.n t.name t.r ks t.sys):=by
 obtain ⟨o1,o2,o3,o4,o5,o6,o7⟩:=ht.no
 intro r
 induction r with
 |nil=>
  grind [al,iZ,pJ,ad]
 |cons y r ih=>
  intro p m h hm
  obtain ⟨m,rfl,hm'⟩:=al hm
  obtain ⟨e1,e2,e3,e4⟩:=ay h (by omega)
  have hy:y∈t.sys:=by grind
  have hb:=(ht.bi hy).1
  have hlen:p.length+r.length+1=t.sys.length:=by grind
  simp only [iZ,pJ,e1,ai,e2,Option.bind_some]
  rw [aL (by grind)]
  have:=aaF (t:=t) hk ret (iZ hd k ret t ks m) (ks:=ks) (acc:=p) e2 (hQ y hy) hb.2.2 (by omega) y.kids [] k rfl (by omega)
  grind
theorem aaD (hk:Fu k) (ret:Tm→Option S) (ht:OkT t) (hQ: ∀y∈t.kids,∀g,hd y g=g y) (hQ': ∀b∈t.sys,∀y∈b.kids,∀g,hd y g=g y):
  ∀ (r p:List Tm) (m:Nat),t.kids=p++r→r.length<m→nV hd k ret t m p (p.length:Int)=ret t:=by
 obtain ⟨o1,o2,o3,o4,o5,o6,o7⟩:=ht.no
 intro r
 induction r with
 |nil=>
  intro p m h hm
  obtain ⟨m,rfl,hm'⟩:=al hm
  simp only [nV,pI,cv h,ad]
  have:=aaE hk ret ht hQ' (ks:=p) t.sys [] k rfl (by omega)
  refine Eq.trans this ?_
  have hp:p=t.kids:=by grind
  subst hp
  cases t;rfl
 |cons y r ih=>
  intro p m h hm
  obtain ⟨m,rfl,hm'⟩:=al hm
  obtain ⟨e1,e2,e3,e4⟩:=ay h (by omega)
  grind [nV,pI,ai,aF,aL]
end
theorem aev (t:Tm):OkT t→ ∀ {k:Nat} (ret:Tm→Option S),Fd k (ap t)→gF k t ret=ret t:=by
 induction t using dQ with
 |h t ih1 ih2=>
  intro ht k ret hk
  obtain ⟨q,rfl,hq,hf⟩:=hk.pos' (cE t)
  obtain ⟨o1,o2,o3,o4,o5,o6,o7⟩:=ht.no
  simp only [gF,Ew]
  rw [aL (by grind)]
  exact aaD hq ret ht (fun y hy g=>ih1 y hy (ht.ki hy) g (hf _ (ct hy))) (fun b hb y hy g=>ih2 b hb y hy ((ht.bi hb).2 y hy) g (hf _ (cr hb hy))) t.kids [] q rfl (by omega)
end Go.Proofs.YtehekgbehghgdaaGreatDoor
namespace Go.Proofs.YtehekgbehghgdaaGreatDoor
open Go PI
set_option linter.unusedVariables false
set_option linter.unusedSimpArgs false
set_option maxRecDepth 20000
variable {S:Type} {k:Nat}
def cj (b:Br Tm):Tm:=b.kids.headD ar
structure SyF (sys:List (Br Tm)):Prop where
 kid: ∀b∈sys,b.kids=[cj b]∧Fm (cj b)∧am b.face∧b.face.length<1073741824
 len:sys.length≤20000
 siz:aN sys≤20000
theorem My:RF [⟨0,0⟩]:=gh ⟨⟨by decide,by decide⟩,by decide,by decide⟩
theorem PA {r:List Cl} {t y:Tm} (ht:Fm t) (h:cM 0 r t= .ok y):OkT y∧ap y≤200∧aG y≤20000:=by
 obtain ⟨w1,w2,w3,w4⟩:=afK h
 have h4:=w4 ht.ok ht.rows
 have:=ht.dep;have:=ht.siz
 grind
theorem adx (hk:F3 k) {kd n:Int} {nm:ByteArray} {r:List Cl} {ks:List Tm} {acc:List (Br Tm)} (hkd:0≤kd) (hacc:acc.length<1073741824) {f:List Cl} {x:Except Int Tm} (hx:Gd x) (ret:Tm→Option S):
  qG k (.mk kd n nm r ks acc) f (rE x) ret=ret (rE (bE x fun y=> .ok (.mk kd n nm r ks (acc++[.mk f [y]])))):=by
 simp only [qG,Pf,aF]
 rw [show decide ((Tm.mk kd n nm r ks acc).kind<0)=false from decide_eq_false (show ¬kd<0 by omega),ad]
 cases x with
 |error e=>rw [show rE (.error e)=bt e from rfl,np (hx.en e rfl).1,ai];rfl
 |ok y=>
  rw [show rE (.ok y)=y from rfl,decide_eq_false (by have:=hx.kd y rfl;omega),ad,aL (n:=([]:List (Br Tm)).length) (m:=(Tm.mk kd n nm r ks acc).sys.length) (by show 0+acc.length≤_;omega),aL (by show acc.length+1≤_;omega)];rfl
end Go.Proofs.YtehekgbehghgdaaGreatDoor
namespace Go.Proofs.YtehekgbehghgdaaGreatDoor
open Go PI
set_option linter.unusedVariables false
set_option linter.unusedSimpArgs false
set_option maxRecDepth 20000
variable {S:Type} {k:Nat}
theorem abS {l l':List (Br Tm)} (h:bn l) (h':bn l'):bn (l++l'):=by
 grind [JM]
theorem Ga (l l':List (Br Tm)):aS (l++l')=max (aS l) (aS l'):=by
 induction l<;>grind [aS]
theorem aeS (l l':List (Br Tm)):aN (l++l')=aN l+aN l':=by
 induction l<;>grind [aN]
end Go.Proofs.YtehekgbehghgdaaGreatDoor
namespace Go.Proofs.YtehekgbehghgdaaGreatDoor
open Go PI
set_option linter.unusedVariables false
set_option linter.unusedSimpArgs false
set_option maxRecDepth 20000
variable {S:Type} {k:Nat}
def mM (c:Int) (x:Except Int Tm):Tm×Int:=if c=0 then tE x else (ar,c)
theorem H0 (x:Except Int Tm):mM 0 x=tE x:=rfl
theorem BQ {c:Int} (h:c≠0) (x:Except Int Tm):mM c x=(ar,c):=if_neg h
theorem xR (t:Tm) (e c:Int) (ret:Tm×Int→Option S):eO k t e c ret=ret (if c=0 then (if e=0 then (t,0) else (ar,e)) else (ar,c)):=by
 simp only [eO,OM,aF]
 by_cases hc:c=0
 ·subst hc
  rw [show ((0:Int)==0)=true from rfl,ai,if_pos rfl]
  by_cases he:e=0
  ·subst he;rfl
  ·rw [d6 he,Bool.not_false,ai,if_neg he];rfl
 ·rw [d6 hc,ad,if_neg hc,Bool.not_false,ai];rfl
theorem ZB (x:Except Int Tm) (hx: ∀e,x= .error e→e≠0) (c:Int):(if c=0 then (if (tE x).2=0 then ((tE x).1,(0:Int)) else (ar,(tE x).2)) else (ar,c))=mM c x:=by
 unfold mM
 split
 ·cases x with
  |ok t=>rfl
  |error e=>rw [if_neg (show (tE (.error e)).2≠0 from hx e rfl)];rfl
 ·rfl
theorem JA {f:(Tm×Int→Option S)→Option S} {x:Except Int Tm} (c:Int) (hf:c=0→ ∀g,f g=g (tE x)) (hx: ∀e,x= .error e→e≠0) (ret:Tm×Int→Option S):
  (ab (!(c==0)) (ret (ar,c)) (f fun r=>ret (if c=0 then (if r.2=0 then (r.1,0) else (ar,r.2)) else (ar,c))))=ret (mM c x):=by
 by_cases hc:c=0
 ·subst hc
  rw [show (!((0:Int)==0))=false from rfl,ad,hf rfl,←ZB x hx 0]
 ·rw [d6 hc,Bool.not_false,ai,BQ hc]
theorem JE {x:Except Int Tm} (h: ∀e,x= .error e→0<e∧e≤1000): ∀e,x= .error e→e≠0:=fun e he=>by have:=h e he;omega
theorem VJ {a b:Int} {t:Tm}: ∀e,qP a b t= .error e→0<e∧e≤1000:=fun e h=>GQ (fun e h=>jf t h) h
theorem afN {i:Int} {r:List Cl} {t:Tm}: ∀e,oT i r t= .error e→0<e∧e≤1000:=fun e h=>GQ (fun e h=>s8 h) h
theorem ad9 (hk:F3 k) {t:Tm} {r:List Cl} {c:Int} (ht:c=0→In k t) (hr:RF r) (ret:Tm×Int→Option S):vh k t r c ret=ret (mM c (oT 0 r t)):=by
 simp only [vh,OL,ak hk.fu,dB,sY,aF,xR]
 exact JA c (fun h g=>adK hk (ht h) (i:=0) (by decide) hr g) (JE afN) ret
theorem ad6 (hk:F3 k) {t:Tm} {c:Int} (ht:c=0→In k t) (ret:Tm×Int→Option S):ve k t c ret=ret (mM c (oT 0 [⟨0,0⟩] t)):=by
 simp only [ve,OI,ak hk.fu,mI,DT,aF,ad9 hk ht My]
theorem ad7 (hk:F3 k) {t:Tm} {b c:Int} (ht:c=0→In k t) (hb:0≤b∧b<1000) (ret:Tm×Int→Option S):vf k t b c ret=ret (mM c (qP 1 b t)):=by
 simp only [vf,OJ,ak hk.fu,dB,sY,aF,xR]
 exact JA c (fun h g=>adA hk (ht h) (f:=1) (b:=b) (by decide) (by omega) g) (JE VJ) ret
theorem ad8 (hk:F3 k) {f:List Cl} {b c:Int} (hf:am f) (hl:f.length<1073741824) (hb:0≤b∧b<1000) (ret:List Cl×Int→Option S):vg k f b c ret=ret (if c=0 then aX f 0 b else ([],c)):=by
 simp only [vg,OK,ak hk.fu,dB,sY,aF,xR]
 by_cases hc:c=0
 ·subst hc
  rw [show (!((0:Int)==0))=false from rfl,ad,sP hk.fu hf hl (by unfold aH;omega) (by unfold aH;omega),if_pos rfl,if_pos rfl]
  split
  ·rename_i h;rw [show aX f 0 b=((aX f 0 b).1,(aX f 0 b).2) from rfl,h]
  ·rfl
 ·rw [d6 hc,Bool.not_false,ai,if_neg hc]
def dM (c:Int) (t:Tm):Tm×Int:=if c=0 then (if bA t=0 then (t,0) else (ar,bA t)) else (ar,c)
def hJ (x:Except Int Tm):Tm×Bool×Int:=match x with
 | .ok t=>if bA t=0 then (t,true,0) else (ar,false,bA t)
 | .error e=>(ar,false,e)
theorem Ng (hk:F3 k) {t:Tm} {c:Int} (ht:In k t) (ret:Tm×Bool×Int×Int→Option S):iz k t c ret=ret ((dM c t).1,(dM c t).2==0,(dM c t).2,(dM c t).2):=by
 simp only [iz,OH,ak hk.fu,dB,sY,aF,xR,oK ht.1 ht.2.1 ht.dep]
 have:OkT (dM c t).1∧Fd k (ap (dM c t).1):=by
  unfold dM
  split
  ·split
   ·exact ⟨ht.1,ht.2.1⟩
   ·exact ⟨(kg hk).1,(kg hk).2.1⟩
  ·exact ⟨(kg hk).1,(kg hk).2.1⟩
 exact MX (dM c t).1 this.1 _ this.2
theorem FL {t:Tm} (g:Tm×Bool×Int→Option S):g ((dM 0 t).1,(dM 0 t).2==0,(dM 0 t).2)=g (hJ (.ok t)):=by
 unfold dM hJ
 simp only [if_true]
 split
 ·rfl
 ·rename_i h;rw [d6 h]
theorem VC {c:Int} (h:c≠0) {t:Tm} (g:Tm×Bool×Int→Option S):g ((dM c t).1,(dM c t).2==0,(dM c t).2)=g (hJ (.error c)):=by
 unfold dM hJ
 rw [if_neg h,d6 h]
end Go.Proofs.YtehekgbehghgdaaGreatDoor
namespace Go.Proofs.YtehekgbehghgdaaGreatDoor
open Go PI
set_option linter.unusedVariables false
set_option linter.unusedSimpArgs false
set_option maxRecDepth 20000
abbrev En:=Nat→Prop
def hp (c:Cl) (j:Nat):Prop:=c.pos.toNat.testBit j=true
def hn (c:Cl) (j:Nat):Prop:=c.neg.toNat.testBit j=true
end Go.Proofs.YtehekgbehghgdaaGreatDoor
namespace Go.Proofs.YtehekgbehghgdaaGreatDoor
open Go PI
set_option linter.unusedVariables false
set_option linter.unusedSimpArgs false
set_option maxRecDepth 20000
def tc (P:En) (n:Nat) (A:Prop):En:=fun j=>(j≠n∧P j)∨(j=n∧A)
end Go.Proofs.YtehekgbehghgdaaGreatDoor
namespace Go.Proofs.YtehekgbehghgdaaGreatDoor
open Go PI
set_option linter.unusedVariables false
set_option linter.unusedSimpArgs false
set_option maxRecDepth 20000
end Go.Proofs.YtehekgbehghgdaaGreatDoor
namespace Go.Proofs.YtehekgbehghgdaaGreatDoor
open Go PI
set_option linter.unusedVariables false
set_option linter.unusedSimpArgs false
set_option maxRecDepth 20000
def RX (fa:Bool) (f:List Cl):Prop:=RF f∧(fa=true→ ∀c∈f,bu c=false)
def same (n:Nat) (P P':En):Prop:= ∀j,j≠n→(P j↔P' j)
theorem same.symm {n:Nat} {P P':En} (h:same n P P'):same n P' P:=fun j hj=>(h j hj).symm
end Go.Proofs.YtehekgbehghgdaaGreatDoor
namespace Go.Proofs.YtehekgbehghgdaaGreatDoor
open Go PI
set_option linter.unusedVariables false
set_option linter.unusedSimpArgs false
set_option maxRecDepth 20000
theorem abb {l:List Cl}:(aY l).1.length≤l.length:=by
 grind [aY,Jz]
end Go.Proofs.YtehekgbehghgdaaGreatDoor
namespace Go.Proofs.YtehekgbehghgdaaGreatDoor
open Go PI
set_option linter.unusedVariables false
set_option linter.unusedSimpArgs false
set_option maxRecDepth 20000
theorem abc {f:List Cl} {i b:Int}:(aX f i b).1.length≤f.length:=by
 unfold aX
 split
 ·split
  ·refine Nat.le_trans abb ?_
   have:=(AX (i:=i) (b:=b) (r:=f) (h:=[]) (fun c hc=>by cases hc)).2
   grind
  ·simp
 ·simp
end Go.Proofs.YtehekgbehghgdaaGreatDoor
namespace Go.Proofs.YtehekgbehghgdaaGreatDoor
open Go PI
set_option linter.unusedVariables false
set_option linter.unusedSimpArgs false
set_option maxRecDepth 20000
abbrev UQ:=Bool→Int→List Cl→List Cl→Prop
abbrev UP:=Int→List Cl→List Cl→Prop
mutual
def kS (pl:Bool):Tm→Prop
 | .mk kd n nm r ks sys=>RX (decide (kd=14)) r∧kR pl ks∧pf pl sys
def kR (pl:Bool):List Tm→Prop
 |[]=>True
 |t::l=>kS pl t∧kR pl l
def pf (pl:Bool):List (Br Tm)→Prop
 |[]=>True
 |b::l=>Fa pl b∧pf pl l
def Fa (pl:Bool):Br Tm→Prop
 | .mk f ks=>(RX true f∧(pl=true→f≠[]))∧kR pl ks
end
section
variable {pl:Bool} {c vb db kd:Int} {fo fa:c6} {Ro Ro':UQ} {Rb Rb':UP}
end
end Go.Proofs.YtehekgbehghgdaaGreatDoor
namespace Go.Proofs.YtehekgbehghgdaaGreatDoor
open Go PI
set_option linter.unusedVariables false
set_option linter.unusedSimpArgs false
set_option maxRecDepth 20000
variable {S:Type} {k:Nat}
def Cb (sys:List (Br Tm)):Bool:=sys.any fun b=>(b.face.length:Int)==0
mutual
def l7:Tm→Bool
 | .mk _ _ _ _ ks sys=> !Cb sys&&(l9 ks&&wV sys)
def l9:List Tm→Bool
 |[]=>true
 |t::l=>l7 t&&l9 l
def wV:List (Br Tm)→Bool
 |[]=>true
 |b::l=>JU b&&wV l
def JU:Br Tm→Bool
 | .mk _ ks=>l9 ks
end
theorem MW {f:List Cl} (hf:am f) (h:cm f=true):RX true f:=by
 have:=(mg hf).1 h
 exact ⟨this.1,fun _=>this.2⟩
theorem Ck {vars dims kd n nm r ks sys} (hok:OkT (.mk kd n nm r ks sys)) (h:dO vars dims (.mk kd n nm r ks sys)=true):RX (decide (kd=14)) r∧ ∀b∈sys,RX true b.face:=by
 obtain ⟨o1,o2,o3,o4,o5,o6,o7⟩:=hok.node
 unfold dO at h
 simp only [Bool.and_eq_true,decide_eq_true_eq] at h
 obtain ⟨⟨a1,a2,a3,a4⟩,a5⟩:=h
 have r0:r.length=0→RX (decide (kd=14)) r:=fun h=>by
  have:=List.length_eq_zero_iff.1 h;subst this;exact ⟨oE,fun _ c hc=>by cases hc⟩
 have nosys:b7 kd=0→ ∀b∈sys,RX true b.face:=fun h=>by
  grind
 split at a5
 ·rename_i c
  simp only [Bool.and_eq_true,decide_eq_true_eq] at a5
  exact ⟨r0 a5.1,nosys (by subst c;decide)⟩
 split at a5
 ·rename_i c
  simp only [Bool.and_eq_true,decide_eq_true_eq] at a5
  exact ⟨r0 a5.1,nosys (by subst c;decide)⟩
 split at a5
 ·rename_i c
  rw [Bool.and_eq_true] at a5
  exact ⟨⟨(eI o4).1 a5.1,fun h=>by grind⟩,nosys (by rcases c with rfl|rfl|rfl<;>decide)⟩
 split at a5
 ·rename_i c
  rw [Bool.and_eq_true] at a5
  subst c
  exact ⟨MW o4 a5.1,nosys (by decide)⟩
 ·simp only [Bool.and_eq_true,decide_eq_true_eq] at a5
  refine ⟨r0 a5.2,fun b hb=> ?_⟩
  have:=List.all_eq_true.1 a5.1 b hb
  unfold bZ at this
  simp only [Bool.and_eq_true] at this
  exact MW (hok.br hb).1.1 this.2.1
theorem U0 {bd pl:Bool} (t:Tm): ∀ {vars dims:Int},OkT t→bg bd vars dims t=true→(pl=true→l7 t=true)→kS pl t:=by
 induction t using jm with
 |h kd n nm r ks sys ih1 ih2=>
  intro vars dims hok h hp
  rw [bg,Bool.and_eq_true,Bool.and_eq_true,Bool.and_eq_true] at h
  obtain ⟨_,a,b,c⟩:=h
  obtain ⟨hr,hb⟩:=Ck hok a
  have hok':=hok
  rw [OkT] at hok'
  obtain ⟨_,ok,os⟩:=hok'
  rw [l7] at hp
  simp only [Bool.and_eq_true,Bool.not_eq_true'] at hp
  have hk: ∀ {l:List Tm} {i:Nat},(∀x∈l,∀ {vars dims:Int},OkT x→bg bd vars dims x=true→(pl=true→l7 x=true)→kS pl x)→bP l→bY bd vars dims kd i l=true→(pl=true→l9 l=true)→kR pl l:=by
   intro l
   induction l<;>grind [bY,kR,l9,bP]
  have hm: ∀ {l:List Tm},(∀x∈l,∀ {vars dims:Int},OkT x→bg bd vars dims x=true→(pl=true→l7 x=true)→kS pl x)→bP l→cV bd vars dims kd l=true→(pl=true→l9 l=true)→kR pl l:=by
   intro l
   induction l<;>grind [cV,kR,l9,bP]
  have hs: ∀ {l:List (Br Tm)},(∀b∈l,∀x∈b.kids,∀ {vars dims:Int},OkT x→bg bd vars dims x=true→(pl=true→l7 x=true)→kS pl x)→bn l→(∀b∈l,RX true b.face)→c7 bd vars dims kd l=true→(pl=true→Cb l=false∧wV l=true)→pf pl l:=by
   intro l
   induction l with
   |nil=>grind [pf]
   |cons b l ih=>
    intro h1 h2 h3 h4 h5
    obtain ⟨f,ks'⟩:=b
    rw [bn] at h2
    rw [jq] at h2
    rw [c7,pg,Bool.and_eq_true] at h4
    rw [Cb,List.any_cons,Bool.or_eq_false_iff,wV,JU,Bool.and_eq_true] at h5
    rw [pf,Fa]
    refine ⟨⟨⟨h3 ⟨f,ks'⟩ (by simp),fun e he=> ?_⟩,hm (h1 ⟨f,ks'⟩ (by simp)) h2.1.2 h4.1 fun e=>(h5 e).2.1⟩,ih (fun b hb=>h1 b (by simp [hb])) h2.2 (fun b hb=>h3 b (by simp [hb])) h4.2 fun e=>⟨(h5 e).1.2,(h5 e).2.2⟩⟩
    grind
  grind [kS]
theorem Fm.pl {t:Tm} {pl:Bool} (h:Fm t) (hp:pl=true→l7 t=true):kS pl t:=by
 have:=h.2
 unfold bA at this
 split at this
 ·simp_all
 split at this
 ·simp_all
 split at this
 ·rename_i h3;exact U0 t h.1 h3 hp
 omega
end Go.Proofs.YtehekgbehghgdaaGreatDoor
namespace Go.Proofs.YtehekgbehghgdaaGreatDoor
open Go PI
set_option linter.unusedVariables false
set_option linter.unusedSimpArgs false
set_option maxRecDepth 20000
variable {S:Type} {k:Nat}
theorem UY {kd d:Int}: ∀ {l:List Tm} {i:Nat} {x:Tm},24≤d→bY false (-1) d kd i l=true→x∈l→bg false (-1) 24 x=true:=by
 intro l
 induction l with
 |nil=>intro i x _ _ h;cases h
 |cons t l ih=>
  intro i x hd h hx
  rw [bY,Bool.and_eq_true] at h
  rcases List.mem_cons.1 hx with rfl|hx
  ·have:=h.1
   rw [PQ,Fc x (by have:=iq kd i;omega) (Int.le_refl 24)] at this;exact this
  ·exact ih hd h.2 hx
theorem Fm.kid {t x:Tm} (h:Fm t) (hx:x∈t.kids):Fm x:=by
 obtain ⟨h1,h2,h3⟩:=gN h.2
 have hd:=ct hx
 have hs:aG x≤aG t:=by have:=Dt t;have:=oN hx;omega
 refine ⟨h.1.ki hx,AY (by omega) (by omega) ?_⟩
 obtain ⟨kd,n,nm,r,ks,sys⟩:=t
 rw [bg] at h3
 simp only [Bool.false_and,Bool.not_false,Bool.true_and,Bool.and_eq_true] at h3
 exact UY (Int.le_refl 24) h3.2.1 hx
theorem Fm.brk {t x:Tm} {b:Br Tm} (h:Fm t) (hb:b∈t.sys) (hx:x∈b.kids):Fm x:=by
 obtain ⟨h1,h2,h3⟩:=gN h.2
 have hd:=cr hb hx
 have hs:aG x≤aG t:=by have:=Dt t;have:=Du hb;have:=oN hx;omega
 refine ⟨(h.1.bi hb).2 x hx,AY (by omega) (by omega) ?_⟩
 obtain ⟨kd,n,nm,r,ks,sys⟩:=t
 rw [bg] at h3
 simp only [Bool.false_and,Bool.not_false,Bool.true_and,Bool.and_eq_true] at h3
 have:=h3.2.2
 rw [zq,List.all_eq_true] at this
 have:=List.all_eq_true.1 (this b hb) x hx
 rw [Fc x (by have:=dX kd;omega) (Int.le_refl 24)] at this;exact this
theorem Fm.own {t:Tm} (h:Fm t):dO (-1) 24 t=true:=by
 have h3:=(gN h.2).2.2
 cases t
 rw [bg] at h3
 simp only [Bool.false_and,Bool.not_false,Bool.true_and,Bool.and_eq_true] at h3
 exact h3.1
theorem Fm.nk {t:Tm} (h:Fm t):dL t.kind=t.kids.length:=by
 have:=h.own
 cases t
 unfold dO at this
 simp only [Bool.and_eq_true,decide_eq_true_eq] at this
 exact this.1.1
theorem Fm.n0 {t:Tm} (h:Fm t) (hk:t.kind≠1):t.n=0:=by
 have:=h.own
 cases t
 unfold dO at this
 simp only [Bool.and_eq_true,decide_eq_true_eq] at this
 exact this.1.2.1.resolve_left hk
theorem Fm.r14 {t:Tm} (h:Fm t) (hk:t.kind=14):RX true t.r:=by
 have:=Ck (kd:=t.kind) (n:=t.n) (nm:=t.name) (r:=t.r) (ks:=t.kids) (sys:=t.sys) (by cases t;exact h.1) (by have:=h.own;cases t;exact this)
 have h1:=this.1
 rw [hk] at h1;exact h1
theorem Fm.face {t:Tm} {b:Br Tm} (h:Fm t) (hb:b∈t.sys):RX true b.face:=by
 have:=Ck (kd:=t.kind) (n:=t.n) (nm:=t.name) (r:=t.r) (ks:=t.kids) (sys:=t.sys) (by cases t;exact h.1) (by have:=h.own;cases t;exact this)
 exact this.2 b hb
theorem GY {α:Type} {l:List α} {n:Nat} {i:Int} (hi:i=n) {x:α} (h:l[n]? =some x):ae l i=some x:=by subst hi;rw [qY];exact h
theorem adL (hk:F3 k) {t:Tm} {x:Except Int Tm} (hx: ∀e,x= .error e→0<e∧e≤1000) (hx': ∀t,x= .ok t→In k t∧0<t.kind) (ret:Tm×Bool×Int→Option S):mX k t (rE x) ret=ret (hJ x):=by
 simp only [mX,EG,ak hk.fu,aF]
 have hkd:(rE x).kind≠0:=by
  cases hh:x with
  |error e=>have:=hx e hh;show-e≠0;omega
  |ok t=>have:=(hx' t hh).2;show t.kind≠0;omega
 rw [d6 hkd,ad,adB hk hx fun t h=>⟨(hx' t h).1,by have:=(hx' t h).2;omega⟩]
 cases hh:x with
 |error e=>
  have:=hx e hh
  show ret (ar,e==0,e)=_
  rw [d6 (by omega)];rfl
 |ok t=>
  unfold AC hJ
  rw [aD]
  by_cases h:bA t=0
  ·simp only [if_pos h];rfl
  ·simp only [if_neg h]
   show ret (ar,bA t==0,bA t)=_
   rw [d6 h]
theorem adM (t:Tm) (ret:Tm×Bool×Int→Option S):mX k t ar ret=ret (ar,false,0):=by
 simp only [mX,EG];rfl
end Go.Proofs.YtehekgbehghgdaaGreatDoor
namespace Go.Proofs.YtehekgbehghgdaaGreatDoor
open Go PI
set_option linter.unusedVariables false
set_option linter.unusedSimpArgs false
set_option maxRecDepth 20000
variable {S:Type} {k:Nat}
abbrev bS (r:List Cl) (l a:Tm):Tm:= .mk 14 0 ByteArray.empty r [l,a] []
def dH (r:List Cl) (line:Tm):List (Br Tm)→Except Int (List (Br Tm))
 |[]=> .ok []
 |b::l=>bE (b_ (aX r 0 1)) fun phi=>bE (a_ 0 1 0 1 line) fun ln=>bE (dH r line l) fun l'=> .ok (.mk b.face [bS phi ln (cj b)]::l')
def d7 (r:List Cl) (line x:Tm):Except Int Tm:=
 if x.kind=24∨x.kind=25 then .ok x
 else if x.kind=26 then .ok (.mk 26 0 ByteArray.empty x.r [bS r (line.kids.getD 0 ar) (x.kids.getD 0 ar)] [])
 else bE (cM 0 [⟨0,0⟩] line) fun e=>bE (dH r line x.sys) fun l=> .ok (.mk 15 0 ByteArray.empty [] [e,bS r line (x.kids.getD 1 ar)] l)
def mB (t:Tm):Tm×Bool×Int:=
 if bA t≠0 then (ar,false,bA t) else
 if t.kind=14∧(t.kids.getD 0 ar).kind=23∧((t.kids.getD 1 ar).kind=24∨(t.kids.getD 1 ar).kind=25∨(t.kids.getD 1 ar).kind=26∨(t.kids.getD 1 ar).kind=15) then hJ (d7 t.r (t.kids.getD 0 ar) (t.kids.getD 1 ar)) else (ar,false,0)
theorem Vv {r:List Cl} {line:Tm}: ∀ {l:List (Br Tm)} {e:Int},dH r line l= .error e→0<e∧e≤1000:=by
 intro l
 induction l with
 |nil=>intro e h;cases h
 |cons b l ih=>
  intro e h
  rw [dH] at h
  rcases bV h with h|⟨_,_,h⟩
  ·exact PC (oj _ _ _) h
  rcases bV h with h|⟨_,_,h⟩
  ·exact jf line h
  rcases bV h with h|⟨_,_,h⟩
  ·exact ih h
  ·cases h
theorem Vw {r:List Cl} {line x:Tm} {e:Int} (h:d7 r line x= .error e):0<e∧e≤1000:=by
 unfold d7 at h
 split at h
 ·cases h
 split at h
 ·cases h
 rcases bV h with h|⟨_,_,h⟩
 ·exact s8 h
 rcases bV h with h|⟨_,_,h⟩
 ·exact Vv h
 ·cases h
theorem oU {t:Tm} (h:t.kids.length=2): ∃a b,t.kids=[a,b]:=by
 match h':t.kids,h with
 |[a,b],_=>exact ⟨a,b,rfl⟩
theorem ot {t:Tm} (h:t.kids.length=1): ∃a,t.kids=[a]:=by
 match h':t.kids,h with
 |[a],_=>exact ⟨a,rfl⟩
theorem Fm.sy {t:Tm} (h:Fm t) (hk:t.kind=15):(∀b∈t.sys,b.kids=[cj b]∧Fm (cj b)∧RX true b.face)∧t.sys.length≤20000:=by
 have ho:=h.own
 refine ⟨fun b hb=> ?_, ?_⟩
 ·have hl:b.kids.length=1:=by
   obtain ⟨kd,n,nm,r,ks,sys⟩:=t
   have hk:kd=15:=hk
   subst hk
   have ho:(_&&(sys.all (bZ 15 24)&&_))=true:=ho
   simp only [Bool.and_eq_true] at ho
   have:=List.all_eq_true.1 ho.2.1 b hb
   unfold bZ at this
   simp only [Bool.and_eq_true,decide_eq_true_eq] at this
   have h1:=this.1
   have:b7 15=1:=rfl
   omega
  obtain ⟨f,ks⟩:=b
  match ks,hl with
  |[a],_=>exact ⟨rfl,h.brk hb (by simp [cj]),h.face hb⟩
 ·have h1:=h.siz
  have h2:=Dt t
  have: ∀ {l:List (Br Tm)},(∀b∈l,b.kids≠[])→l.length≤aN l:=by
   intro l
   induction l with
   |nil=>intro _;simp
   |cons b l ih=>
    intro hl
    have:=ih fun b hb=>hl b (by simp [hb])
    have hb:=hl b (by simp)
    obtain ⟨f,ks⟩:=b
    cases ks with
    |nil=>exact absurd rfl hb
    |cons a ks=>rw [aN,g9,aJ,List.length_cons];have:=Dw a;omega
  have:=this (l:=t.sys) fun b hb=>by
   intro he
   obtain ⟨kd,n,nm,r,ks,sys⟩:=t
   have hk:kd=15:=hk
   subst hk
   have ho:(_&&(sys.all (bZ 15 24)&&_))=true:=ho
   simp only [Bool.and_eq_true] at ho
   have:=List.all_eq_true.1 ho.2.1 b hb
   unfold bZ at this
   simp only [Bool.and_eq_true,decide_eq_true_eq] at this
   have h1:=this.1
   rw [he] at h1
   have:b7 15=1:=rfl
   simp at h1;omega
  omega
end Go.Proofs.YtehekgbehghgdaaGreatDoor
namespace Go.Proofs.YtehekgbehghgdaaGreatDoor
open Go PI
set_option linter.unusedVariables false
set_option linter.unusedSimpArgs false
set_option maxRecDepth 20000
variable {S:Type} {k:Nat}
def yb {α:Type} (c:Int) (x:Except Int α):Except Int α:=if c=0 then x else .error c
theorem NH {α:Type} (x:Except Int α):yb 0 x=x:=rfl
theorem oS {α:Type} {c:Int} (h:c≠0) (x:Except Int α):yb c x= .error c:=if_neg h
structure Sm (n:Nat) (t:Tm):Prop where
 ok:OkT t
 siz:aG t≤n
 dep:ap t≤300
theorem Fm.sm {t:Tm} (h:Fm t):Sm 20000 t:=⟨h.ok,h.siz,by have:=h.dep;omega⟩
theorem Sm.mono {n m:Nat} {t:Tm} (h:Sm n t) (hnm:n≤m):Sm m t:=⟨h.ok,by have:=h.siz;omega,h.dep⟩
theorem wQ:Sm 20000 ar:=⟨JH,by unfold ar;rw [aG,aJ,aN];omega,by unfold ar;rw [ap,aK,aS];omega⟩
theorem Sm.isIn {n:Nat} {t:Tm} (h:Sm n t) (hk:F3 k) (hn:n<1099511627776):In k t:=⟨h.ok,hk.fd (by have:=h.dep;omega),by have:=h.siz;omega⟩
structure Bs' (n:Nat) (l:List (Br Tm)):Prop where
 ok:bn l
 siz:aN l≤l.length*n
 dep:aS l≤301
theorem Fz (n:Nat):Bs' n []:=⟨by rw [bn];trivial,by rw [aN];simp,by rw [aS];omega⟩
theorem Vi {n:Nat} {l:List (Br Tm)} (h:Bs' n l) {f:List Cl} (hf:am f∧f.length<1073741824) {t:Tm} (ht:Sm n t):Bs' n (l++[⟨f,[t]⟩]):=by
 refine ⟨abS h.ok ?_, ?_, ?_⟩
 ·rw [bn,jq,bP,bP,bn];exact ⟨⟨⟨hf.1,hf.2,by simp⟩,ht.ok,trivial⟩,trivial⟩
 ·rw [aeS,aN,g9,aJ,aJ,aN,List.length_append,List.length_singleton,Nat.succ_mul]
  have:=h.siz;have:=ht.siz;omega
 ·rw [Ga,aS,jK,aK,aK,aS]
  have:=h.dep;have:=ht.dep;omega
theorem Dy {kd:Int} (hkd:0≤kd∧kd≤28) {r:List Cl} (hr:am r∧r.length<1073741824) {ks:List Tm} {sys:List (Br Tm)} {n m:Nat} (hks: ∀x∈ks,OkT x∧ap x≤299) (hl:ks.length<1000) (hz:aJ ks≤n) (hs:bn sys) (hsl:sys.length<1073741824) (hsd:aS sys≤299) (hsz:aN sys≤m):Sm (n+m+1) (.mk kd 0 ByteArray.empty r ks sys):=by
 have hd:aK ks≤299:=by
  have: ∀ {l:List Tm},(∀x∈l,ap x≤299)→aK l≤299:=by
   intro l
   induction l with
   |nil=>intro _;rw [aK];omega
   |cons t l ih=>intro h;rw [aK];have:=h t (by simp);have:=ih fun x hx=>h x (by simp [hx]);omega
  exact this fun x hx=>(hks x hx).2
 refine ⟨?_, ?_, ?_⟩
 ·rw [OkT]
  exact ⟨⟨by unfold aH;omega,by unfold aH;omega,by decide,hr.1,hr.2,by omega,hsl⟩,okK_iff.2 fun x hx=>(hks x hx).1,hs⟩
 ·rw [aG];omega
 ·rw [ap];omega
theorem xY {r:List Cl} (hr:am r∧r.length<1073741824) {n m:Nat} {l a:Tm} (hl:Sm n l) (ha:Sm m a) (h1:ap l≤299) (h2:ap a≤299):Sm (n+m+1) (bS r l a):=by
 have:=Dy (kd:=14) (by omega) hr (ks:=[l,a]) (sys:=[]) (n:=n+m) (m:=0) (fun x hx=>by
  simp at hx
  rcases hx with rfl|rfl
  ·exact ⟨hl.ok,h1⟩
  ·exact ⟨ha.ok,h2⟩) (by simp) (by rw [aJ,aJ,aJ];have:=hl.siz;have:=ha.siz;omega) (by rw [bn];trivial) (by simp) (by rw [aS];omega) (by rw [aN];omega)
 exact this
theorem nh {t:Tm} {a b:Tm} (h:t.kids=[a,b]):t.kids.getD 0 ar=a∧t.kids.getD 1 ar=b:=by rw [h];exact ⟨rfl,rfl⟩
theorem oI {fa:Bool} {f:List Cl} (h:RX fa f):am f∧f.length<1073741824:=⟨h.1.2,by have:=h.1.len;omega⟩
theorem HT {f:List Cl} {b:Int} (h:RF f):am (aX f 0 b).1∧(aX f 0 b).1.length<1073741824:=by
 have hl:=abc (f:=f) (i:=0) (b:=b)
 have:=h.len
 refine ⟨?_,by omega⟩
 by_cases h0:(aX f 0 b).2=0
 ·exact (je h0).2
 ·rw [abh h0];exact fun c hc=>by cases hc
theorem aaa (hk:F3 k) (ret:Tm×Bool×Int→Option S) {t line x:Tm} {z:Int×Int×ByteArray×List Cl×List Tm} {q:Tm×Int} (ht:RX true t.r) (hl:Fm line) (hx: ∀b∈x.sys,b.kids=[cj b]∧Fm (cj b)∧RX true b.face) (hxl:x.sys.length≤20000)
  (hin: ∀acc,Bs' 50000 acc→acc.length≤20000→aS acc≤299→In k (.mk 15 0 ByteArray.empty [] [q.1,.mk z.1 z.2.1 z.2.2.1 z.2.2.2.1 z.2.2.2.2 []] acc)):
  ∀ (r p acc:List (Br Tm)) (m:Nat) (c:Int),x.sys=p++r→r.length<m→Bs' 50000 acc→aS acc≤299→acc.length+r.length≤20000→
   lv k ret t z line q x m c acc (p.length:Int)=ret (hJ (yb c (bE (dH t.r line r) fun l'=> .ok (.mk 15 0 ByteArray.empty [] [q.1,.mk z.1 z.2.1 z.2.2.1 z.2.2.2.1 z.2.2.2.2 []] (acc++l'))))):=by
 intro r
 induction r with
 |nil=>
  intro p acc m c h hm hb hd hacc
  obtain ⟨m,rfl,hm'⟩:=al hm
  simp only [lv,tI,cv h,ad,ak hk.fu,Am,ON,aF]
  rw [Ng hk (hin acc hb (by simpa using hacc) hd),dH,aD,List.append_nil]
  by_cases hc:c=0
  ·subst hc;exact FL ret
  ·rw [oS hc];exact VC hc ret
 |cons b r ih=>
  intro p acc m c h hm hb hd hacc
  obtain ⟨m,rfl,hm'⟩:=al hm
  obtain ⟨e1,e2,e3,e4⟩:=ay h (by omega)
  obtain ⟨hbk,hbf,hbx⟩:=hx b (by rw [h];simp)
  have hg:ae b.kids 0=some (cj b):=GY (n:=0) rfl (by rw [hbk];rfl)
  have hlk:=HT (b:=1) ht.1
  rw [List.length_cons] at hacc
  have step: ∀ {phi:List Cl} {ln:Tm} {c':Int},am phi∧phi.length<1073741824→Sm 20000 ln→ap ln≤200→Option.bind (aq 1099511627776 acc.length [Br.mk b.face [bS phi ln (cj b)]].length) (fun _=>lv k ret t z line q x m c' (acc++[Br.mk b.face [bS phi ln (cj b)]]) (((p++[b]).length:Nat):Int))=
    ret (hJ (yb c' (bE (dH t.r line r) fun l'=> .ok (.mk 15 0 ByteArray.empty [] [q.1,.mk z.1 z.2.1 z.2.2.1 z.2.2.2.1 z.2.2.2.2 []] (acc++[Br.mk b.face [bS phi ln (cj b)]]++l'))))):=by
   intro phi ln c' hphi hln hdl
   rw [aL (by simp;omega)]
   have hs:=xY hphi hln hbf.sm (by omega) (by have:=hbf.dep;omega)
   refine ih (p++[b]) _ m c' e4 hm' (Vi hb (oI hbx) (hs.mono (by omega))) ?_ (by rw [List.length_append,List.length_singleton];omega)
   rw [Ga,aS,jK,aK,aK,aS]
   have:ap (bS phi ln (cj b))≤201:=by
    rw [ap,aK,aK,aK,aS];have:=hbf.dep;omega
   omega
  simp only [lv,tI,e1,ai,e2,Option.bind_some,ak hk.fu,aF,ad8 hk ht.1.2 (oI ht).2 (show (0:Int)≤1∧(1:Int)<1000 by omega),hg,jC,yf,vd,OG,e3]
  rw [ad7 hk (b:=1) (fun _=>hl.isIn hk) (by omega)]
  by_cases hc:c=0
  ·subst hc
   rw [if_pos rfl,NH,dH]
   by_cases h1:(aX t.r 0 1).2=0
   ·rw [h1,H0,g_ h1,aD]
    have hd1:qP 1 1 line=a_ 0 1 0 1 line:=if_pos hl.2
    rw [hd1]
    cases hh:a_ 0 1 0 1 line with
    |error e=>
     have:=jf line hh
     refine (step hlk wQ (by unfold ar;rw [ap,aK,aS];omega)).trans ?_
     rw [show (tE (.error e)).2=e from rfl,oS (by omega)];rfl
    |ok ln=>
     have fl:=HV (by omega) hl hh
     refine (step hlk fl.sm fl.dep).trans ?_
     rw [show (tE (.ok ln)).2=0 from rfl,NH,aD]
     cases dH t.r line r with
     |error e=>rfl
     |ok l'=>rw [aD,aD,aD,List.append_assoc];rfl
   ·rw [BQ h1]
    refine (step hlk wQ (by unfold ar;rw [ap,aK,aS];omega)).trans ?_
    rw [oS h1,gm h1];rfl
  ·rw [if_neg hc,BQ hc,oS hc]
   refine (step (phi:=[]) ⟨(fun c hc=>by cases hc),by simp⟩ wQ (by unfold ar;rw [ap,aK,aS];omega)).trans ?_
   rw [oS hc]
end Go.Proofs.YtehekgbehghgdaaGreatDoor
namespace Go.Proofs.YtehekgbehghgdaaGreatDoor
open Go PI
set_option linter.unusedVariables false
set_option linter.unusedSimpArgs false
set_option maxRecDepth 20000
variable {S:Type} {k:Nat}
theorem fq {t:Tm} (h:Fm t) {kd:Int} (hk:t.kind=kd) {n:Nat} (hn:dL kd=n):t.kids.length=n:=by
 have:=h.nk
 rw [hk,hn] at this;omega
theorem wj {t a b:Tm} (h:t.kids=[a,b]):ae t.kids 0=some a∧ae t.kids 1=some b:=by rw [h];exact ⟨rfl,rfl⟩
theorem ac8 {t:Tm} (h:Fm t):am t.r∧t.r.length<1073741824:=by
 obtain ⟨o1,o2,o3,o4,o5,o6,o7⟩:=h.ok.no
 exact ⟨o4,o5⟩
theorem FH {r:List Cl} (hr:RX true r) {line x y w:Tm} (hl:line.kids=[y]) (hx:x.kids=[w]) (fl:Fm line) (fx:Fm x):Sm 40010 (.mk 26 0 ByteArray.empty x.r [bS r y w] []):=by
 have fy:=fl.kid (x:=y) (by rw [hl];simp)
 have fw:=fx.kid (x:=w) (by rw [hx];simp)
 have h:=xY (oI hr) fy.sm fw.sm (by have:=fy.dep;omega) (by have:=fw.dep;omega)
 have hd:ap (bS r y w)≤201:=by rw [ap,aK,aK,aK,aS];have:=fy.dep;have:=fw.dep;omega
 exact (Dy (kd:=26) (by omega) (ac8 fx) (ks:=[bS r y w]) (sys:=[]) (n:=40001) (m:=0) (fun x hx=>by simp at hx;subst hx;exact ⟨h.ok,by omega⟩) (by simp) (by rw [aJ,aJ];have:=h.siz;omega) (by rw [bn];trivial) (by simp) (by rw [aS];omega) (by rw [aN];omega)).mono (by omega)
theorem NC {r:List Cl} (hr:RX true r) {e line a:Tm} (he:Sm 20000 e) (hed:ap e≤200) (fl:Fm line) (fa:Fm a) {acc:List (Br Tm)} (hb:Bs' 50000 acc) (hacc:acc.length≤20000) (hd:aS acc≤299):Sm 1000070000 (.mk 15 0 ByteArray.empty [] [e,bS r line a] acc):=by
 have h:=xY (oI hr) fl.sm fa.sm (by have:=fl.dep;omega) (by have:=fa.dep;omega)
 have hd':ap (bS r line a)≤201:=by rw [ap,aK,aK,aK,aS];have:=fl.dep;have:=fa.dep;omega
 have hz:aN acc≤1000000000:=Nat.le_trans hb.siz (Nat.le_trans (Nat.mul_le_mul_right _ hacc) (by omega))
 exact (Dy (kd:=15) (by omega) (r:=[]) ⟨(fun c hc=>by cases hc),by simp⟩ (ks:=[e,bS r line a]) (sys:=acc) (n:=60001) (m:=1000000000) (fun x hx=>by
  simp at hx
  rcases hx with rfl|rfl
  ·exact ⟨he.ok,by omega⟩
  ·exact ⟨h.ok,by omega⟩) (by simp) (by rw [aJ,aJ,aJ];have:=h.siz;have:=he.siz;omega) hb.ok (by omega) hd hz).mono (by omega)
theorem ad1 (hk:F3 k) {t:Tm} (ht:In k t) (ret:Tm×Bool×Int→Option S):ql k t ret=ret (mB t):=by
 simp only [ql,D4,ak hk.fu,aF,oK ht.1 ht.2.1 ht.dep]
 unfold mB
 by_cases h0:bA t=0
 case neg=>rw [d6 h0,Bool.not_false,ai,if_pos h0];rfl
 rw [h0,show (!((0:Int)==0))=false from rfl,ad,if_neg (by simp)]
 have ft:Fm t:=⟨ht.1,h0⟩
 by_cases h14:t.kind=14
 case neg=>rw [beq_false_of_ne h14,Bool.not_false,ai,if_neg (fun h=>h14 h.1)];rfl
 rw [h14,show (!((14:Int)==14))=false from rfl,ad]
 obtain ⟨line,x,hkd⟩:=oU (fq ft h14 (n:=2) rfl)
 obtain ⟨g0,g1⟩:=wj hkd
 obtain ⟨d0,d1⟩:=nh hkd
 have fl:Fm line:=ft.kid (by rw [hkd];simp)
 have fx:Fm x:=ft.kid (by rw [hkd];simp)
 have hr:=ft.r14 h14
 rw [d0,d1,g0,Option.bind_some]
 by_cases h23:line.kind=23
 case neg=>rw [beq_false_of_ne h23,Bool.not_false,ai,if_neg (fun h=>h23 h.2.1)];rfl
 rw [h23,show (!((23:Int)==23))=false from rfl,ad,MX t ht.1 _ ht.2.1,g0,Option.bind_some,g1,Option.bind_some]
 obtain ⟨y,hy⟩:=ot (fq fl h23 (n:=1) rfl)
 have fin: ∀ {z:Tm},In k z→ ∀g:Tm×Bool×Int→Option S,iz k z 0 (fun r=>g (r.1,r.2.1,r.2.2.1))=g (hJ (.ok z)):=fun hz g=>by
  rw [Ng hk hz];exact FL g
 by_cases h24:x.kind=24
 ·rw [h24,show ((24:Int)==24)=true from rfl,ai,if_pos ⟨rfl,rfl,.inl rfl⟩,fin (fx.isIn hk)]
  unfold d7;rw [if_pos (.inl h24)]
 rw [beq_false_of_ne h24,ad]
 by_cases h25:x.kind=25
 ·rw [h25,show ((25:Int)==25)=true from rfl,ai,if_pos ⟨rfl,rfl,.inr (.inl rfl)⟩,fin (fx.isIn hk)]
  unfold d7;rw [if_pos (.inr h25)]
 rw [beq_false_of_ne h25,ad]
 by_cases h26:x.kind=26
 ·obtain ⟨w,hw⟩:=ot (fq fx h26 (n:=1) rfl)
  have e1:ae line.kids 0=some y:=by rw [hy];rfl
  have e2:ae x.kids 0=some w:=by rw [hw];rfl
  rw [h26,show ((26:Int)==26)=true from rfl,ai,if_pos ⟨rfl,rfl,.inr (.inr (.inl rfl))⟩,e1,Option.bind_some,e2,Option.bind_some]
  simp only [jC,yf]
  rw [fin ((FH hr hy hw fl fx).isIn hk (by omega))]
  unfold d7;rw [if_neg (by omega),if_pos h26,hy,hw];rfl
 rw [beq_false_of_ne h26,ad]
 by_cases h15:x.kind=15
 case neg=>rw [beq_false_of_ne h15,ad,if_neg (fun h=>by omega)];rfl
 obtain ⟨u,a,hxk⟩:=oU (fq fx h15 (n:=2) rfl)
 obtain ⟨gx0,gx1⟩:=wj hxk
 obtain ⟨dx0,dx1⟩:=nh hxk
 have fa:Fm a:=fx.kid (by rw [hxk];simp)
 obtain ⟨sy,syl⟩:=fx.sy h15
 rw [h15,show ((15:Int)==15)=true from rfl,ai,if_pos ⟨rfl,rfl,.inr (.inr (.inr rfl))⟩,ad6 hk (fun _=>fl.isIn hk),gx1,Option.bind_some]
 simp only [jC,yf,H0]
 have htk:oT 0 [⟨0,0⟩] line=cM 0 [⟨0,0⟩] line:=if_pos fl.2
 rw [htk]
 have hsm:Sm 20000 (tE (cM 0 [⟨0,0⟩] line)).1∧ap (tE (cM 0 [⟨0,0⟩] line)).1≤200:=by
  cases hh:cM 0 [⟨0,0⟩] line with
  |error e=>exact ⟨wQ,by show ap ar≤200;unfold ar;rw [ap,aK,aS];omega⟩
  |ok e=>
   obtain ⟨q1,q2,q3⟩:=PA fl hh
   exact ⟨⟨q1,q3,(show ap e≤300 by omega)⟩,q2⟩
 have:=aaa hk ret (t:=t) (line:=line) (x:=x) (z:=(14,0,ByteArray.empty,t.r,[line,a])) (q:=tE (cM 0 [⟨0,0⟩] line)) hr fl sy syl (fun acc hb hacc hd=>(NC hr hsm.1 hsm.2 fl fa hb hacc hd).isIn hk (by omega)) x.sys [] [] k (tE (cM 0 [⟨0,0⟩] line)).2 rfl (by have:4294968296≤k:=hk;omega) (Fz _) (by rw [aS];omega) (by simpa using syl)
 refine Eq.trans this ?_
 unfold d7
 rw [if_neg (by omega),if_neg h26,dx1]
 cases hh:cM 0 [⟨0,0⟩] line with
 |error e=>
  have:=s8 hh
  rw [show (tE (.error e)).2=e from rfl,oS (by omega)];rfl
 |ok e=>rfl
end Go.Proofs.YtehekgbehghgdaaGreatDoor
namespace Go.Proofs.YtehekgbehghgdaaGreatDoor
open Go PI
set_option linter.unusedVariables false
set_option linter.unusedSimpArgs false
set_option maxRecDepth 20000
variable {S:Type} {k:Nat}
theorem Dk (hk:F3 k) {r:List Cl} {x y:Except Int Tm} (hx:Gd x) (hy:Gd y) (ret:Tm→Option S):iD k r (rE x) (rE y) ret=ret (rE (bE x fun a=>bE y fun b=> .ok (bS r a b))):=by
 simp only [iD,Pl,ak hk.fu,aF,M2 hk hx hy]
 cases hxx:x with
 |error e=>
  have he:=hx.en e hxx
  rw [io,io,show rE (.error e)=bt e from rfl,decide_eq_false (show ¬ ((bt e).kind≥0) from by show ¬ (-e≥0);omega),ad]
 |ok a=>
  cases hyy:y with
  |error e=>
   have he:=hy.en e hyy
   rw [aD,aD,io,io,show rE (.error e)=bt e from rfl,decide_eq_false (show ¬ ((bt e).kind≥0) from by show ¬ (-e≥0);omega),ad]
  |ok b=>rfl
theorem GX {vb db v d:Int} {t:Tm} (h:Fm t):Gd (a_ vb db v d t):=⟨fun e he=>jf t he,fun y hy=>by rw [wK hy];exact h.rows.no.2.2⟩
theorem aei (hk:F3 k) {t:Tm} (ht:Fm t) (ret:Tm→Option S):vE k t 1 ret=ret (rE (a_ 0 1 0 1 t)):=by
 simp only [vE,Pk,ak hk.fu,aF,aeg hk ht (show (0:Int)≤1∧(1:Int)≤24 by omega) (show (0:Int)≤1∧(1:Int)<9223372036854775808 by omega)]
 rw [decide_eq_false (by have:=ht.rows.no.2.2;omega),ad]
 cases hh:a_ 0 1 0 1 t with
 |error e=>
  have he:=jf t hh
  rw [show (tE (.error e)).2=e from rfl,d6 (show e≠0 by omega),Bool.not_false,ai,kx he];rfl
 |ok y=>rfl
theorem Yy {r:List Cl} {x:Except Int Tm} (hx:Gd x) (a:Tm):Gd (bE x fun l=> .ok (bS r l a)):=Yx hx fun t h=>lk (show (0:Int)≤14 by decide)
theorem Ny {α:Type} (c:Bool) (a:α):ab c a a=a:=by cases c<;>rfl
theorem HL (ret:Tm→Option S) {t line x:Tm} {e:Int} (he:0<e) {m:Nat} (hm:0<m) (i:Int):kc k ret t line x m (bt e) i=ret (bt e):=by
 obtain ⟨m,rfl⟩: ∃j,m=j+1:=⟨m-1,by omega⟩
 have hb:decide ((bt e).kind≥0)=false:=decide_eq_false (show ¬ (-e≥0) by omega)
 simp only [kc,pU,hb,ad,aF,Ny]
theorem aaC (hk:F3 k) (ret:Tm→Option S) {t line x:Tm} (ht:RX true t.r) (hl:Fm line) (hx: ∀b∈x.sys,b.kids=[cj b]∧Fm (cj b)∧RX true b.face) (hxl:x.sys.length≤20000) {ks:List Tm}:
  ∀ (r p acc:List (Br Tm)) (m:Nat),x.sys=p++r→r.length<m→acc.length+r.length≤20000→
   kc k ret t line x m (.mk 15 0 ByteArray.empty [] ks acc) (p.length:Int)=ret (rE (bE (dH t.r line r) fun l=> .ok (.mk 15 0 ByteArray.empty [] ks (acc++l)))):=by
 intro r
 induction r with
 |nil=>
  intro p acc m h hm ha
  obtain ⟨m,rfl,hm'⟩:=al hm
  simp only [kc,pU,cv h,ad,aF,dH,aD,List.append_nil];rfl
 |cons b r ih=>
  intro p acc m h hm ha
  obtain ⟨m,rfl,hm'⟩:=al hm
  obtain ⟨e1,e2,e3,e4⟩:=ay h (by omega)
  obtain ⟨hbk,hbf,hbx⟩:=hx b (by rw [h];simp)
  rw [List.length_cons] at ha
  have hg:ae b.kids 0=some (cj b):=GY (n:=0) rfl (by rw [hbk];rfl)
  have hkd:decide ((Tm.mk 15 0 ByteArray.empty [] ks acc).kind≥0)=true:=rfl
  have hlift: ∀g:List Cl×Int→Option S,jG k t.r 0 1 g=g (aX t.r 0 1):=fun g=>xS hk.fu ht.1.2 (oI ht).2 (by unfold aH;omega) (by unfold aH;omega) g
  have htr: ∀ (f:List Cl) (g:Tm→Option S),iD k f (rE (a_ 0 1 0 1 line)) (cj b) g=g (rE (bE (a_ 0 1 0 1 line) fun a=> .ok (bS f a (cj b)))):=fun f g=>Dk hk (y:= .ok (cj b)) (GX hl) (lk hbf.rows.no.2.2) g
  have hand: ∀ (f:List Cl) (g:Tm→Option S),qG k (.mk 15 0 ByteArray.empty [] ks acc) b.face (rE (bE (a_ 0 1 0 1 line) fun a=> .ok (bS f a (cj b)))) g=g (rE (bE (bE (a_ 0 1 0 1 line) fun a=> .ok (bS f a (cj b))) fun y=> .ok (.mk 15 0 ByteArray.empty [] ks (acc++[.mk b.face [y]])))):=fun f g=>adx hk (by decide) (by omega) (Yy (GX hl) _) g
  simp only [kc,pU,e1,ai,hkd,e2,Option.bind_some,ak hk.fu,aF,hlift,hg,aei hk hl,htr,hand,e3]
  rw [dH]
  by_cases h1:(aX t.r 0 1).2=0
  ·rw [h1,show (!((0:Int)==0))=false from rfl,ad,g_ h1,aD]
   cases hh:a_ 0 1 0 1 line with
   |error e=>
    have he:=jf line hh
    rw [io,io,io,io,show rE (.error e)=bt e from rfl]
    exact HL ret he.1 (Nat.lt_of_lt_of_le (Nat.succ_pos r.length) hm') _
   |ok ln=>
    rw [aD,aD,aD]
    refine (ih (p++[b]) (acc++[.mk b.face [bS (aX t.r 0 1).1 ln (cj b)]]) m e4 hm' (by rw [List.length_append,List.length_singleton];omega)).trans ?_
    congr 2
    cases dH t.r line r with
    |error e=>rfl
    |ok l=>rw [aD,aD,aD,List.append_assoc];rfl
  ·rw [d6 h1,Bool.not_false,ai,gm h1,kx (PC (oj _ _ _) (gm h1))];rfl
theorem aeu (hk:F3 k) {t:Tm} (ft:Fm t) (ret:Tm→Option S):vD k t ret=ret (if t.kind=14∧(t.kids.getD 0 ar).kind=23∧((t.kids.getD 1 ar).kind=24∨(t.kids.getD 1 ar).kind=25∨(t.kids.getD 1 ar).kind=26∨(t.kids.getD 1 ar).kind=15) then rE (d7 t.r (t.kids.getD 0 ar) (t.kids.getD 1 ar)) else ar):=by
 simp only [vD,EH,ak hk.fu,aF]
 by_cases h14:t.kind=14
 case neg=>rw [beq_false_of_ne h14,Bool.not_false,ai,if_neg (fun h=>h14 h.1)];rfl
 rw [h14,show (!((14:Int)==14))=false from rfl,ad]
 obtain ⟨line,x,hkd⟩:=oU (fq ft h14 (n:=2) rfl)
 obtain ⟨g0,g1⟩:=wj hkd
 obtain ⟨d0,d1⟩:=nh hkd
 have fl:Fm line:=ft.kid (by rw [hkd];simp)
 have fx:Fm x:=ft.kid (by rw [hkd];simp)
 have hr:=ft.r14 h14
 rw [d0,d1,g0,Option.bind_some]
 by_cases h23:line.kind=23
 case neg=>rw [beq_false_of_ne h23,Bool.not_false,ai,if_neg (fun h=>h23 h.2.1)];rfl
 rw [h23,show (!((23:Int)==23))=false from rfl,ad,g1,Option.bind_some,Option.bind_some]
 by_cases h24:x.kind=24
 ·rw [h24,show ((24:Int)==24)=true from rfl,ai,if_pos ⟨rfl,rfl,.inl rfl⟩]
  unfold d7;rw [if_pos (.inl h24)];rfl
 rw [beq_false_of_ne h24,ad]
 by_cases h25:x.kind=25
 ·rw [h25,show ((25:Int)==25)=true from rfl,ai,if_pos ⟨rfl,rfl,.inr (.inl rfl)⟩]
  unfold d7;rw [if_pos (.inr h25)];rfl
 rw [beq_false_of_ne h25,ad]
 obtain ⟨y,hy⟩:=ot (fq fl h23 (n:=1) rfl)
 have e1:ae line.kids 0=some y:=by rw [hy];rfl
 have fy:=fl.kid (x:=y) (by rw [hy];simp)
 by_cases h26:x.kind=26
 ·obtain ⟨w,hw⟩:=ot (fq fx h26 (n:=1) rfl)
  have e2:ae x.kids 0=some w:=by rw [hw];rfl
  have fw:=fx.kid (x:=w) (by rw [hw];simp)
  have htr: ∀ (g:Tm→Option S),iD k t.r y w g=g (bS t.r y w):=fun g=>Dk hk (x:= .ok y) (y:= .ok w) (lk fy.rows.no.2.2) (lk fw.rows.no.2.2) g
  rw [h26,show ((26:Int)==26)=true from rfl,ai,if_pos ⟨rfl,rfl,.inr (.inr (.inl rfl))⟩,e1,Option.bind_some,e2,Option.bind_some,htr]
  have hone: ∀ (g:Tm→Option S),vB k 26 (bS t.r y w) g=g (EY 26 [bS t.r y w]):=fun g=>by
   simp only [vB,Ph,ak hk.fu,aF,qH,yh]
   have:=HI hk.fu g (kd:=26) (l:=[bS t.r y w]) (by simp) [bS t.r y w] [] k rfl (by have:4294968296≤k:=hk;simp;omega)
   exact this
  rw [hone]
  unfold d7;rw [if_neg (by omega),if_pos h26,hy,hw];rfl
 rw [beq_false_of_ne h26,ad]
 by_cases h15:x.kind=15
 case neg=>rw [beq_false_of_ne h15,Bool.not_false,ai,if_neg (fun h=>by omega)];rfl
 obtain ⟨u,a,hxk⟩:=oU (fq fx h15 (n:=2) rfl)
 obtain ⟨gx0,gx1⟩:=wj hxk
 obtain ⟨dx0,dx1⟩:=nh hxk
 have fa:Fm a:=fx.kid (by rw [hxk];simp)
 obtain ⟨sy,syl⟩:=fx.sy h15
 have htr: ∀ (g:Tm→Option S),iD k t.r line a g=g (bS t.r line a):=fun g=>Dk hk (x:= .ok line) (y:= .ok a) (lk fl.rows.no.2.2) (lk fa.rows.no.2.2) g
 have gt:Gd (cM 0 [⟨0,0⟩] line):=⟨fun e h=>s8 h,fun t h=>by rw [afJ h];exact fl.rows.no.2.2⟩
 have h15': ∀g:Tm→Option S,la k 15 (rE (cM 0 [⟨0,0⟩] line)) (bS t.r line a) g=g (rE (bE (cM 0 [⟨0,0⟩] line) fun l1=> .ok (EY 15 [l1,bS t.r line a]))):=fun g=>M2 hk (y:= .ok (bS t.r line a)) gt (lk (show (0:Int)≤14 by decide)) g
 rw [h15,show (!((15:Int)==15))=false from rfl,ad,ady hk fl (show (0:Int)≤0∧(0:Int)<24 by omega) My,gx1,Option.bind_some,htr,h15',if_pos ⟨rfl,rfl,.inr (.inr (.inr rfl))⟩]
 unfold d7
 rw [if_neg (by omega),if_neg h26,dx1]
 have hfu:4294968296≤k:=hk
 cases h1:cM 0 [⟨0,0⟩] line with
 |error e=>exact HL ret (s8 h1).1 (by omega) _
 |ok l1=>
  rw [aD,aD]
  exact aaC hk ret hr fl sy syl x.sys [] [] k rfl (by omega) (by simpa using syl)
end Go.Proofs.YtehekgbehghgdaaGreatDoor
namespace Go.Proofs.YtehekgbehghgdaaGreatDoor
open Go PI
set_option maxRecDepth 100000
theorem agi {S:Type} (q:Nat) (ret:Bool→Option S):qm (q+400) ret=ret true:=by kernel_rfl
theorem aeK {S:Type} {k:Nat} (hk:F3 k) (ret:Bool→Option S):qm k ret=ret true:=by
 have hk:4294968296≤k:=hk
 obtain ⟨q,rfl⟩: ∃q,k=q+400:=⟨k-400,by omega⟩
 exact agi q ret
end Go.Proofs.YtehekgbehghgdaaGreatDoor
namespace Go.Proofs.YtehekgbehghgdaaGreatDoor
open Go PI
set_option linter.unusedVariables false
set_option linter.unusedSimpArgs false
set_option maxRecDepth 20000
variable {S:Type} {k:Nat}
theorem Vh {n:Nat} {l:List (Br Tm)} (h:Bs' n l) {f:List Cl} (hf:am f∧f.length<1073741824) {t:Tm} (ht:Sm n t):Bs' n (⟨f,[t]⟩::l):=by
 refine ⟨?_, ?_, ?_⟩
 ·rw [bn,jq,bP,bP];exact ⟨⟨⟨hf.1,hf.2,by simp⟩,ht.ok,trivial⟩,h.ok⟩
 ·rw [aN,g9,aJ,aJ,List.length_cons,Nat.succ_mul]
  have:=h.siz;have:=ht.siz;omega
 ·rw [aS,jK,aK,aK]
  have:=h.dep;have:=ht.dep;omega
theorem Vu {r:List Cl} (hr:RX true r) {line:Tm} (fl:Fm line): ∀ {l l':List (Br Tm)},(∀b∈l,b.kids=[cj b]∧Fm (cj b)∧RX true b.face)→dH r line l= .ok l'→Bs' 50000 l'∧l'.length=l.length∧aS l'≤299:=by
 intro l
 induction l with
 |nil=>intro l' _ h;cases h;exact ⟨Fz _,rfl,by rw [aS];omega⟩
 |cons b l ih=>
  intro l' hl h
  rw [dH] at h
  cases h1:b_ (aX r 0 1) with
  |error e=>rw [h1] at h;cases h
  |ok phi=>
  rw [h1,aD] at h
  cases h2:a_ 0 1 0 1 line with
  |error e=>rw [h2] at h;cases h
  |ok ln=>
  rw [h2,aD] at h
  cases h3:dH r line l with
  |error e=>rw [h3] at h;cases h
  |ok l2=>
  rw [h3,aD] at h
  injection h with h
  subst h
  obtain ⟨i1,i2,i3⟩:=ih (fun x hx=>hl x (by simp [hx])) h3
  obtain ⟨b1,b2,b3⟩:=hl b (by simp)
  have fln:=HV (by omega) fl h2
  have hphi:am phi∧phi.length<1073741824:=by
   have hlk:=HT (b:=1) hr.1
   unfold b_ at h1
   split at h1
   ·injection h1 with h1;subst h1;exact hlk
   ·cases h1
  have hs:=xY hphi fln.sm b2.sm (by have:=fln.dep;omega) (by have:=b2.dep;omega)
  refine ⟨Vh i1 (oI b3) (hs.mono (by omega)),by rw [List.length_cons,List.length_cons,i2], ?_⟩
  rw [aS,jK,aK,aK]
  have:ap (bS phi ln (cj b))≤201:=by
   rw [ap,aK,aK,aK,aS];have:=b2.dep;have:=fln.dep;omega
  omega
theorem FG (hk:F3 k) {t:Tm} (ft:Fm t) (h14:t.kind=14) (h23:(t.kids.getD 0 ar).kind=23) (hx:(t.kids.getD 1 ar).kind=24∨(t.kids.getD 1 ar).kind=25∨(t.kids.getD 1 ar).kind=26∨(t.kids.getD 1 ar).kind=15) {y:Tm} (h:d7 t.r (t.kids.getD 0 ar) (t.kids.getD 1 ar)= .ok y):In k y∧0<y.kind:=by
 obtain ⟨line,x,hkd⟩:=oU (fq ft h14 (n:=2) rfl)
 obtain ⟨d0,d1⟩:=nh hkd
 have fl:Fm line:=ft.kid (by rw [hkd];simp)
 have fx:Fm x:=ft.kid (by rw [hkd];simp)
 have hr:=ft.r14 h14
 rw [d0] at h23
 rw [d0,d1] at h
 rw [d1] at hx
 unfold d7 at h
 split at h
 case isTrue hc=>injection h with h;subst h;exact ⟨fx.isIn hk,by omega⟩
 rename_i hc
 split at h
 case isTrue h26=>
  injection h with h;subst h
  obtain ⟨u,hu⟩:=ot (fq fl h23 (n:=1) rfl)
  obtain ⟨w,hw⟩:=ot (fq fx h26 (n:=1) rfl)
  have:=FH hr hu hw fl fx
  rw [hu,hw]
  exact ⟨this.isIn hk (by omega),show (0:Int)<26 by decide⟩
 rename_i h26
 have h15:x.kind=15:=by omega
 obtain ⟨u,a,hxk⟩:=oU (fq fx h15 (n:=2) rfl)
 obtain ⟨dx0,dx1⟩:=nh hxk
 have fa:Fm a:=fx.kid (by rw [hxk];simp)
 obtain ⟨sy,syl⟩:=fx.sy h15
 cases h1:cM 0 [⟨0,0⟩] line with
 |error e=>rw [h1] at h;cases h
 |ok e=>
 rw [h1,aD] at h
 cases h2:dH t.r line x.sys with
 |error e=>rw [h2] at h;cases h
 |ok l=>
 rw [h2,aD,dx1] at h
 injection h with h
 subst h
 obtain ⟨q1,q2,q3⟩:=PA fl h1
 obtain ⟨b1,b2,b3⟩:=Vu hr fl sy h2
 exact ⟨(NC hr ⟨q1,q3,(show ap e≤300 by omega)⟩ q2 fl fa b1 (by omega) b3).isIn hk (by omega),show (0:Int)<15 by decide⟩
theorem aet (hk:F3 k) {t:Tm} (ht:In k t) (ret:Tm×Bool×Int→Option S):vC k t ret=ret (mB t):=by
 simp only [vC,Pj,ak hk.fu,aF,Dm ht.1 ht.2.1 ht.2.2]
 unfold mB
 by_cases h0:bA t=0
 case neg=>rw [d6 h0,Bool.not_false,ai,if_pos h0];rfl
 rw [h0,show (!((0:Int)==0))=false from rfl,ad,if_neg (by simp)]
 have ft:Fm t:=⟨ht.1,h0⟩
 rw [aeu hk ft]
 split
 case isTrue hc=>
  rw [adL hk (fun e h=>Vw h) (fun y h=>FG hk ft hc.1 hc.2.1 hc.2.2 h)]
 case isFalse hc=>rw [adM]
theorem Vt (hk:F3 k) {t:Tm} (ht:In k t):In k (mB t).1:=by
 unfold mB
 by_cases h0:bA t=0
 case neg=>rw [if_pos h0];exact kg hk
 rw [if_neg (by simp [h0])]
 have ft:Fm t:=⟨ht.1,h0⟩
 split
 case isTrue hc=>
  cases hh:d7 t.r (t.kids.getD 0 ar) (t.kids.getD 1 ar) with
  |error e=>exact kg hk
  |ok y=>
   have:=FG hk ft hc.1 hc.2.1 hc.2.2 hh
   show In k (if bA y=0 then (y,true,(0:Int)) else (ar,false,bA y)).1
   split
   ·exact this.1
   ·exact kg hk
 case isFalse hc=>exact kg hk
theorem adD (hk:F3 k) {t:Tm} (ht:In k t) (ret:Bool→Option S):Ak k t ret=ret true:=by
 simp only [Ak,Ot,ak hk.fu,aF,aeK hk,aev t ht.1 _ ht.2.1,ad1 hk ht,aet hk ht,Al,Ou]
 obtain ⟨w,hw⟩:=aes t ht.1 150 (fun r1=>ab (decide (r1>150)) (ret true) (ret true)) ht.2.1
 have hres:=Vt hk ht
 simp only [Nt _ hres.1 _ hres.2.1,Nt t ht.1 _ ht.2.1,ai,beq_self_eq_true]
 exact hw.trans (Ny _ _)
end Go.Proofs.YtehekgbehghgdaaGreatDoor
namespace Go.Proofs.YtehekgbehghgdaaGreatDoor
open Go PI Go.ChangeShapes Go.WideShapes Go.ChangeAt Go.RowKit
set_option linter.unusedVariables false
set_option linter.unusedSimpArgs false
set_option maxRecDepth 100000
set_option maxHeartbeats 4000000
theorem YH {k:Nat} (hk:4296016872≤k) {H:Type} {t:Tm} {d:DataW H} (h:QT t d) (hb:Rows.uptoBulk d≤1048576):In k t:=by
 have h1:=h.1
 have h2:=vL t
 exact ⟨h.2 (by omega),by unfold Fd;omega,by omega⟩
theorem aa_ {k:Nat} (hk:4296016872≤k) {o:Obj} (ho:af o) {t0:Tm} (h0:In k t0):
  bL (LL o) 5 [.agg (dz ET.T t0)] [] (.ret (.bool true) []):=by
 have hF:F3 k:=by unfold F3;omega
 obtain ⟨j,rfl⟩: ∃j,k=j+1:=⟨k-1,by omega⟩
 obtain ⟨out,hout,hx⟩:=afP (S:=Out UU) o ho (j+1) [.agg (dz ET.T t0)] [] some (.ret (.bool true) []) (by
  cases t0
  exact Eq.trans (by kernel_rfl) (adD hF h0 fun r=>some (Out.ret (U:=UU) (.bool r) [])))
 injection hx with hx
 exact hx▸hout
theorem aa9 (H:Type) (enc:TypeId×Value→H) (W:World) (base:Nat) (args:Array Value) (ds gs:List (DataW H)) (before:List MemPlace)
  (hval: ∀ (j:Nat) t v,Tryz.f5.params[j]? =some t→args[j]? =some v→Value.okWide Tryz.prog W .any base t v)
  (hW:DataW.Whole enc Tryz.prog Tryz.f5.params.toList Rows.hitCarriesSpec.vars false W args.toList ds gs before) (hL:laidMetH Tryz.prog Rows.hitCarriesRow.laid W) (hb:Rows.uptoBulkAll (ds++gs)≤1048576):
  Calls Tryz.prog 5 args W fun e W'=> ∃v,e= .returned v∧Rows.hitCarriesSpec.post enc Tryz.prog Tryz.f5 false true false false W args v W':=by
 have hW':=hW
 obtain ⟨p,q,hA0,hV,rfl,hfz,hnd⟩:=hW
 have hA:DataW.TrodAll enc Tryz.prog W 0 (fun _=>true) true Tryz.f5.params.toList args.toList ds p:=hA0
 rw [Tryz.params5] at hA hval
 obtain ⟨v0,vs0,d0,ds0,p0,q0,hargs,rfl,rfl,h0,r0⟩:=trodAll_cons hA
 obtain ⟨rfl,rfl,rfl⟩:=trodAll_nil r0
 obtain rfl:args= #[v0]:=by cases args;simp_all
 obtain ⟨rfl,rfl⟩:=trodVars_none hV
 obtain ⟨o,ho,hh⟩:=afI hL
 simp only [List.append_nil,Rows.uptoBulkAll,Nat.add_zero] at hb
 obtain ⟨t0,e0,k0⟩:=U7 (o:=o) (g:=gB UU 0 fun _=>0) noN h0
 have hk:(4296016872:Nat)≤4296016872:=Nat.le_refl _
 generalize hkk:(4296016872:Nat)=k at hk
 have hok:=aa_ (k:=k) (by omega) ho (YH (by omega) k0 (by omega))
 refine (Vl hok (YA hh rfl rfl fun j p hj=> ?_)).mono ?_
 ·match j,hj with
  |0,hj=>cases hj;exact e0
  |j+1,hj=>simp at hj
 ·rintro e W' ⟨rfl,hkept⟩
  refine ⟨_,rfl,acs rfl rfl (fun t ht=> ?_) rfl hW' hkept⟩
  rw [Tryz.params5] at ht
  have ht':t=26:=by simpa using ht
  rcases ht' with rfl<;>exact of_decide_eq_true (by kernel_rfl)
noncomputable def BD (os:Os):World:=
 {World.holding Tryz.prog os ⟨#[],#[],[]⟩ with heap:=(World.holding Tryz.prog os ⟨#[],#[],[]⟩).heap.modify 0 fun
   | .cells _ t frozen=> .cells (Lib.deBruijn32tab.map fun n:Nat=>Value.int .u8 n).toArray t frozen
   |o=>o}
def agw:Value:= .agg #[.int .i64 0,.int .i64 0,.string ByteArray.empty,.slice none 0 0,.slice none 0 0,.slice none 0 0]
def zeroArgs:Array Value:= #[agw]
def agu {H:Type}:DataW H:= .agg [.lit (.int .i64 0),.lit (.int .i64 0),.lit (.string []),.nil,.nil,.nil]
theorem aa6 (os:Os):laidMet Tryz.prog Rows.hitCarriesRow.laid ((BD os).forCall (fun _ _=>0) ⟨#[],zeroArgs,[]⟩).memory:=
 laidMet_of_run' 8 (by kernel_rfl) (by kernel_rfl)
theorem ada (os:Os) {H:Type} (enc:TypeId×Value→H): ∃places,DataW.whole enc Tryz.prog ((BD os).forCall (fun _ _=>0) ⟨#[],zeroArgs,[]⟩).memory Tryz.f5.params.toList Rows.hitCarriesSpec.vars false zeroArgs.toList 8=some ([agu],[],places):=
 ⟨[],by kernel_rfl⟩
theorem abu (os:Os) (started:os.Started) (H:Type) (enc:TypeId×Value→H) (F:Stop.Interp):
  ReturnsInHanded {} Tryz.checked os 5 .any ((Rows.OpenSpec.upto Rows.hitCarriesSpec).preRow enc Tryz.prog Tryz.f5 Rows.hitCarriesUptoRow.domain false Rows.hitCarriesUptoRow.laid) (((Rows.OpenSpec.upto Rows.hitCarriesSpec).at F).post enc Tryz.prog Tryz.f5 false true false false):=by
 obtain ⟨places,hx⟩:=ada os enc
 refine returnsInHanded_of_row (C:=Tryz.checked) (s:=Rows.OpenSpec.upto Rows.hitCarriesSpec) own started (by kernel_rfl) Tryz.func5
  (witness_row_at (enc:=enc) (C:=Tryz.checked) false (BD os) zeroArgs rfl (by kernel_rfl) (by kernel_rfl) (by kernel_rfl)
   (OpenSpec.preRow_of_cond 8 hx (by kernel_rfl) (fun k hk=>by cases hk;kernel_rfl) (by kernel_rfl) (aa6 os))) ?_
 intro W base args ds gs before hval hW _ hcond _ hL _ _
 exact aa9 H enc W base args ds gs before hval hW hL (of_decide_eq_true (hcond _ rfl))
theorem aeL:Rows.HitCarriesUptoSaid:=
 OpenClaim.holds_of_cond 5 Tryz.f5 rfl rfl rfl rfl rfl rfl rfl ⟨rfl,rfl,rfl,rfl,rfl⟩ rfl rfl rfl rfl rfl (by as_aux_lemma=>kernel_rfl) Tryz.func5 YR
  (of_decide_eq_true (by as_aux_lemma=>kernel_rfl)) (by unfold Func.isWrapper;first|(rw [if_pos (by decide+kernel)];kernel_rfl)|(rw [if_neg (by decide+kernel)];exact ⟨rfl,rfl⟩))
  (fun os started H enc _ F=>by rw [OpenClaim.pre_eq_preRow];exact abu os started H enc F)
theorem plain (f:FuncId) (fn:Func) (hf:Tryz.pinned.checked.prog.funcNamed "hypercube/hypercubelaw17.HitCarries" =some f) (hfn:Tryz.pinned.checked.prog.funcs[f]? =some fn):
  true=Tryz.pinned.checked.prog.looks []∧ ∀ (j:Nat) t,fn.params[j]? =some t→Tryz.pinned.checked.prog.wantsStandIn t=false:=by
 obtain rfl:f=5:=Option.some.inj ((show Tryz.prog.funcNamed "hypercube/hypercubelaw17.HitCarries" =some 5 by kernel_rfl).symm.trans hf)|>.symm
 obtain rfl:fn=Tryz.f5:=(Option.some.inj (Tryz.func5.symm.trans hfn)).symm
 refine ⟨by kernel_rfl,fun j t ht=> ?_⟩
 rw [Tryz.params5] at ht
 have ht':t=26:=by simpa using Array.mem_of_getElem? ht
 rcases ht' with rfl
 ·exact (show Tryz.prog.wantsStandIn 26=false by kernel_rfl)
theorem hitCarries_holds:Rows.HitCarriesUptoCardSaid:=
 Claim7.holds_tied_plain_at .later [] _ _ _ _ aeL (fun _ h=>by cases h) (by as_aux_lemma=>kernel_rfl) (fun _ h=>by cases h) hitCarriesUpto_row_tie rfl ⟨rfl,rfl⟩ (by as_aux_lemma=>kernel_rfl) rfl plain (by as_aux_lemma=>kernel_rfl)
#print axioms hitCarries_holds
end Go.Proofs.YtehekgbehghgdaaGreatDoor
