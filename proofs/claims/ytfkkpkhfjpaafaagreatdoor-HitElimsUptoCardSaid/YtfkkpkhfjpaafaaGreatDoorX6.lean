/- Part 6 of a proof: the sources, with their names and remarks, lie in wip/. -/
import Derived.Test.YtfkkpkhfjpaafaaGreatDoorX5
import Derived.KernelRfl
namespace Go.Proofs.YtfkkpkhfjpaafaaGreatDoor
open Go PI
set_option linter.unusedVariables false
set_option linter.unusedSimpArgs false
set_option maxRecDepth 20000
variable {S:Type} {k:Nat}
theorem qY (n:Nat):(((n:Nat):Int)==0)=decide (n=0):=by grind
theorem aff (hk:Fu k) (ret:Bool→Option S) {t:Tm} {dims:Int} (hd:0≤dims) (hd':dims<9223372036854775808) (hs: ∀b∈t.sys,aq b.face∧b.face.length<1073741824) (hlen:t.sys.length<1073741824):
  ∀ (r p:List (Br Tm)) (m:Nat),t.sys=p++r→r.length<m→kO k ret t dims m (p.length:Int)=ret (r.all (bX t.kind dims)&&decide (t.r.length=0)):=by
 intro r
 induction r with
 |nil=>
  grind [km,kO,yl,ad,qY]
 |cons x r ih=>
  intro p m h hm
  obtain ⟨m,rfl,hm'⟩:=km hm
  obtain ⟨e1,e2,e3,e4⟩:=ln h (by omega)
  have hx:=hs x (by grind)
  have hb:((x.kids.length:Int)==cz t.kind)=decide ((x.kids.length:Int)=cz t.kind):=by rfl
  simp only [kO,yl,e1,ae,e2,Option.bind_some,ag hk,Q8,Hb hk hx.1 (show x.face.length<2147483648 by omega),RZ hk hx.1 (show x.face.length<4294967296 by omega) hd hd',e3,ih (p++[x]) m e4 hm',List.all_cons,hb]
  grind [bX,decide,Int,cV,ae,ad]
theorem aj4 {S:Type} (b c:Bool) (ret:Bool→Option S):ab b (ret c) (ret false)=ret (b&&c):=by
 cases b<;>rfl
def om (vars dims:Int) (t:Tm):Bool:=
 if t.kind=1 then decide (t.r.length=0)&&(decide (0≤t.n)&&decide (vars<0∨t.n<vars))
   else if t.kind=2 then decide (t.r.length=0)&&oe t.name.data.toList
   else if t.kind=13∨t.kind=21∨t.kind=26 then bF t.r&&dg t.r dims
   else if t.kind=14 then cV t.r&&dg t.r dims
   else t.sys.all (bX t.kind dims)&&decide (t.r.length=0)
theorem NY (vars dims:Int) (t:Tm):cL vars dims t=((decide (ct t.kind=t.kids.length)&&(decide (t.kind=1∨t.n=0)&&(decide (t.kind=2∨t.name.size=0)&&decide (cz t.kind=0→t.sys.length=0))))&&om vars dims t):=by
 cases t;rfl
def Zm (t:Tm):Prop:=aG t.kind∧aG t.n∧t.name.size<1073741824∧aq t.r∧t.r.length<1073741824∧t.kids.length<1073741824∧t.sys.length<1073741824
theorem OkT.no {t:Tm} (h:OkT t):Zm t:=by cases t;exact h.node
theorem OkT.ki {t x:Tm} (h:OkT t) (hx:x∈t.kids):OkT x:=by cases t;exact h.kid hx
theorem OkT.bi {t:Tm} {b:Br Tm} (h:OkT t) (hb:b∈t.sys):(aq b.face∧b.face.length<1073741824∧b.kids.length<1073741824)∧ ∀t∈b.kids,OkT t:=by cases t;exact h.br hb
theorem aju (hk:Fu k) {t:Tm} (ht:OkT t) {vars dims:Int} (hd:0≤dims) (hd':dims<9223372036854775808) (ret:Bool→Option S):Ar k ret t vars dims k=ret (om vars dims t):=by
 obtain ⟨o1,o2,o3,o4,o5,o6,o7⟩:=ht.no
 have hb:=fun b hb=>(ht.bi (b:=b) hb).1
 obtain ⟨q,hq⟩: ∃q,k=q+1:=⟨k-1,by omega⟩
 have: ∀j,j=q+1→Ar k ret t vars dims j=tw k ret t vars dims (fun v109=>kO k ret t dims k v109):=by rintro j rfl;rfl
 rw [this k hq]
 have hl:=aff hk ret hd hd' (fun b h=>⟨(hb b h).1,(hb b h).2.1⟩) o7 t.sys [] k rfl (by omega)
 have hl:kO k ret t dims k 0=_:=hl
 simp only [tw,ag hk,ajo hk (show t.name.size<2147483648 by omega),rH hk o4 (show t.r.length<2147483648 by omega),Hb hk o4 (show t.r.length<2147483648 by omega),RZ hk o4 (show t.r.length<4294967296 by omega) hd hd',hl,qY,aj4]
 grind [cH,om]
theorem ajt (hk:Fu k) {t:Tm} (ht:OkT t) {vars dims:Int} (hd:0≤dims) (hd':dims<9223372036854775808) (ret:Bool→Option S):uj k t vars dims ret=ret (cL vars dims t):=by
 have hq:(ct t.kind==(t.kids.length:Int))=decide (ct t.kind=t.kids.length):=by rfl
 have hp:(cz t.kind==0)=decide (cz t.kind=0):=bG _
 simp only [uj,IZ,ag hk,aiR,Q8,aju hk ht hd hd',FO,hq,hp,bG,NY]
 have hsy:ab (decide (cz t.kind=0)) (ab (decide (((t.sys.length:Nat):Int)>0)) (ret false) (ret (om vars dims t))) (ret (om vars dims t))=ret (decide (cz t.kind=0→t.sys.length=0)&&om vars dims t):=by
  rw [aY,aY]
  by_cases h1:cz t.kind=0
  ·rw [if_pos h1]
   by_cases h2:t.sys.length=0<;>grind
  grind
 grind [ae,ad,decide_eq_false]
end Go.Proofs.YtfkkpkhfjpaafaaGreatDoor
namespace Go.Proofs.YtfkkpkhfjpaafaaGreatDoor
open Go PI
set_option linter.unusedVariables false
set_option linter.unusedSimpArgs false
set_option maxRecDepth 20000
variable {S:Type} {k:Nat}
abbrev Fd (k n:Nat):Prop:=4294967296+n≤k
theorem Fd.fu {n:Nat} (h:Fd k n):Fu k:=by omega
theorem Fd.pos {n:Nat} (h:Fd k n): ∃q,k=q+1∧ ∀j,j+1≤n→Fd q j:=⟨k-1,by omega,fun j hj=>by omega⟩
theorem Fd.pos' {n:Nat} (h:Fd k n) (hn:1≤n): ∃q,k=q+1∧Fu q∧ ∀j,j+1≤n→Fd q j:=⟨k-1,by omega,by omega,fun j hj=>by omega⟩
theorem alF (t:Tm):1≤am t:=by cases t;rw [am];omega
theorem pF (t:Tm):am t=max (aH t.kids) (aO t.sys)+1:=by cases t;rfl
theorem rM (t:Tm):au t=1+ay t.kids+aI t.sys:=by cases t;rfl
theorem bY {t x:Tm} (h:x∈t.kids):am x+1≤am t:=by rw [pF t];have:=D0 h;omega
theorem b8 {t:Tm} {b:Br Tm} {x:Tm} (hb:b∈t.sys) (h:x∈b.kids):am x+1≤am t:=by rw [pF t];have:=D0 h;have:=JP hb;omega
theorem c7 {Q:Tm→Prop} (h: ∀t,(∀x∈t.kids,Q x)→(∀b∈t.sys,∀x∈b.kids,Q x)→Q t) (t:Tm):Q t:=gq (fun kd n nm r ks sys h1 h2=>h (.mk kd n nm r ks sys) h1 h2) t
theorem pf {p q:Prop} [Decidable p] [Decidable q] (h:p↔q):decide p=decide q:=decide_eq_decide.2 h
theorem Hi {α:Type} (b c:Bool) (x y:α):ab (!b) y (if c then x else y)=if b&&c then x else y:=by cases b<;>cases c<;>rfl
theorem kY {S:Type} (b c:Bool) (ret:Bool→Option S):ab (!b) (ret false) (ret c)=ret (b&&c):=by cases b<;>rfl
theorem adr {S:Type} (b c:Bool) (ret:Bool→Option S):(if b=true then ret c else ret false)=ret (b&&c):=by grind
theorem aaf {n:Int} (h1: -9223372036854775808≤n) (h2:n<9223372036854775808):IntKind.wrap .i64 n=n:=alX h1 h2
section
variable {hd:Tm→Int→(Bool→Option S)→Option S} {c0:Int} {t:Tm} {Q:Tm→Bool}
theorem aeL (hk:Fu k) (ret:Bool→Option S) (rec1:Int→Int→Option S) (hc: -9223372036854775807≤c0) (hc':c0<9223372036854775808) {v more:Int} {x:Br Tm} (hQ: ∀y∈x.kids,∀g,hd y (c0-1) g=g (Q y)) (hl:x.kids.length<1073741824):
  ∀ (r p:List Tm) (m:Nat),x.kids=p++r→r.length<m→anh hd k ret rec1 c0 t v x more m (p.length:Int)=if r.all Q then rec1 (IntKind.wrap .i64 (v+1)) more else ret false:=by
 intro r
 induction r with
 |nil=>
  grind [km,anh,yi,ad]
 |cons y r ih=>
  intro p m h hm
  obtain ⟨m,rfl,hm'⟩:=km hm
  obtain ⟨e1,e2,e3,e4⟩:=ln h (by omega)
  have hy:=hQ y (by grind)
  simp only [anh,yi,e1,ae,e2,Option.bind_some,ag hk,uk,I0,ar,aaf (show-9223372036854775808≤c0-1 by omega) (by omega),hy,e3,ih (p++[y]) m e4 hm',Hi]
  rfl
theorem aeK (hk:Fu k) (ret:Bool→Option S) (hc: -9223372036854775807≤c0) (hc':c0<9223372036854775808) {more:Int} (hQ: ∀b∈t.sys,∀y∈b.kids,∀g,hd y (c0-1) g=g (Q y)) (hl:t.sys.length<1073741824) (hl': ∀b∈t.sys,b.kids.length<1073741824):
  ∀ (r p:List (Br Tm)) (m:Nat),t.sys=p++r→r.length<m→jp hd k ret c0 t m (p.length:Int) more=ret (r.all fun b=>b.kids.all Q):=by
 intro r
 induction r with
 |nil=>
  grind [km,jp,tp,ad]
 |cons x r ih=>
  intro p m h hm
  obtain ⟨m,rfl,hm'⟩:=km hm
  obtain ⟨e1,e2,e3,e4⟩:=ln h (by omega)
  have hx:x∈t.sys:=by grind
  have hlx:=hl' x hx
  have:=aeL (t:=t) hk ret (jp hd k ret c0 t m) (v:=(p.length:Int)) (more:=more) hc hc' (hQ x hx) hlx x.kids [] k rfl (by omega)
  simp only [jp,tp,e1,ae,e2,Option.bind_some,List.all_cons]
  refine Eq.trans this ?_
  rw [e3,ih (p++[x]) m e4 hm']
  cases x.kids.all Q<;>rfl
theorem aeJ (hk:Fu k) (ret:Bool→Option S) (hc: -9223372036854775807≤c0) (hc':c0<9223372036854775808) (hQ: ∀y∈t.kids,∀g,hd y (c0-1) g=g (Q y)) (hQ': ∀b∈t.sys,∀y∈b.kids,∀g,hd y (c0-1) g=g (Q y)) (ht:OkT t):
  ∀ (r p:List Tm) (m:Nat),t.kids=p++r→r.length<m→qS hd k ret c0 t m (p.length:Int)=ret (r.all Q&&t.sys.all fun b=>b.kids.all Q):=by
 obtain ⟨o1,o2,o3,o4,o5,o6,o7⟩:=ht.no
 intro r
 induction r with
 |nil=>
  intro p m h hm
  obtain ⟨m,rfl,hm'⟩:=km hm
  have hs: ∀more:Int,jp hd k ret c0 t k 0 more=_:=fun more=>aeK hk ret hc hc' (more:=more) hQ' o7 (fun b hb=>(ht.bi hb).1.2.2) t.sys [] k rfl (by omega)
  simp only [qS,tn,akb h,ad,hs]
  cases (t.kind==15)<;>rfl
 |cons y r ih=>
  intro p m h hm
  obtain ⟨m,rfl,hm'⟩:=km hm
  obtain ⟨e1,e2,e3,e4⟩:=ln h (by omega)
  have hy:=hQ y (by grind)
  simp only [qS,tn,e1,ae,e2,Option.bind_some,ag hk,jE,uk,I0,ar,aaf (show-9223372036854775808≤c0-1 by omega) (by omega),hy,e3,ih (p++[y]) m e4 hm',kY,List.all_cons,Bool.and_assoc]
end
theorem JN {n:Int} (hn:0≤n): ∀ {l:List Tm},(l.all fun x=>decide ((am x:Int)≤n))=decide ((aH l:Int)≤n):=by
 intro l
 induction l<;>grind [aH]
theorem aah {n:Int} (hn:0≤n): ∀ {l:List (Br Tm)},(l.all fun b=>b.kids.all fun x=>decide ((am x:Int)≤n))=decide ((aO l:Int)≤n):=by
 intro l
 induction l with
 |nil=>rw [aO];simp [hn]
 |cons b l ih=>rw [List.all_cons,ih,JN hn,aO,pD,Bool.eq_iff_iff];grind
theorem ajY (t:Tm):OkT t→ ∀ {k:Nat} {left:Int} (ret:Bool→Option S),Fd k (am t)→ -4611686018427387904≤left→left<4611686018427387904→jf k t left ret=ret (decide ((am t:Int)≤left)):=by
 induction t using c7 with
 |h t ih1 ih2=>
  intro ht k left ret hk h1 h2
  obtain ⟨q,rfl,hq,hf⟩:=hk.pos' (alF t)
  simp only [jf,TV,aY,ar,ag hq]
  by_cases h0:left>0
  ·rw [if_pos h0]
   have hQ: ∀y∈t.kids,∀g:Bool→Option S,jf q y (left-1) g=g (decide ((am y:Int)≤left-1)):=fun y hy g=>ih1 y hy (ht.ki hy) g (hf _ (bY hy)) (by omega) (by omega)
   have hQ': ∀b∈t.sys,∀y∈b.kids,∀g:Bool→Option S,jf q y (left-1) g=g (decide ((am y:Int)≤left-1)):=fun b hb y hy g=>ih2 b hb y hy ((ht.bi hb).2 y hy) g (hf _ (b8 hb hy)) (by omega) (by omega)
   have:=aeJ (Q:=fun y=>decide ((am y:Int)≤left-1)) hq ret (by omega) (by omega) hQ hQ' ht t.kids [] q rfl (by have:=ht.no.2.2.2.2.2.1;omega)
   simp only [DX,IV]
   refine Eq.trans this ?_
   rw [JN (by omega),aah (by omega),pF]
   congr 1
   rw [Bool.eq_iff_iff];simp;omega
  grind [alF]
section
variable {hd:Tm→Int→(Bool×Int→Option S)→Option S} {t:Tm}
def rT (hd:Tm→Int→(Bool×Int→Option S)→Option S) (k:Nat) (y:Tm):Prop:= ∀ (c:Int) (g:Bool×Int→Option S),0≤c→c<4611686018427387904→
 ∃v,pB hd k y c g=g (decide ((au y:Int)≤c),v)∧((au y:Int)≤c→v=c-au y)
theorem aeI (hk:Fu k) (ret:Bool×Int→Option S) (rec1:Int→Int→Int→Option S) {v more:Int} {x:Br Tm} (hQ: ∀y∈x.kids,rT hd k y) (hl:x.kids.length<1073741824):
  ∀ (r p:List Tm) (m:Nat) (c:Int),0≤c→c<4611686018427387904→x.kids=p++r→r.length<m→
  ((ay r:Int)≤c→kL hd k ret rec1 t v x more m c (p.length:Int)=rec1 (c-ay r) (IntKind.wrap .i64 (v+1)) more)∧(¬ (ay r:Int)≤c→ ∃w,kL hd k ret rec1 t v x more m c (p.length:Int)=ret (false,w)):=by
 intro r
 induction r with
 |nil=>
  grind [km,kL,yg,ad,ay]
 |cons y r ih=>
  intro p m c h0 h1 h hm
  obtain ⟨m,rfl,hm'⟩:=km hm
  obtain ⟨e1,e2,e3,e4⟩:=ln h (by omega)
  have hy:=hQ y (by grind)
  obtain ⟨w,hw,hw'⟩:=hy c (fun r1=>(fun r6:Bool×Int=>ab (!r6.1) (ret (false,r6.2)) (kL hd k ret rec1 t v x more m r6.2 (((p++[y]).length:Nat):Int))) (r1.1,r1.2)) h0 h1
  simp only [kL,yg,e1,ae,e2,Option.bind_some,ag hk,ul,I1,ar,e3,ay]
  rw [hw]
  by_cases hs:(au y:Int)≤c
  ·grind [ad]
  grind [ae]
theorem aeH (hk:Fu k) (ret:Bool×Int→Option S) {more:Int} (hQ: ∀b∈t.sys,∀y∈b.kids,rT hd k y) (hl:t.sys.length<1073741824) (hl': ∀b∈t.sys,b.kids.length<1073741824):
  ∀ (r p:List (Br Tm)) (m:Nat) (c:Int),0≤c→c<4611686018427387904→t.sys=p++r→r.length<m→
  ((aI r:Int)≤c→iA hd k ret t m c (p.length:Int) more=ret (true,c-aI r))∧(¬ (aI r:Int)≤c→ ∃w,iA hd k ret t m c (p.length:Int) more=ret (false,w)):=by
 intro r
 induction r with
 |nil=>
  grind [km,iA,tj,ad,aI]
 |cons x r ih=>
  intro p m c h0 h1 h hm
  obtain ⟨m,rfl,hm'⟩:=km hm
  obtain ⟨e1,e2,e3,e4⟩:=ln h (by omega)
  have hx:x∈t.sys:=by grind
  have hlx:=hl' x hx
  have:=aeI (t:=t) hk ret (iA hd k ret t m) (v:=(p.length:Int)) (more:=more) (hQ x hx) hlx x.kids [] k c h0 h1 rfl (by omega)
  simp only [iA,tj,e1,ae,e2,Option.bind_some,aI,kZ]
  obtain ⟨t1,t2⟩:=this
  rw [show (((([]:List Tm).length:Nat):Int))=0 from rfl] at t1 t2
  by_cases hs:(ay x.kids:Int)≤c
  ·obtain ⟨i1,i2⟩:=ih (p++[x]) m (c-ay x.kids) (by omega) (by omega) e4 hm'
   rw [t1 hs,e3]
   refine ⟨fun h=> ?_,fun h=>i2 (by omega)⟩
   rw [i1 (by omega),show c-(ay x.kids:Int)-(aI r:Int)=c-((ay x.kids+aI r:Nat):Int) by omega]
  ·exact ⟨fun h=>absurd (by omega) hs,fun _=>t2 hs⟩
theorem aeG (hk:Fu k) (ret:Bool×Int→Option S) (hQ: ∀y∈t.kids,rT hd k y) (hQ': ∀b∈t.sys,∀y∈b.kids,rT hd k y) (ht:OkT t):
  ∀ (r p:List Tm) (m:Nat) (c:Int),0≤c→c<4611686018427387904→t.kids=p++r→r.length<m→
  ∃w,nY hd k ret t m c (p.length:Int)=ret (decide (((ay r+aI t.sys:Nat):Int)≤c),w)∧(((ay r+aI t.sys:Nat):Int)≤c→w=c-((ay r+aI t.sys:Nat):Int)):=by
 obtain ⟨o1,o2,o3,o4,o5,o6,o7⟩:=ht.no
 intro r
 induction r with
 |nil=>
  intro p m c h0 h1 h hm
  obtain ⟨m,rfl,hm'⟩:=km hm
  have hs: ∀more:Int,_:=fun more=>aeH hk ret (more:=more) hQ' o7 (fun b hb=>(ht.bi hb).1.2.2) t.sys [] k c h0 h1 rfl (by omega)
  have key: ∀more:Int,∃w,iA hd k ret t k c 0 more=ret (decide (((aI t.sys:Nat):Int)≤c),w)∧(((aI t.sys:Nat):Int)≤c→w=c-((aI t.sys:Nat):Int)):=fun more=>by
   by_cases hc:(aI t.sys:Int)≤c
   ·simp_all
   ·obtain ⟨w,e⟩:=(hs more).2 hc
    grind
  have hz:ay []+aI t.sys=aI t.sys:=by rw [ay,Nat.zero_add]
  rw [hz]
  simp only [nY,ti,akb h,ad]
  cases (t.kind==15) with
  |true=>exact key 1
  |false=>exact key 0
 |cons y r ih=>
  intro p m c h0 h1 h hm
  obtain ⟨m,rfl,hm'⟩:=km hm
  obtain ⟨e1,e2,e3,e4⟩:=ln h (by omega)
  have hy:=hQ y (by grind)
  obtain ⟨w,hw,hw'⟩:=hy c (fun r1=>(fun r3:Bool×Int=>ab (!r3.1) (ret (false,r3.2)) (nY hd k ret t m r3.2 (((p++[y]).length:Nat):Int))) (r1.1,r1.2)) h0 h1
  have hz:ay (y::r)+aI t.sys=au y+ay r+aI t.sys:=by rw [ay]
  rw [hz]
  simp only [nY,ti,e1,ae,e2,Option.bind_some,ag hk,jE,ul,I1,ar,e3]
  rw [hw]
  by_cases hs:(au y:Int)≤c
  ·have:=hw' hs
   subst this
   obtain ⟨u,i1,i2⟩:=ih (p++[y]) m (c-au y) (by omega) (by omega) e4 hm'
   grind [ad]
  grind [ae,decide_eq_false]
end
theorem ai5 (t:Tm):OkT t→ ∀ {k:Nat} (c:Int) (ret:Bool×Int→Option S),Fd k (am t)→0≤c→c<4611686018427387904→
  ∃w,fg k t c ret=ret (decide ((au t:Int)-1≤c),w)∧((au t:Int)-1≤c→w=c-((au t:Int)-1)):=by
 induction t using c7 with
 |h t ih1 ih2=>
  intro ht k c ret hk h1 h2
  obtain ⟨q,rfl,hq,hf⟩:=hk.pos' (alF t)
  have cnt: ∀y,(∀ {k:Nat} (c:Int) (ret:Bool×Int→Option S),Fd k (am y)→0≤c→c<4611686018427387904→ ∃w,fg k y c ret=ret (decide ((au y:Int)-1≤c),w)∧((au y:Int)-1≤c→w=c-((au y:Int)-1)))→
    Fd q (am y)→rT (S:=S) (fg q) q y:=by
   intro y hy hfy c g h0 h1
   simp only [pB,I2,ar,aaf (show-9223372036854775808≤c-1 by omega) (by omega),aY]
   have:=mB y
   by_cases hc:c-1≥0
   ·rw [if_pos hc]
    obtain ⟨w,e,e'⟩:=hy (c-1) (fun r1=>g (r1.1,r1.2)) hfy (by omega) (by omega)
    grind
   ·rw [if_neg hc]
    exact ⟨c-1,by grind,fun h=>by omega⟩
  obtain ⟨w,e,e'⟩:=aeG hq ret (fun y hy=>cnt y (fun c ret=>ih1 y hy (ht.ki hy) c ret) (hf _ (bY hy))) (fun b hb y hy=>cnt y (fun c ret=>ih2 b hb y hy ((ht.bi hb).2 y hy) c ret) (hf _ (b8 hb hy))) ht t.kids [] q c h1 h2 rfl (by have:=ht.no.2.2.2.2.2.1;omega)
  grind [fg,IT,rM]
theorem aj0 {t:Tm} (ht:OkT t) (hk:Fd k (am t)) {most:Int} (h0:0<most) (h1:most<4611686018427387904) (ret:Bool→Option S):zE k t most ret=ret (decide ((au t:Int)≤most)):=by
 simp only [zE,TX,ag hk.fu,pB,I2,ar,aaf (show-9223372036854775808≤most-1 by omega) (by omega),aY]
 rw [if_pos (by omega)]
 obtain ⟨w,e,_⟩:=ai5 t ht (most-1) (fun r1=>ret (r1.1,r1.2).1) hk (by omega) (by omega)
 grind
def VW (vars dims:Int) (n:Nat):Prop:= -9223372036854775808≤vars∧vars<9223372036854775808∧0≤dims∧dims+n<4611686018427387904
section
variable {hd:Tm→Int→Int→Bool→(Bool→Option S)→Option S} {vars dims:Int} {bd:Bool} {t:Tm}
theorem Rc (hv:VW vars dims 1) {v d:Int} (h1:0≤v∧v≤1) (h2:0≤d∧d≤1) (y:Tm) (g:Bool→Option S):uh hd k y v d vars dims bd g=hd y (IntKind.wrap .i64 (cQ vars v)) (dims+d) bd g:=by
 obtain ⟨v1,v2,v3,v4⟩:=hv
 simp only [uh,TU,ar,aY,aaf (show-9223372036854775808≤dims+d by omega) (by omega)]
 unfold cQ
 split
 ·rw [Int.add_zero]
 ·rfl
theorem aeF (hk:Fu k) (ret:Bool→Option S) (rec1:Int→Int→Option S) (hv:VW vars dims 1) {v more:Int} {x:Br Tm} (hm:more=av t.kind) (hQ: ∀y∈x.kids,∀g,hd y vars (dims+more) bd g=g (a6 bd vars (dims+more) y)) (hl:x.kids.length<1073741824):
  ∀ (r p:List Tm) (m:Nat),x.kids=p++r→r.length<m→mi hd k ret rec1 vars dims bd t v x more m (p.length:Int)=if ca bd vars dims t.kind r then rec1 (IntKind.wrap .i64 (v+1)) more else ret false:=by
 subst hm
 intro r
 induction r with
 |nil=>
  intro p m h hm
  obtain ⟨m,rfl,hm'⟩:=km hm
  simp only [mi,yh,akb h,ad];rfl
 |cons y r ih=>
  intro p m h hm
  obtain ⟨m,rfl,hm'⟩:=km hm
  obtain ⟨e1,e2,e3,e4⟩:=ln h (by omega)
  have hy:=hQ y (by grind)
  have h0:IntKind.wrap .i64 (cQ vars 0)=vars:=by rw [show cQ vars 0=vars by grind [cQ]];exact aaf hv.1 hv.2.1
  simp only [mi,yh,e1,ae,e2,Option.bind_some,ag hk,ar,Rc hv (show (0:Int)≤0∧(0:Int)≤1 by omega) (dy t.kind),h0,hy,e3,ih (p++[y]) m e4 hm',Hi]
  rw [ca]
theorem aeE (hk:Fu k) (ret:Bool→Option S) (hv:VW vars dims 1) {more:Int} (hm:more=av t.kind) (hQ: ∀b∈t.sys,∀y∈b.kids,∀g,hd y vars (dims+more) bd g=g (a6 bd vars (dims+more) y)) (hl:t.sys.length<1073741824) (hl': ∀b∈t.sys,b.kids.length<1073741824):
  ∀ (r p:List (Br Tm)) (m:Nat),t.sys=p++r→r.length<m→iC hd k ret vars dims bd t m (p.length:Int) more=ret (ck bd vars dims t.kind r):=by
 intro r
 induction r with
 |nil=>
  grind [km,iC,tl,ad,ck]
 |cons x r ih=>
  intro p m h hml
  obtain ⟨m,rfl,hm'⟩:=km hml
  obtain ⟨e1,e2,e3,e4⟩:=ln h (by omega)
  have hx:x∈t.sys:=by grind
  have hlx:=hl' x hx
  have:=aeF (t:=t) (bd:=bd) hk ret (iC hd k ret vars dims bd t m) hv (v:=(p.length:Int)) hm (hQ x hx) hlx x.kids [] k rfl (by omega)
  have this:mi hd k ret (iC hd k ret vars dims bd t m) vars dims bd t (p.length:Int) x more k 0=_:=this
  simp only [iC,tl,e1,ae,e2,Option.bind_some,this,e3,ih (p++[x]) m e4 hm']
  have ea:ck bd vars dims t.kind (x::r)=(ca bd vars dims t.kind x.kids&&ck bd vars dims t.kind r):=by cases x;rfl
  grind
theorem aeD (hk:Fu k) (ret:Bool→Option S) (hv:VW vars dims 1) (hQ: ∀y∈t.kids,∀v d,0≤v∧v≤1→0≤d∧d≤1→ ∀g,hd y (IntKind.wrap .i64 (cQ vars v)) (dims+d) bd g=g (a6 bd (cQ vars v) (dims+d) y)) (hQ': ∀b∈t.sys,∀y∈b.kids,∀g,hd y vars (dims+av t.kind) bd g=g (a6 bd vars (dims+av t.kind) y)) (ht:OkT t):
  ∀ (r p:List Tm) (m:Nat),t.kids=p++r→r.length<m→nZ hd k ret vars dims bd t m (p.length:Int)=ret (bO bd vars dims t.kind p.length r&&ck bd vars dims t.kind t.sys):=by
 obtain ⟨o1,o2,o3,o4,o5,o6,o7⟩:=ht.no
 intro r
 induction r with
 |nil=>
  intro p m h hm
  obtain ⟨m,rfl,hm'⟩:=km hm
  have hs:iC hd k ret vars dims bd t k 0 (av t.kind)=_:=aeE hk ret hv rfl hQ' o7 (fun b hb=>(ht.bi hb).1.2.2) t.sys [] k rfl (by omega)
  grind [nZ,tk,bO,av,cH]
 |cons y r ih=>
  intro p m h hm
  obtain ⟨m,rfl,hm'⟩:=km hm
  obtain ⟨e1,e2,e3,e4⟩:=ln h (by omega)
  have b1:=g7 t.kind p.length
  have b2:=gr t.kind p.length
  have hy:=hQ y (by grind) (bz t.kind p.length) (bJ t.kind p.length) b1 b2
  simp only [nZ,tk,e1,ae,e2,Option.bind_some,ag hk,jE,ar,Rc hv b1 b2,hy,e3,ih (p++[y]) m e4 hm',kY]
  grind [bO]
end
theorem wI (bd:Bool) (vars dims:Int) (t:Tm):a6 bd vars dims t=(!(bd&&decide (dims>24))&&(cL vars dims t&&(bO bd vars dims t.kind 0 t.kids&&ck bd vars dims t.kind t.sys))):=by cases t;rfl
theorem Uf {vars v:Int} (h:0≤v∧v≤1):vars≤cQ vars v∧cQ vars v≤vars+1:=by grind [cQ]
theorem Zv {bd:Bool} (t:Tm):OkT t→ ∀ {V W D:Int},W<0→9223372036854775808≤V→a6 bd W D t=a6 bd V D t:=by
 induction t using gq with
 |h kd n nm r ks sys ih1 ih2=>
  intro ht V W D hW hV
  have ho:=ht
  rw [OkT] at ht
  obtain ⟨o1,o2,o3,o4,o5,o6,o7⟩:=ht.1
  have hk: ∀ {l:List Tm} {i:Nat},(∀x∈l,OkT x→ ∀ {V W D:Int},W<0→9223372036854775808≤V→a6 bd W D x=a6 bd V D x)→aZ l→bO bd W D kd i l=bO bd V D kd i l:=by
   intro l
   induction l with
   |nil=>intro i _ _;rw [bO,bO]
   |cons t l ih=>
    intro i h hl
    rw [aZ] at hl
    have hb:=g7 kd i
    rw [bO,bO,ih (fun x hx=>h x (by simp [hx])) hl.2,h t (by simp) hl.1 (W:=cQ W (bz kd i)) (V:=cQ V (bz kd i)) (by unfold cQ;split<;>omega) (by unfold cQ;split<;>omega)]
  have hm: ∀ {l:List Tm},(∀x∈l,OkT x→ ∀ {V W D:Int},W<0→9223372036854775808≤V→a6 bd W D x=a6 bd V D x)→aZ l→ca bd W D kd l=ca bd V D kd l:=by
   intro l
   induction l with
   |nil=>intro _ _;rw [ca,ca]
   |cons t l ih=>
    intro h hl
    rw [aZ] at hl
    rw [ca,ca,ih (fun x hx=>h x (by simp [hx])) hl.2,h t (by simp) hl.1 hW hV]
  have hs: ∀ {l:List (Br Tm)},(∀b∈l,∀x∈b.kids,OkT x→ ∀ {V W D:Int},W<0→9223372036854775808≤V→a6 bd W D x=a6 bd V D x)→ba l→ck bd W D kd l=ck bd V D kd l:=by
   intro l
   induction l with
   |nil=>intro _ _;rw [ck,ck]
   |cons b l ih=>
    intro h hl
    obtain ⟨f,ks'⟩:=b
    rw [ba,fc] at hl
    rw [ck,ck,jT,jT,ih (fun b hb=>h b (by simp [hb])) hl.2,hm (l:=ks') (h ⟨f,ks'⟩ (by simp)) hl.1.2]
  have hw:cL W D (.mk kd n nm r ks sys)=cL V D (.mk kd n nm r ks sys):=by
   unfold cL
   have:decide (W<0∨n<W)=decide (V<0∨n<V):=by
    have hn:n<9223372036854775808:=by unfold aG at o2;omega
    rw [decide_eq_true (.inl hW),decide_eq_true (.inr (by omega))]
   dsimp only
   rw [this]
  rw [a6,a6,hw,hk ih1 ht.2.1,hs ih2 ht.2.2]
theorem cB (t:Tm):OkT t→ ∀ {k:Nat} {vars dims:Int} {bd:Bool} (ret:Bool→Option S),Fd k (am t)→VW vars dims (am t)→ic k t vars dims bd ret=ret (a6 bd vars dims t):=by
 induction t using c7 with
 |h t ih1 ih2=>
  intro ht k vars dims bd ret hk hv
  obtain ⟨q,rfl,hq,hf⟩:=hk.pos' (alF t)
  have hp:=alF t
  have hv':=hv
  unfold VW at hv'
  have hv1:VW vars dims 1:=by unfold VW;omega
  have hm:=dy t.kind
  have hQ: ∀y∈t.kids,∀v d,0≤v∧v≤1→0≤d∧d≤1→ ∀g:Bool→Option S,ic q y (IntKind.wrap .i64 (cQ vars v)) (dims+d) bd g=g (a6 bd (cQ vars v) (dims+d) y):=fun y hy v d h1 h2 g=>by
   have hd:=bY hy
   have hvb:=Uf (vars:=vars) h1
   by_cases hlt:cQ vars v<9223372036854775808
   ·rw [aaf (by omega) hlt]
    exact ih1 y hy (ht.ki hy) g (hf _ (bY hy)) (by unfold VW;omega)
   ·have e:cQ vars v=9223372036854775808:=by omega
    rw [e,show IntKind.wrap .i64 9223372036854775808= -9223372036854775808 from by decide,ih1 y hy (ht.ki hy) g (hf _ (bY hy)) (by unfold VW;omega),Zv y (ht.ki hy) (by omega) (Int.le_refl _)]
  have hQ': ∀b∈t.sys,∀y∈b.kids,∀g:Bool→Option S,ic q y vars (dims+av t.kind) bd g=g (a6 bd vars (dims+av t.kind) y):=fun b hb y hy g=>ih2 b hb y hy ((ht.bi hb).2 y hy) g (hf _ (b8 hb hy)) (by
   have:=b8 hb hy;unfold VW;omega)
  have:=aeD (bd:=bd) hq ret hv1 hQ hQ' ht t.kids [] q rfl (by have:=ht.no.2.2.2.2.2.1;omega)
  have this:nZ (ic q) q ret vars dims bd t q 0=_:=this
  simp only [ic,TT,ar,ag hq,ajt hq ht (show 0≤dims by omega) (show dims<9223372036854775808 by omega),zB,IU,this]
  rw [wI]
  cases bd with
  |true=>
   rw [ae,aY,Bool.true_and]
   by_cases h24:dims>24
   ·grind
   ·rw [if_neg h24,decide_eq_false h24]
    cases cL vars dims t<;>rfl
  |false=>
   rw [ad]
   cases cL vars dims t<;>rfl
def VD (vars dims:Int) (n:Nat):Prop:= -4611686018427387904≤vars∧vars+n<4611686018427387904∧0≤dims∧dims+n<4611686018427387904
theorem ai1 (t:Tm) (ht:OkT t) {k:Nat} {vars dims:Int} {bd:Bool} (ret:Bool→Option S) (hk:Fd k (am t)) (hv:VD vars dims (am t)):ic k t vars dims bd ret=ret (a6 bd vars dims t):=
 cB t ht ret hk (by obtain ⟨v1,v2,v3,v4⟩:=hv;exact ⟨by omega,by omega,v3,v4⟩)
theorem ajZ {t:Tm} (ht:OkT t) (hk:Fd k (am t)) (ret:Int→Option S):zD k t ret=ret (if am t>200 then 62 else if au t>20000 then 221 else 0):=by
 simp only [zD,TW,ar,ajY t ht _ hk (show (-4611686018427387904:Int)≤200 by omega) (show (200:Int)<4611686018427387904 by omega),ag hk.fu,aj0 ht hk (show (0:Int)<20000 by omega) (show (20000:Int)<4611686018427387904 by omega)]
 by_cases h1:am t>200
 ·rw [if_pos h1,decide_eq_false (by omega)];rfl
 ·rw [if_neg h1,decide_eq_true (by omega),Bool.not_true,ad]
  by_cases h2:au t>20000
  ·rw [if_pos h2,decide_eq_false (by omega)];rfl
  ·rw [if_neg h2,decide_eq_true (by omega)];rfl
theorem amv {t:Tm} (ht:OkT t) (hk:Fd k (am t)) (hdep:am t<1099511627776) (ret:Int→Option S):fe k t ret=ret (bw t):=by
 simp only [fe,TP,ar,ag hk.fu,ajZ ht hk,ai1 t ht _ hk (show VD (-1) 24 (am t) by unfold VD;omega),bG]
 unfold bw
 by_cases h1:am t>200
 ·rw [if_pos h1,if_pos h1];rfl
 ·rw [if_neg h1,if_neg h1]
  by_cases h2:au t>20000
  ·rw [if_pos h2,if_pos h2];rfl
  ·rw [if_neg h2,if_neg h2,decide_eq_true rfl,Bool.not_true,ad]
   cases a6 false (-1) 24 t<;>rfl
end Go.Proofs.YtfkkpkhfjpaafaaGreatDoor
namespace Go.Proofs.YtfkkpkhfjpaafaaGreatDoor
open Go PI
set_option linter.unusedVariables false
set_option linter.unusedSimpArgs false
set_option maxRecDepth 20000
variable {S:Type} {k:Nat}
theorem JO: ∀ {l:List Tm},(∀x∈l,am x≤au x)→aH l≤ay l:=by
 intro l
 induction l<;>grind [aH,ay]
theorem aai: ∀ {l:List (Br Tm)},(∀b∈l,∀x∈b.kids,am x≤au x)→aO l≤aI l:=by
 intro l
 induction l<;>grind [aO,aI,pD,kZ,JO]
theorem zG (t:Tm):am t≤au t:=by
 induction t using c7<;>grind [pF,rM,JO,aai]
section
variable {hd:Tm→(Int→Option S)→Option S} {t:Tm}
theorem af1 (hk:Fu k) (ret:Int→Option S) (rec1:Int→Int→Option S) {v:Int} {x:Br Tm} (hv:af t.sys v=some x) (hQ: ∀y∈x.kids,∀g,hd y g=g ((au y:Nat):Int)) (hl:x.kids.length<1073741824):
  ∀ (r p:List Tm) (m a:Nat),x.kids=p++r→r.length<m→a+ay r<4611686018427387904→anf hd k ret rec1 t v m (a:Int) (p.length:Int)=rec1 ((a+ay r:Nat):Int) (IntKind.wrap .i64 (v+1)):=by
 intro r
 induction r with
 |nil=>
  grind [km,ay,anf,xP,ad]
 |cons y r ih=>
  intro p m a h hm ha
  obtain ⟨m,rfl,hm'⟩:=km hm
  obtain ⟨e1,e2,e3,e4⟩:=ln h (by omega)
  have hy:=hQ y (by grind)
  have hz:a+ay (y::r)=(a+au y)+ay r:=by rw [ay];omega
  rw [hz] at ha ⊢
  have hw:IntKind.wrap .i64 ((a:Int)+((au y:Nat):Int))=((a+au y:Nat):Int):=by grind [aaf]
  simp only [anf,xP,hv,e1,ae,e2,Option.bind_some,ar,hy,e3,hw,ih (p++[y]) m (a+au y) e4 hm' ha]
theorem af0 (hk:Fu k) (ret:Int→Option S) (hQ: ∀b∈t.sys,∀y∈b.kids,∀g,hd y g=g ((au y:Nat):Int)) (hl:t.sys.length<1073741824) (hl': ∀b∈t.sys,b.kids.length<1073741824):
  ∀ (r p:List (Br Tm)) (m a:Nat),t.sys=p++r→r.length<m→a+aI r<4611686018427387904→kE hd k ret t m (a:Int) (p.length:Int)=ret ((a+aI r:Nat):Int):=by
 intro r
 induction r with
 |nil=>
  grind [km,aI,kE,sZ,ad]
 |cons x r ih=>
  intro p m a h hm ha
  obtain ⟨m,rfl,hm'⟩:=km hm
  obtain ⟨e1,e2,e3,e4⟩:=ln h (by omega)
  have hx:x∈t.sys:=by grind
  have hlx:=hl' x hx
  have hz:a+aI (x::r)=(a+ay x.kids)+aI r:=by rw [aI,kZ];omega
  rw [hz] at ha ⊢
  have:=af1 (t:=t) hk ret (kE hd k ret t m) e2 (hQ x hx) hlx x.kids [] k a rfl (by omega) (by omega)
  simp only [kE,sZ,e1,ae]
  refine Eq.trans this ?_
  rw [e3,ih (p++[x]) m (a+ay x.kids) e4 hm' ha]
theorem afZ (hk:Fu k) (ret:Int→Option S) (hQ: ∀y∈t.kids,∀g,hd y g=g ((au y:Nat):Int)) (hQ': ∀b∈t.sys,∀y∈b.kids,∀g,hd y g=g ((au y:Nat):Int)) (ht:OkT t):
  ∀ (r p:List Tm) (m a:Nat),t.kids=p++r→r.length<m→a+ay r+aI t.sys<4611686018427387904→ant hd k ret t m (a:Int) (p.length:Int)=ret ((a+ay r+aI t.sys:Nat):Int):=by
 obtain ⟨o1,o2,o3,o4,o5,o6,o7⟩:=ht.no
 intro r
 induction r with
 |nil=>
  intro p m a h hm ha
  obtain ⟨m,rfl,hm'⟩:=km hm
  have hz:a+ay []=a:=by rfl
  rw [hz] at ha ⊢
  have:=af0 hk ret hQ' o7 (fun b hb=>(ht.bi hb).1.2.2) t.sys [] k a rfl (by omega) ha
  grind [ant,sY,ad]
 |cons y r ih=>
  intro p m a h hm ha
  obtain ⟨m,rfl,hm'⟩:=km hm
  obtain ⟨e1,e2,e3,e4⟩:=ln h (by omega)
  have hy:=hQ y (by grind)
  have hz:a+ay (y::r)=(a+au y)+ay r:=by rw [ay];omega
  rw [hz] at ha ⊢
  have hw:IntKind.wrap .i64 ((a:Int)+((au y:Nat):Int))=((a+au y:Nat):Int):=by grind [aaf]
  simp only [ant,sY,e1,ae,e2,Option.bind_some,ar,hy,e3,hw,ih (p++[y]) m (a+au y) e4 hm' ha]
end
theorem Hg (t:Tm):OkT t→ ∀ {k:Nat} (ret:Int→Option S),Fd k (am t)→au t<4611686018427387904→fQ k t ret=ret ((au t:Nat):Int):=by
 induction t using c7 with
 |h t ih1 ih2=>
  intro ht k ret hk hs
  obtain ⟨q,rfl,hq,hf⟩:=hk.pos' (alF t)
  have hz:=rM t
  have:=afZ hq ret (fun y hy g=>ih1 y hy (ht.ki hy) g (hf _ (bY hy)) (by have:=k_ hy;omega)) (fun b hb y hy g=>ih2 b hb y hy ((ht.bi hb).2 y hy) g (hf _ (b8 hb hy)) (by have:=k_ hy;have:=we hb;omega)) ht t.kids [] q 1 rfl (by have:=ht.no.2.2.2.2.2.1;omega) (by omega)
  grind [fQ,Is]
section
variable {hd:Tm→(Int→Option S)→Option S} {t:Tm}
theorem NA (a b:Nat) {α:Type} (f:Int→α):ab (decide (((b:Nat):Int)>(a:Int))) (f (b:Int)) (f (a:Int))=f ((max a b:Nat):Int):=by
 grind [aY]
theorem afC (hk:Fu k) (ret:Int→Option S) (rec1:Int→Int→Option S) {v:Int} {x:Br Tm} (hv:af t.sys v=some x) (hQ: ∀y∈x.kids,∀g,hd y g=g ((am y:Nat):Int)) (hl:x.kids.length<1073741824):
  ∀ (r p:List Tm) (m a:Nat),x.kids=p++r→r.length<m→md hd k ret rec1 t v m (a:Int) (p.length:Int)=rec1 ((max a (aH r):Nat):Int) (IntKind.wrap .i64 (v+1)):=by
 intro r
 induction r with
 |nil=>
  grind [km,aH,md,xN,ad]
 |cons y r ih=>
  intro p m a h hm
  obtain ⟨m,rfl,hm'⟩:=km hm
  obtain ⟨e1,e2,e3,e4⟩:=ln h (by omega)
  have hy:=hQ y (by grind)
  have hz:max a (aH (y::r))=max (max a (am y)) (aH r):=by rw [aH];omega
  rw [hz]
  simp only [md,xN,hv,e1,ae,e2,Option.bind_some,ar,hy,e3]
  rw [NA a (am y) (fun z=>md hd k ret rec1 t v m z (((p++[y]).length:Nat):Int)),ih (p++[y]) m (max a (am y)) e4 hm']
theorem afB (hk:Fu k) (ret:Int→Option S) (hQ: ∀b∈t.sys,∀y∈b.kids,∀g,hd y g=g ((am y:Nat):Int)) (hl:t.sys.length<1073741824) (hl': ∀b∈t.sys,b.kids.length<1073741824):
  ∀ (r p:List (Br Tm)) (m a:Nat),t.sys=p++r→r.length<m→max a (aO r)<4611686018427387904→kC hd k ret t m (a:Int) (p.length:Int)=ret ((max a (aO r)+1:Nat):Int):=by
 intro r
 induction r with
 |nil=>
  intro p m a h hm ha
  obtain ⟨m,rfl,hm'⟩:=km hm
  have hz:max a (aO [])=a:=by rw [aO];omega
  rw [hz] at ha ⊢
  have hw:IntKind.wrap .i64 ((a:Int)+1)=((a+1:Nat):Int):=by grind [aaf]
  grind [kC,sX,ad]
 |cons x r ih=>
  intro p m a h hm ha
  obtain ⟨m,rfl,hm'⟩:=km hm
  obtain ⟨e1,e2,e3,e4⟩:=ln h (by omega)
  have hx:x∈t.sys:=by grind
  have hlx:=hl' x hx
  have hz:max a (aO (x::r))=max (max a (aH x.kids)) (aO r):=by rw [aO,pD];omega
  rw [hz] at ha ⊢
  have:=afC (t:=t) hk ret (kC hd k ret t m) e2 (hQ x hx) hlx x.kids [] k a rfl (by omega)
  simp only [kC,sX,e1,ae]
  refine Eq.trans this ?_
  rw [e3,ih (p++[x]) m (max a (aH x.kids)) e4 hm' ha]
theorem afA (hk:Fu k) (ret:Int→Option S) (hQ: ∀y∈t.kids,∀g,hd y g=g ((am y:Nat):Int)) (hQ': ∀b∈t.sys,∀y∈b.kids,∀g,hd y g=g ((am y:Nat):Int)) (ht:OkT t):
  ∀ (r p:List Tm) (m a:Nat),t.kids=p++r→r.length<m→max (max a (aH r)) (aO t.sys)<4611686018427387904→ane hd k ret t m (a:Int) (p.length:Int)=ret ((max (max a (aH r)) (aO t.sys)+1:Nat):Int):=by
 obtain ⟨o1,o2,o3,o4,o5,o6,o7⟩:=ht.no
 intro r
 induction r with
 |nil=>
  intro p m a h hm ha
  obtain ⟨m,rfl,hm'⟩:=km hm
  have hz:max a (aH [])=a:=by rw [aH];omega
  rw [hz] at ha ⊢
  have:=afB hk ret hQ' o7 (fun b hb=>(ht.bi hb).1.2.2) t.sys [] k a rfl (by omega) ha
  grind [ane,sW,ad]
 |cons y r ih=>
  intro p m a h hm ha
  obtain ⟨m,rfl,hm'⟩:=km hm
  obtain ⟨e1,e2,e3,e4⟩:=ln h (by omega)
  have hy:=hQ y (by grind)
  have hz:max a (aH (y::r))=max (max a (am y)) (aH r):=by rw [aH];omega
  rw [hz] at ha ⊢
  simp only [ane,sW,e1,ae,e2,Option.bind_some,ar,hy,e3]
  rw [NA a (am y) (fun z=>ane hd k ret t m z (((p++[y]).length:Nat):Int)),ih (p++[y]) m (max a (am y)) e4 hm' ha]
end
theorem RH (t:Tm):OkT t→ ∀ {k:Nat} (ret:Int→Option S),Fd k (am t)→am t<4611686018427387904→gF k t ret=ret ((am t:Nat):Int):=by
 induction t using c7 with
 |h t ih1 ih2=>
  intro ht k ret hk hs
  obtain ⟨q,rfl,hq,hf⟩:=hk.pos' (alF t)
  have hz:=pF t
  have:=afA hq ret (fun y hy g=>ih1 y hy (ht.ki hy) g (hf _ (bY hy)) (by have:=bY hy;omega)) (fun b hb y hy g=>ih2 b hb y hy ((ht.bi hb).2 y hy) g (hf _ (b8 hb hy)) (by have:=b8 hb hy;omega)) ht t.kids [] q 0 rfl (by have:=ht.no.2.2.2.2.2.1;omega) (by omega)
  grind [gF,Iq]
section
variable {hd:Tm→Int→Int→Bool→(Bool→Option S)→Option S} {vars dims:Int} {bd:Bool} {t:Tm}
theorem afv (hk:Fu k) (ret:Bool→Option S) (rec5:Int→Option S) (hv:VD vars dims 1) {v:Int} {x:Br Tm} (hQ: ∀y∈x.kids,∀g,hd y vars (dims+av t.kind) bd g=g (a6 bd vars (dims+av t.kind) y)) (hl:x.kids.length<1073741824):
  ∀ (r p:List Tm) (m:Nat),x.kids=p++r→r.length<m→mc hd k ret rec5 x t vars v dims bd m (p.length:Int)=if ca bd vars dims t.kind r then rec5 (IntKind.wrap .i64 (v+1)) else ret false:=by
 have hmo:=dy t.kind
 unfold VD at hv
 intro r
 induction r with
 |nil=>
  intro p m h hm
  obtain ⟨m,rfl,hm'⟩:=km hm
  simp only [mc,xJ,akb h,ad];rfl
 |cons y r ih=>
  intro p m h hm
  obtain ⟨m,rfl,hm'⟩:=km hm
  obtain ⟨e1,e2,e3,e4⟩:=ln h (by omega)
  have hy:=hQ y (by grind)
  simp only [mc,xJ,e1,ae,e2,Option.bind_some,ag hk,ar,BE,aaf (n:=dims+av t.kind) (by omega) (by omega),hy,e3,ih (p++[y]) m e4 hm',Hi]
  rw [ca]
theorem afu (hk:Fu k) (ret:Bool→Option S) (hv:VD vars dims 1) (hQ: ∀b∈t.sys,∀y∈b.kids,∀g,hd y vars (dims+av t.kind) bd g=g (a6 bd vars (dims+av t.kind) y)) (ht:OkT t):
  ∀ (r p:List (Br Tm)) (m:Nat),t.sys=p++r→r.length<m→amD hd k ret t vars dims bd m (p.length:Int)=ret (r.all fun b=>bX t.kind dims b&&ca bd vars dims t.kind b.kids):=by
 obtain ⟨o1,o2,o3,o4,o5,o6,o7⟩:=ht.no
 have hv':=hv
 unfold VD at hv'
 intro r
 induction r with
 |nil=>
  grind [km,amD,sQ,ad]
 |cons x r ih=>
  intro p m h hml
  obtain ⟨m,rfl,hm'⟩:=km hml
  obtain ⟨e1,e2,e3,e4⟩:=ln h (by omega)
  have hx:x∈t.sys:=by grind
  have hb:=(ht.bi hx).1
  have:=afv (t:=t) (bd:=bd) hk ret (amD hd k ret t vars dims bd m) hv (v:=(p.length:Int)) (hQ x hx) hb.2.2 x.kids [] k rfl (by omega)
  have this:mc hd k ret (amD hd k ret t vars dims bd m) x t vars (p.length:Int) dims bd k 0=_:=this
  have hq:((x.kids.length:Int)==cz t.kind)=decide ((x.kids.length:Int)=cz t.kind):=by rfl
  simp only [amD,sQ,e1,ae,e2,Option.bind_some,ag hk,RO,anl hk hb.1 (show x.face.length<2147483648 by omega),Rt hk hb.1 hb.2.1,this,e3,ih (p++[x]) m e4 hm',adr,kY,hq]
  grind [bX,decide,dg]
theorem aft (hk:Fu k) (ret:Bool→Option S) (hv:VD vars dims 1) (hQ: ∀y∈t.kids,∀v d,0≤v∧v≤1→0≤d∧d≤1→ ∀g,hd y (cQ vars v) (dims+d) bd g=g (a6 bd (cQ vars v) (dims+d) y)) (hQ': ∀b∈t.sys,∀y∈b.kids,∀g,hd y vars (dims+av t.kind) bd g=g (a6 bd vars (dims+av t.kind) y)) (ht:OkT t):
  ∀ (r p:List Tm) (m:Nat),t.kids=p++r→r.length<m→amT hd k ret t vars dims bd m (p.length:Int)=ret (bO bd vars dims t.kind p.length r&&t.sys.all fun b=>bX t.kind dims b&&ca bd vars dims t.kind b.kids):=by
 obtain ⟨o1,o2,o3,o4,o5,o6,o7⟩:=ht.no
 have hv':=hv
 unfold VD at hv'
 intro r
 induction r with
 |nil=>
  intro p m h hm
  obtain ⟨m,rfl,hm'⟩:=km hm
  have hs:amD hd k ret t vars dims bd k 0=_:=afu hk ret hv hQ' ht t.sys [] k rfl (by omega)
  grind [amT,sP,ad,bO]
 |cons y r ih=>
  intro p m h hm
  obtain ⟨m,rfl,hm'⟩:=km hm
  obtain ⟨e1,e2,e3,e4⟩:=ln h (by omega)
  have b1:=g7 t.kind p.length
  have b2:=gr t.kind p.length
  have hy:=hQ y (by grind) (bz t.kind p.length) (bJ t.kind p.length) b1 b2
  simp only [amT,sP,e1,ae,e2,Option.bind_some,ag hk,anP hk,ar,aaf (n:=dims+bJ t.kind p.length) (by omega) (by omega),aaf (n:=vars+0) (by omega) (by omega),aaf (n:=vars+bz t.kind p.length) (by omega) (by omega),e3,ih (p++[y]) m e4 hm']
  have hvb:ab (decide (vars<0)) (hd y (vars+0) (dims+bJ t.kind p.length) bd fun r8=>ab (!r8) (ret false) (ret (bO bd vars dims t.kind (p++[y]).length r&&t.sys.all fun b=>bX t.kind dims b&&ca bd vars dims t.kind b.kids)))
    (hd y (vars+bz t.kind p.length) (dims+bJ t.kind p.length) bd fun r10=>ab (!r10) (ret false) (ret (bO bd vars dims t.kind (p++[y]).length r&&t.sys.all fun b=>bX t.kind dims b&&ca bd vars dims t.kind b.kids)))
    =hd y (cQ vars (bz t.kind p.length)) (dims+bJ t.kind p.length) bd fun r8=>ab (!r8) (ret false) (ret (bO bd vars dims t.kind (p++[y]).length r&&t.sys.all fun b=>bX t.kind dims b&&ca bd vars dims t.kind b.kids)):=by
   grind [aY,cQ]
  simp_all [kY,bO,Bool.and_assoc]
end
def nK (vars:Int) (t:Tm):Bool:=if t.kind=1 then decide (0≤t.n)&&decide (vars<0∨t.n<vars) else decide (t.n=0)
def anA (t:Tm):Bool:=if t.kind=2 then oe t.name.data.toList else decide (t.name.size=0)
def rK (t:Tm):Bool:=if t.kind=13∨t.kind=21∨t.kind=26 then bF t.r else if t.kind=14 then cV t.r else decide (t.r.length=0)
theorem Fk (d:Int) (l:List Cl) (h:l.length=0):dg l d=true:=by
 grind [dg,mem_bitsN,D7,jJ]
theorem Zw {α:Type} (l:List α) (f g:α→Bool):(l.all fun x=>f x&&g x)=(l.all f&&l.all g):=by
 grind
theorem Zu {bd:Bool} {vars dims kd:Int}: ∀ {l:List (Br Tm)},(l.all fun b=>ca bd vars dims kd b.kids)=ck bd vars dims kd l:=by
 intro l
 induction l with
 |nil=>rfl
 |cons b l ih=>cases b<;>grind [ck,jT]
theorem ail (vars dims:Int) (t:Tm) (AK AS:Bool):
  (decide (ct t.kind=t.kids.length)&&(decide (0<t.sys.length→cz t.kind≠0)&&(nK vars t&&(anA t&&(rK t&&(dg t.r dims&&(AK&&(t.sys.all (bX t.kind dims)&&AS))))))))=(cL vars dims t&&(AK&&AS)):=by
 rw [NY]
 have hp:decide (0<t.sys.length→cz t.kind≠0)=decide (cz t.kind=0→t.sys.length=0):=pf ⟨fun h h0=>by
  omega,fun h h0 h1=>by omega⟩
 rw [hp]
 cases decide (ct t.kind=t.kids.length) with
 |false=>rfl
 |true=>
  simp only [Bool.true_and]
  by_cases hs:cz t.kind=0→t.sys.length=0
  ·rw [decide_eq_true hs]
   have nosys:cz t.kind=0→t.sys.all (bX t.kind dims)=true:=fun h=>by
    grind
   unfold nK anA rK om
   by_cases c1:t.kind=1
   ·simp only [c1,if_true,show ((1:Int)=2)=False from by simp,show ((1:Int)=13)=False from by simp,show ((1:Int)=14)=False from by simp,show ((1:Int)=21)=False from by simp,show ((1:Int)=26)=False from by simp,or_self,if_false,true_or,decide_true,Bool.true_and,false_or]
    rw [c1] at nosys
    rw [nosys (by decide)]
    grind [Fk]
   ·by_cases c2:t.kind=2
    ·simp only [c2,if_true,show ((2:Int)=1)=False from by simp,show ((2:Int)=13)=False from by simp,show ((2:Int)=14)=False from by simp,show ((2:Int)=21)=False from by simp,show ((2:Int)=26)=False from by simp,or_self,if_false,true_or,decide_true,Bool.true_and,false_or]
     rw [c2] at nosys
     rw [nosys (by decide)]
     grind [Fk]
    ·simp only [c1,c2,if_false,false_or,Bool.true_and]
     by_cases c3:t.kind=13∨t.kind=21∨t.kind=26
     ·rw [if_pos c3,if_pos c3,nosys (by rcases c3 with h|h|h<;>rw [h]<;>decide)]
      grind
     ·rw [if_neg c3,if_neg c3]
      by_cases c4:t.kind=14
      ·rw [if_pos c4,if_pos c4,nosys (by rw [c4];decide)]
       grind
      grind [Fk]
  grind
theorem ajJ (t:Tm):OkT t→ ∀ {k:Nat} {vars dims:Int} {bd:Bool} (ret:Bool→Option S),Fd k (am t)→VD vars dims (am t)→alR k t vars dims bd ret=ret (a6 bd vars dims t):=by
 induction t using c7 with
 |h t ih1 ih2=>
  intro ht k vars dims bd ret hk hv
  obtain ⟨q,rfl,hq,hf⟩:=hk.pos' (alF t)
  have hp:=alF t
  have hv':=hv
  unfold VD at hv'
  have hv1:VD vars dims 1:=by unfold VD;omega
  have hm:=dy t.kind
  obtain ⟨o1,o2,o3,o4,o5,o6,o7⟩:=ht.no
  have hQ: ∀y∈t.kids,∀v d,0≤v∧v≤1→0≤d∧d≤1→ ∀g:Bool→Option S,alR q y (cQ vars v) (dims+d) bd g=g (a6 bd (cQ vars v) (dims+d) y):=fun y hy v d h1 h2 g=>ih1 y hy (ht.ki hy) g (hf _ (bY hy)) (by
   have:=bY hy;have:=Uf (vars:=vars) h1;unfold VD;omega)
  have hQ': ∀b∈t.sys,∀y∈b.kids,∀g:Bool→Option S,alR q y vars (dims+av t.kind) bd g=g (a6 bd vars (dims+av t.kind) y):=fun b hb y hy g=>ih2 b hb y hy ((ht.bi hb).2 y hy) g (hf _ (b8 hb hy)) (by
   have:=b8 hb hy;unfold VD;omega)
  have h4:amT (alR q) q ret t vars dims bd q 0=_:=aft (bd:=bd) hq ret hv1 hQ hQ' ht t.kids [] q rfl (by omega)
  rw [Zw,Zu] at h4
  have h4:amT (alR q) q ret t vars dims bd q 0=ret (bO bd vars dims t.kind 0 t.kids&&(t.sys.all (bX t.kind dims)&&ck bd vars dims t.kind t.sys)):=h4
  generalize hAK:bO bd vars dims t.kind 0 t.kids=AK at h4
  generalize hAS:ck bd vars dims t.kind t.sys=AS at h4
  generalize hw:(AK&&(t.sys.all (bX t.kind dims)&&AS))=W at h4
  obtain ⟨q',hq'⟩: ∃q',q=q'+1:=⟨q-1,by omega⟩
  have j3:anr (alR q) q ret t vars dims bd q=ret (dg t.r dims&&W):=by
   simp_all [anr,xH,kY,ag,Rt]
  have j2:anq (alR q) q ret t vars dims bd q=ret (rK t&&(dg t.r dims&&W)):=by
   have: ∀j,j=q'+1→anq (alR q) q ret t vars dims bd j=sO (alR q) q ret t vars dims bd (anr (alR q) q ret t vars dims bd q):=by rintro j rfl;rfl
   rw [this q hq',j3]
   simp only [sO,ag hq,amy hq o4 (show t.r.length<2147483648 by omega),anl hq o4 (show t.r.length<2147483648 by omega),kY]
   have hr0:ab (decide (((t.r.length:Nat):Int)>0)) (ret false) (ret (dg t.r dims&&W))=ret (decide (t.r.length=0)&&(dg t.r dims&&W)):=by
    grind [aY,decide_eq_false]
   grind [cH,rK]
  have j1:uL (alR q) q ret t vars dims bd q=ret (anA t&&(rK t&&(dg t.r dims&&W))):=by
   have: ∀j,j=q'+1→uL (alR q) q ret t vars dims bd j=sN (alR q) q ret t vars dims bd (anq (alR q) q ret t vars dims bd q):=by rintro j rfl;rfl
   rw [this q hq',j2]
   simp only [sN,ag hq,ajV hq (show t.name.size<2147483648 by omega),FO,kY]
   unfold anA
   by_cases c:t.kind=2
   ·simp_all [ae,ad,kY]
   grind [ad,ae]
  have j0:Al (alR q) q ret t vars dims bd q=ret (nK vars t&&(anA t&&(rK t&&(dg t.r dims&&W)))):=by
   grind [Al,xG,nK,aY,decide_eq_false]
  simp only [alR,Il,ar,ag hq,RL,RO,j0]
  have hkk:(ct t.kind==(t.kids.length:Int))=decide (ct t.kind=t.kids.length):=by rfl
  generalize hZ:(nK vars t&&(anA t&&(rK t&&(dg t.r dims&&W))))=Z
  have hsy:ab (decide (((t.sys.length:Nat):Int)>0)) (ab (cz t.kind==0) (ret false) (ret Z)) (ret Z)=ret (decide (0<t.sys.length→cz t.kind≠0)&&Z):=by
   grind [cH]
  rw [hsy,kY,hkk]
  have hfin:=ail vars dims t AK AS
  rw [hw,hZ] at hfin
  rw [hfin,wI,hAK,hAS]
  cases bd<;>grind [aY,ad]
theorem ajT {t:Tm} (ht:OkT t) (hk:Fd k (am t)) (hs:au t<1099511627776) (ret:Int→Option S):zp k t ret=ret (if am t>200 then 62 else if au t>20000 then 221 else 0):=by
 grind [zG,zp,Tv,ar,aY,RH,Hg]
theorem anQ {t:Tm} (ht:OkT t) (hk:Fd k (am t)) (hs:au t<1099511627776) (ret:Int→Option S):am1 k t ret=ret (bw t):=by
 have:=zG t
 simp only [am1,Tq,ar,ag hk.fu,ajT ht hk hs,ajJ t ht _ hk (show VD (-1) 24 (am t) by unfold VD;omega),bG]
 unfold bw
 by_cases h1:am t>200
 ·rw [if_pos h1,if_pos h1];rfl
 ·rw [if_neg h1,if_neg h1]
  by_cases h2:au t>20000
  ·rw [if_pos h2,if_pos h2];rfl
  ·rw [if_neg h2,if_neg h2,decide_eq_true rfl,ae]
   cases a6 false (-1) 24 t<;>rfl
theorem af2 (hk:Fu k) (ret:Bool→Option S) {l:List Cl} (hlen:l.length<2147483648):
  ∀ (r p:List Cl) (m:Nat),l=p++r→r.length<m→ky k ret l l m (p.length:Int)=ret true:=by
 intro r
 induction r with
 |nil=>
  grind [km,ky,oT,ad]
 |cons x r ih=>
  intro p m h hm
  obtain ⟨m,rfl,hm'⟩:=km hm
  obtain ⟨e1,e2,e3,e4⟩:=ln h (by omega)
  grind [ky,oT,ae,ad]
theorem RT (hk:Fu k) {l:List Cl} (hlen:l.length<2147483648) (ret:Bool→Option S):jY k l l ret=ret true:=by
 simp only [jY,BV,beq_self_eq_true,Bool.not_true,ad]
 exact af2 hk ret hlen l [] k rfl (by omega)
section
variable {hd:Tm→Tm→(Bool→Option S)→Option S}
theorem ae6 (hk:Fu k) (ret:Bool→Option S) {l:List Tm} (hlen:l.length<2147483648) (hQ: ∀y∈l,∀g,hd y y g=g true):
  ∀ (r p:List Tm) (m:Nat),l=p++r→r.length<m→qH hd k ret l l m (p.length:Int)=ret true:=by
 intro r
 induction r with
 |nil=>
  grind [km,qH,xQ,ad]
 |cons x r ih=>
  intro p m h hm
  obtain ⟨m,rfl,hm'⟩:=km hm
  obtain ⟨e1,e2,e3,e4⟩:=ln h (by omega)
  grind [qH,xQ,ae,ar,ad]
theorem Rs (hk:Fu k) (ret:Bool→Option S) {l:List Tm} (hlen:l.length<2147483648) (hQ: ∀y∈l,∀g,hd y y g=g true):tX hd k l l ret=ret true:=by
 simp only [tX,It,beq_self_eq_true,Bool.not_true,ad]
 exact ae6 hk ret hlen hQ l [] k rfl (by omega)
theorem afs (hk:Fu k) (ret:Bool→Option S) {t:Tm} (ht:OkT t) (hQ: ∀b∈t.sys,∀y∈b.kids,∀g,hd y y g=g true):
  ∀ (r p:List (Br Tm)) (m:Nat),t.sys=p++r→r.length<m→qF hd k ret t t m (p.length:Int)=ret true:=by
 obtain ⟨o1,o2,o3,o4,o5,o6,o7⟩:=ht.no
 intro r
 induction r with
 |nil=>
  grind [km,qF,xO,ad]
 |cons x r ih=>
  intro p m h hm
  obtain ⟨m,rfl,hm'⟩:=km hm
  obtain ⟨e1,e2,e3,e4⟩:=ln h (by omega)
  have hx:x∈t.sys:=by grind
  have hb:=(ht.bi hx).1
  simp only [qF,xO,e1,ae,e2,Option.bind_some,ag hk,RT hk (show x.face.length<2147483648 by omega),Rs hk _ (show x.kids.length<2147483648 by omega) (hQ x hx),e3,ih (p++[x]) m e4 hm',Bool.not_true,ad]
end
theorem RQ (t:Tm):OkT t→ ∀ {k:Nat} (ret:Bool→Option S),Fd k (am t)→d8 k t t ret=ret true:=by
 induction t using c7 with
 |h t ih1 ih2=>
  intro ht k ret hk
  obtain ⟨q,rfl,hq,hf⟩:=hk.pos' (alF t)
  obtain ⟨o1,o2,o3,o4,o5,o6,o7⟩:=ht.no
  have hQ: ∀y∈t.kids,∀g:Bool→Option S,d8 q y y g=g true:=fun y hy g=>ih1 y hy (ht.ki hy) g (hf _ (bY hy))
  have hQ': ∀b∈t.sys,∀y∈b.kids,∀g:Bool→Option S,d8 q y y g=g true:=fun b hb y hy g=>ih2 b hb y hy ((ht.bi hb).2 y hy) g (hf _ (b8 hb hy))
  have:=afs hq ret ht hQ' t.sys [] q rfl (by omega)
  grind [d8,Jq,Ir,ad,ag,RT,Rs]
section
variable {hd:Tm→Int→(Int→Option S)→Option S} {t:Tm}
theorem aep (hk:Fu k) (ret:Int→Option S) (rec1:Int→Int→Option S) {v most:Int} {x:Br Tm} (hv:af t.sys v=some x) (hQ: ∀y∈x.kids,∀n g,∃w,hd y n g=g w) (hl:x.kids.length<1073741824):
  ∀ (r p:List Tm) (m:Nat) (a:Int),x.kids=p++r→r.length<m→ ∃w,kA hd k ret rec1 t most v m a (p.length:Int)=rec1 w (IntKind.wrap .i64 (v+1)):=by
 intro r
 induction r with
 |nil=>
  intro p m a h hm
  obtain ⟨m,rfl,hm'⟩:=km hm
  exact ⟨a,by grind [kA,xL,ad]⟩
 |cons y r ih=>
  intro p m a h hm
  obtain ⟨m,rfl,hm'⟩:=km hm
  obtain ⟨e1,e2,e3,e4⟩:=ln h (by omega)
  simp only [kA,xL,hv,e1,ae,e2,Option.bind_some,ar,e3]
  cases decide (a≤most) with
  |false=>exact ⟨a,rfl⟩
  |true=>
   rw [ae]
   obtain ⟨w,hw⟩:=hQ y (by grind) (IntKind.wrap .i64 (most-a)) (fun r8=>kA hd k ret rec1 t most v m (IntKind.wrap .i64 (a+r8)) (((p++[y]).length:Nat):Int))
   rw [hw]
   exact ih (p++[y]) m _ e4 hm'
theorem aeo (hk:Fu k) (ret:Int→Option S) {most:Int} (hQ: ∀b∈t.sys,∀y∈b.kids,∀n g,∃w,hd y n g=g w) (ht:OkT t):
  ∀ (r p:List (Br Tm)) (m:Nat) (a:Int),t.sys=p++r→r.length<m→ ∃w,jl hd k ret t most m a (p.length:Int)=ret w:=by
 obtain ⟨o1,o2,o3,o4,o5,o6,o7⟩:=ht.no
 intro r
 induction r with
 |nil=>
  intro p m a h hm
  obtain ⟨m,rfl,hm'⟩:=km hm
  exact ⟨a,by grind [jl,sS,ad]⟩
 |cons x r ih=>
  intro p m a h hm
  obtain ⟨m,rfl,hm'⟩:=km hm
  obtain ⟨e1,e2,e3,e4⟩:=ln h (by omega)
  have hx:x∈t.sys:=by grind
  have hb:=(ht.bi hx).1
  simp only [jl,sS,e1,ae,e2,Option.bind_some,e3]
  cases decide (a≤most) with
  |false=>exact ⟨a,rfl⟩
  |true=>
   rw [ae]
   cases decide (((x.face.length:Nat):Int)>most) with
   |true=>exact ⟨_,rfl⟩
   |false=>
    rw [ad]
    obtain ⟨w,hw⟩:=aep (t:=t) (most:=most) hk ret (jl hd k ret t most m) e2 (hQ x hx) hb.2.2 x.kids [] k (IntKind.wrap .i64 (IntKind.wrap .i64 (a+1)+((x.face.length:Nat):Int))) rfl (by omega)
    have hw:kA hd k ret (jl hd k ret t most m) t most (p.length:Int) k (IntKind.wrap .i64 (IntKind.wrap .i64 (a+1)+((x.face.length:Nat):Int))) 0=_:=hw
    rw [hw,e3]
    exact ih (p++[x]) m w e4 hm'
theorem aen (hk:Fu k) (ret:Int→Option S) {most:Int} (hQ: ∀y∈t.kids,∀n g,∃w,hd y n g=g w) (hQ': ∀b∈t.sys,∀y∈b.kids,∀n g,∃w,hd y n g=g w) (ht:OkT t):
  ∀ (r p:List Tm) (m:Nat) (a:Int),t.kids=p++r→r.length<m→ ∃w,nQ hd k ret t most m a (p.length:Int)=ret w:=by
 obtain ⟨o1,o2,o3,o4,o5,o6,o7⟩:=ht.no
 intro r
 have hs:=fun a=>aeo (most:=most) hk ret hQ' ht t.sys [] k a rfl (by omega)
 induction r with
 |nil=>
  intro p m a h hm
  obtain ⟨m,rfl,hm'⟩:=km hm
  simp_all [nQ,sR,ad]
 |cons y r ih=>
  intro p m a h hm
  obtain ⟨m,rfl,hm'⟩:=km hm
  obtain ⟨e1,e2,e3,e4⟩:=ln h (by omega)
  simp only [nQ,sR,e1,ae,e2,Option.bind_some,ar,e3]
  cases decide (a≤most) with
  |false=>exact hs a
  |true=>
   rw [ae]
   obtain ⟨w,hw⟩:=hQ y (by grind) (IntKind.wrap .i64 (most-a)) (fun r2=>nQ hd k ret t most m (IntKind.wrap .i64 (a+r2)) (((p++[y]).length:Nat):Int))
   rw [hw]
   exact ih (p++[y]) m _ e4 hm'
end
theorem ajK (t:Tm):OkT t→ ∀ {k:Nat} (most:Int) (ret:Int→Option S),Fd k (am t)→ ∃w,gE k t most ret=ret w:=by
 induction t using c7 with
 |h t ih1 ih2=>
  intro ht k most ret hk
  obtain ⟨q,rfl,hq,hf⟩:=hk.pos' (alF t)
  obtain ⟨o1,o2,o3,o4,o5,o6,o7⟩:=ht.no
  have hQ: ∀y∈t.kids,∀n (g:Int→Option S),∃w,gE q y n g=g w:=fun y hy n g=>ih1 y hy (ht.ki hy) n g (hf _ (bY hy))
  have hQ': ∀b∈t.sys,∀y∈b.kids,∀n (g:Int→Option S),∃w,gE q y n g=g w:=fun b hb y hy n g=>ih2 b hb y hy ((ht.bi hb).2 y hy) n g (hf _ (b8 hb hy))
  simp only [gE,Io]
  cases decide (((t.r.length:Nat):Int)>most) with
  |true=>exact ⟨_,rfl⟩
  |false=>
   rw [ad]
   cases decide (((t.name.size:Nat):Int)>most) with
   |true=>exact ⟨_,rfl⟩
   |false=>
    rw [ad]
    exact aen hq ret hQ hQ' ht t.kids [] q _ rfl (by omega)
end Go.Proofs.YtfkkpkhfjpaafaaGreatDoor
namespace Go.Proofs.YtfkkpkhfjpaafaaGreatDoor
open Go PI
set_option linter.unusedVariables false
set_option linter.unusedSimpArgs false
set_option maxRecDepth 20000
variable {S:Type} {k:Nat}
def pE {α:Type}:Except Int α→Pan Int α
 | .ok a=> .ok a
 | .error e=> .pan e
def eE {α β:Type} (x:Except Int α) (f:α→β) (g:Int→β):β:=match x with
 | .ok a=>f a
 | .error e=>g e
theorem ij {α β:Type} (x:Except Int α) (f:α→β) (g:Int→β):Pan.elim (pE x) f g=eE x f g:=by cases x<;>rfl
theorem sb {α β γ:Type} (x:Except Int α) (f:α→Except Int β) (u:β→γ) (w:Int→γ):eE (bE x f) u w=eE x (fun a=>eE (f a) u w) w:=by cases x<;>rfl
theorem aP {α β:Type} (a:α) (f:α→β) (g:Int→β):eE (.ok a) f g=f a:=rfl
theorem Qx {α:Type} (x:Except Int α) (ret:Pan Int α→Option S):ret (pE x)=eE x (fun a=>ret (.ok a)) fun e=>ret (.pan e):=by cases x<;>rfl
def ao:Tm:= .mk 0 0 ByteArray.empty [] [] []
def bh (e:Int):Tm:= .mk (-e) 0 ByteArray.empty [] [] []
def rE:Except Int Tm→Tm
 | .ok t=>t
 | .error e=>bh e
def tE:Except Int Tm→Tm×Int
 | .ok t=>(t,0)
 | .error e=>(ao,e)
theorem amW (x:Except Int Tm) (ret:Tm→Option S):ret (rE x)=eE x ret fun e=>ret (bh e):=by cases x<;>rfl
theorem ad3 {α β:Type} {x:Except Int α} {f f':α→β} {g g':Int→β} (h: ∀a,x= .ok a→f a=f' a) (h': ∀e,x= .error e→g e=g' e):eE x f g=eE x f' g':=by
 cases x with
 |ok a=>exact h a rfl
 |error e=>exact h' e rfl
theorem Ru (hk:Fu k) {a b d:Int} {f:List Cl} (hf:aq f) (hl:f.length<1073741824) (hd:aG d) (hb:aG b) (ret:Pan Int (List Cl)→Option S):tN k a b f d ret=ret (pE (alN d b f)):=by
 simp only [tN,SV,ag hk,vX hk hf hl hd hb,bG,aY,sf (show 0+f.length≤1099511627776 by omega)]
 unfold alN
 by_cases h0:b=0
 ·rw [if_pos h0,if_pos (.inl h0)];rfl
 ·rw [if_neg h0]
  by_cases h1:d≥24
  ·rw [if_pos h1,if_pos (.inr h1)];rfl
  ·rw [if_neg h1,if_neg (show ¬ (b=0∨d≥24) by omega)]
   by_cases h2:(agS f d b).2=0
   ·rw [decide_eq_true h2,jF h2];rfl
   ·rw [decide_eq_false h2,iO h2];rfl
theorem RA (hk:Fu k) {b d:Int} {f:List Cl} (hf:RF f) (hd:0≤d∧d<9223372036854775808) (hb:0≤b∧b<9223372036854775808) (ret:List Cl×Int→Option S): ∃z:List Cl×Int,toE z=alN d b f∧tZ k f d b ret=ret z:=by
 have hl:=hf.len
 simp only [tZ,TB,ag hk,BB hk hf.2 (show f.length<1073741824 by omega) (show aG d by unfold aG;omega) (show aG b by unfold aG;omega),qY,aY]
 by_cases h0:f.length=0
 ·refine ⟨([],0), ?_,by grind⟩
  have:=List.length_eq_zero_iff.1 h0
  subst this
  rw [Bt];rfl
 ·refine ⟨agS f d b, ?_,by grind⟩
  unfold alN
  split
  ·next h=>rw [agm hf hd.1 hb.1 h];rfl
  ·rfl
section
variable {hd:Int→Int→Tm→Int→Int→(Pan Int Tm→Option S)→Option S} {vb db v d:Int} {t:Tm}
theorem ae5 (hk:Fu k) (ret:Pan Int Tm→Option S) (rec2:List (Br Tm)→Int→Int→Option S) {r12 r2:List Cl} {b1 v90:Int} {ks:List Tm} {o:List (Br Tm)} {x:Br Tm} {more:Int} (hm:more=av t.kind)
  (hd0:0≤d∧d<4611686018427387904) (hQ: ∀y∈x.kids,∀g,hd vb db y v (d+more) g=g (pE (acr vb db v (d+more) y))) (hl:x.kids.length<1073741824) (ho:o.length<1073741824):
  ∀ (r p:List Tm) (m:Nat) (acc:List Tm),x.kids=p++r→r.length<m→acc.length=p.length→
  l7 hd k ret rec2 r12 vb db t b1 r2 ks o x more v d v90 m acc (p.length:Int)=eE (alP vb db v d t.kind r) (fun l=>rec2 (o++[⟨r12,acc++l⟩]) more (IntKind.wrap .i64 (v90+1))) fun e=>ret (.pan e):=by
 subst hm
 have hmo:=dy t.kind
 intro r
 induction r with
 |nil=>
  grind [km,l7,xe,ad,alP,aP,sf]
 |cons y r ih=>
  intro p m acc h hm ha
  obtain ⟨m,rfl,hm'⟩:=km hm
  obtain ⟨e1,e2,e3,e4⟩:=ln h (by omega)
  have hpl:p.length<x.kids.length:=by grind
  have hy:=hQ y (by grind)
  simp only [l7,xe,e1,ae,e2,Option.bind_some,ar,aaf (n:=d+av t.kind) (by omega) (by omega),hy,ij,alP,sb,aP]
  refine ad3 (fun t' ht'=> ?_) fun e _=>rfl
  rw [sf (by grind),e3,ih (p++[y]) m (acc++[t']) e4 hm' (by grind)]
  simp
theorem ae4 (hk:Fu k) (ret:Pan Int Tm→Option S) {r2:List Cl} {b1:Int} {ks:List Tm} {more:Int} (hm:more=av t.kind) (ht:OkT t) (hdb:aG db) (hd0:0≤d∧d<4611686018427387904)
  (hQ: ∀b∈t.sys,∀y∈b.kids,∀g,hd vb db y v (d+more) g=g (pE (acr vb db v (d+more) y))):
  ∀ (r p:List (Br Tm)) (m:Nat) (o:List (Br Tm)),t.sys=p++r→r.length<m→o.length=p.length→
  it hd k ret vb db t b1 r2 ks v d m o more (p.length:Int)=eE (alT vb db v d t.kind r) (fun l=>ret (.ok (.mk t.kind b1 t.name r2 ks (o++l)))) fun e=>ret (.pan e):=by
 obtain ⟨o1,o2,o3,o4,o5,o6,o7⟩:=ht.no
 intro r
 induction r with
 |nil=>
  grind [km,it,sA,ad,alT,aP]
 |cons x r ih=>
  intro p m o h hml ho
  obtain ⟨m,rfl,hm'⟩:=km hml
  obtain ⟨e1,e2,e3,e4⟩:=ln h (by omega)
  have hx:x∈t.sys:=by grind
  have hpl:p.length<t.sys.length:=by grind
  have hb:=(ht.bi hx).1
  have hrow:=Ru (S:=S) hk (a:=vb) hb.1 hb.2.1 (show aG d by unfold aG;omega) hdb
  have:=fun r12=>ae5 hk ret (it hd k ret vb db t b1 r2 ks v d m) (r12:=r12) (r2:=r2) (b1:=b1) (v90:=(p.length:Int)) (ks:=ks) (o:=o) hm hd0 (hQ x hx) hb.2.2 (by omega) x.kids [] k [] rfl (by omega) rfl
  have this: ∀r12,l7 hd k ret (it hd k ret vb db t b1 r2 ks v d m) r12 vb db t b1 r2 ks o x more v d (p.length:Int) k [] 0=_:=this
  have hB:n8 vb db v d t.kind x=bE (alN d db x.face) fun f'=>bE (alP vb db v d t.kind x.kids) fun ks'=> .ok (.mk f' ks'):=by cases x;rfl
  simp only [it,sA,e1,ae,e2,Option.bind_some,ag hk,hrow,ij,this,alT,hB,sb,aP,List.nil_append,e3]
  refine ad3 (fun f' _=>ad3 (fun ks' _=> ?_) fun e _=>rfl) fun e _=>rfl
  rw [ih (p++[x]) m (o++[Br.mk f' ks']) e4 hm' (by grind)]
  simp
theorem ae3 (hk:Fu k) (ret:Pan Int Tm→Option S) {r2:List Cl} {b1:Int} (ht:OkT t) (hdb:aG db) (hd0:0≤d∧d<4611686018427387904) (hv0:0≤v∧v<4611686018427387904)
  (hQ: ∀y∈t.kids,∀a b,0≤a∧a≤1→0≤b∧b≤1→ ∀g,hd vb db y (v+a) (d+b) g=g (pE (acr vb db (v+a) (d+b) y))) (hQ': ∀b∈t.sys,∀y∈b.kids,∀g,hd vb db y v (d+av t.kind) g=g (pE (acr vb db v (d+av t.kind) y))):
  ∀ (r p:List Tm) (m:Nat) (acc:List Tm),t.kids=p++r→r.length<m→acc.length=p.length→
  kr hd k ret vb db t b1 r2 v d m acc (p.length:Int)=eE (dm vb db v d t.kind p.length r) (fun l=>eE (alT vb db v d t.kind t.sys) (fun s=>ret (.ok (.mk t.kind b1 t.name r2 (acc++l) s))) fun e=>ret (.pan e)) fun e=>ret (.pan e):=by
 obtain ⟨o1,o2,o3,o4,o5,o6,o7⟩:=ht.no
 intro r
 induction r with
 |nil=>
  intro p m acc h hm ha
  obtain ⟨m,rfl,hm'⟩:=km hm
  have hs:it hd k ret vb db t b1 r2 acc v d k [] (av t.kind) 0=_:=ae4 hk ret rfl ht hdb hd0 hQ' t.sys [] k [] rfl (by omega) rfl
  grind [kr,sz,dm,aP,cH,av]
 |cons y r ih=>
  intro p m acc h hm ha
  obtain ⟨m,rfl,hm'⟩:=km hm
  obtain ⟨e1,e2,e3,e4⟩:=ln h (by omega)
  have hpl:p.length<t.kids.length:=by grind
  have b1':=g7 t.kind p.length
  have b2':=gr t.kind p.length
  have hy:=hQ y (by grind) (bz t.kind p.length) (bJ t.kind p.length) b1' b2'
  simp only [kr,sz,e1,ae,e2,Option.bind_some,ag hk,jE,ar,aaf (n:=v+bz t.kind p.length) (by omega) (by omega),aaf (n:=d+bJ t.kind p.length) (by omega) (by omega),hy,ij,dm,sb,aP]
  refine ad3 (fun t' ht'=> ?_) fun e _=>rfl
  rw [sf (by grind),e3,ih (p++[y]) m (acc++[t']) e4 hm' (by grind),show (p++[y]).length=p.length+1 by simp]
  simp
end
theorem Fh (vb db v d:Int) (t:Tm):acr vb db v d t=if t.kind=1∧t.n≥v∧t.n>1000000000-vb then .error 100 else bE (alN d db t.r) fun r'=>bE (dm vb db v d t.kind 0 t.kids) fun ks'=>bE (alT vb db v d t.kind t.sys) fun sys'=> .ok (.mk t.kind (if t.kind=1∧t.n≥v then t.n+vb else t.n) t.name r' ks' sys'):=by cases t;rfl
theorem RowsT.no {t:Tm} (h:RowsT t):RF t.r∧(t.kind=1→t.r=[])∧0≤t.kind:=by cases t;rw [RowsT] at h;exact h.1
theorem RowsT.ki {t x:Tm} (h:RowsT t) (hx:x∈t.kids):RowsT x:=by cases t;rw [RowsT] at h;exact rowsK_iff.1 h.2.1 x hx
theorem RowsT.bi {t:Tm} {b:Br Tm} (h:RowsT t) (hb:b∈t.sys):RF b.face∧ ∀x∈b.kids,RowsT x:=by cases t;rw [RowsT] at h;exact rowsS_iff.1 h.2.2 b hb
def VP (v d:Int) (n:Nat):Prop:=0≤v∧v+n<4611686018427387904∧0≤d∧d+n<4611686018427387904
theorem BA {vb db:Int} (hvb:0≤vb∧vb≤1000000000) (hdb:aG db) (t:Tm):OkT t→RowsT t→ ∀ {k:Nat} {v d:Int} (ret:Pan Int Tm→Option S),Fd k (am t)→VP v d (am t)→dk k vb db t v d ret=ret (pE (acr vb db v d t)):=by
 induction t using c7 with
 |h t ih1 ih2=>
  intro ht hro k v d ret hk hv
  obtain ⟨q,rfl,hq,hf⟩:=hk.pos' (alF t)
  obtain ⟨q',hq'⟩: ∃q',q=q'+1:=⟨q-1,by omega⟩
  have hp:=alF t
  unfold VP at hv
  obtain ⟨o1,o2,o3,o4,o5,o6,o7⟩:=ht.no
  have hmo:=dy t.kind
  have hQ: ∀y∈t.kids,∀a b,0≤a∧a≤1→0≤b∧b≤1→ ∀g:Pan Int Tm→Option S,dk q vb db y (v+a) (d+b) g=g (pE (acr vb db (v+a) (d+b) y)):=fun y hy a b h1 h2 g=>
   ih1 y hy (ht.ki hy) (hro.ki hy) g (hf _ (bY hy)) (by have:=bY hy;unfold VP;omega)
  have hQ': ∀b∈t.sys,∀y∈b.kids,∀g:Pan Int Tm→Option S,dk q vb db y v (d+av t.kind) g=g (pE (acr vb db v (d+av t.kind) y)):=fun b hb y hy g=>
   ih2 b hb y hy ((ht.bi hb).2 y hy) ((hro.bi hb).2 y hy) g (hf _ (b8 hb hy)) (by have:=b8 hb hy;unfold VP;omega)
  have h1:=fun r2 b1=>ae3 (r2:=r2) (b1:=b1) hq ret ht hdb (show 0≤d∧d<4611686018427387904 by omega) (show 0≤v∧v<4611686018427387904 by omega) hQ hQ' t.kids [] q [] rfl (by omega) rfl
  have h0: ∀r2 b1,uJ (dk q) q ret vb db t r2 v d q b1=kr (dk q) q ret vb db t b1 r2 v d q [] 0:=by
   intro r2 b1
   have: ∀j,j=q'+1→uJ (dk q) q ret vb db t r2 v d j b1=kr (dk q) q ret vb db t b1 r2 v d q [] 0:=by rintro j rfl;rfl
   grind
  have h2: ∀r2 b1,uJ (dk q) q ret vb db t r2 v d q b1=_:=fun r2 b1=>(h0 r2 b1).trans (h1 r2 b1)
  have hrow:=Ru (S:=S) hq (a:=vb) o4 o5 (show aG d by unfold aG;omega) hdb
  simp only [dk,HY,ag hq,hrow,ij,h2,List.length_nil,List.nil_append]
  rw [Qx _ ret,Fh]
  unfold aG at o2
  by_cases hc:t.kind=1
  ·have hr:=hro.no.2.1 hc
   rw [hr,Bt,aP,hc,show ((1:Int)==1)=true from rfl,ae,aY]
   by_cases hn:t.n≥v
   ·rw [if_pos hn,aaf (n:=1000000000-vb) (by omega) (by omega),aY]
    by_cases hb:t.n>1000000000-vb
    ·rw [if_pos hb,if_pos (show (1:Int)=1∧t.n≥v∧t.n>1000000000-vb from ⟨rfl,hn,hb⟩)];rfl
    grind [sb,aaf,aP]
   grind [sb,aP]
  ·have hc':(t.kind==1)=false:=by grind
   rw [hc',if_neg (show ¬ (t.kind=1∧t.n≥v∧t.n>1000000000-vb) from fun h=>hc h.1)]
   simp_all [ad,sb,aP]
theorem amu {e:Int} (he:0<e∧e≤1000) (ret:Int×Int×ByteArray→Option S):alY k e ret=ret (-e,0,ByteArray.empty):=by
 grind [alY,Tw,aaf]
theorem amC {e:Int} (he:0<e):decide ((bh e).kind<0)=true:=decide_eq_true (show-e<0 by omega)
section
variable {hd:Tm→Int→Int→Int→Int→(Tm→Option S)→Option S} {vb db v d:Int} {t:Tm}
theorem rm {x:Except Int Tm} (hx: ∀e,x= .error e→0<e) (hx': ∀y,x= .ok y→0≤y.kind) (f:Tm→Option S) (ret:Tm→Option S):
  (fun r:Tm=>ab (decide (r.kind<0)) (ret r) (f r)) (rE x)=eE x f fun e=>ret (bh e):=by
 cases x with
 |error e=>show ab _ _ _=_;rw [show rE (.error e)=bh e from rfl,amC (hx e rfl),ae];rfl
 |ok y=>show ab _ _ _=_;rw [show rE (.ok y)=y from rfl,decide_eq_false (by grind),ad];rfl
theorem am8 {vb db v d:Int} {x y:Tm} (h:acr vb db v d x= .ok y):y.kind=x.kind:=by
 rw [Fh] at h
 split at h
 ·cases h
 ·obtain ⟨_,_,h⟩:=sm h
  obtain ⟨_,_,h⟩:=sm h
  obtain ⟨_,_,h⟩:=sm h
  injection h with h;subst h;rfl
theorem afN (hk:Fu k) (ret:Tm→Option S) (rec2:List (Br Tm)→Int→Option S) {r9 r2:List Cl×Int} {b1 i18:Int} {ks:List Tm} {o:List (Br Tm)} {x:Br Tm} (hi:af t.sys i18=some x)
  (hd0:0≤d∧d<4611686018427387904) (hQ: ∀y∈x.kids,∀g,hd y v vb (d+av t.kind) db g=g (rE (acr vb db v (d+av t.kind) y))) (hkd: ∀y∈x.kids,0≤y.kind) (hl:x.kids.length<1073741824) (ho:o.length<1073741824):
  ∀ (r p:List Tm) (m:Nat) (acc:List Tm),x.kids=p++r→r.length<m→acc.length=p.length→
  amK hd k ret rec2 t b1 r2 ks o r9 v i18 vb d db m acc (p.length:Int)=eE (alP vb db v d t.kind r) (fun l=>rec2 (o++[⟨r9.1,acc++l⟩]) (IntKind.wrap .i64 (i18+1))) fun e=>ret (bh e):=by
 have hmo:=dy t.kind
 intro r
 induction r with
 |nil=>
  grind [km,amK,xR,ad,alP,aP,sf]
 |cons y r ih=>
  intro p m acc h hm ha
  obtain ⟨m,rfl,hm'⟩:=km hm
  obtain ⟨e1,e2,e3,e4⟩:=ln h (by omega)
  have hpl:p.length<x.kids.length:=by grind
  have hym:y∈x.kids:=by grind
  have hy:=hQ y hym
  simp only [amK,xR,hi,e1,ae,e2,Option.bind_some,ag hk,BE,ar,aaf (n:=d+av t.kind) (by omega) (by omega),hy]
  refine Eq.trans (rm (fun e he=>(amo y he).1) (fun z hz=>by grind [am8]) (fun z=>Option.bind (aw 1099511627776 acc.length [z].length) fun _=>amK hd k ret rec2 t b1 r2 ks o r9 v i18 vb d db m (acc++[z]) (IntKind.wrap .i64 ((p.length:Int)+1))) ret) ?_
  simp only [alP,sb,aP]
  refine ad3 (fun t' ht'=> ?_) fun e _=>rfl
  rw [sf (by grind),e3,ih (p++[y]) m (acc++[t']) e4 hm' (by grind)]
  simp
theorem wx {z:List Cl×Int} {α:Type} (f:List Cl→α) (g:Int→α):ab (!(z.2==0)) (g z.2) (f z.1)=eE (toE z) f g:=by
 rw [bG]
 unfold toE
 by_cases h:z.2=0
 ·rw [decide_eq_true h,if_pos h];rfl
 ·rw [decide_eq_false h,if_neg h];rfl
theorem afM (hk:Fu k) (ret:Tm→Option S) {r2:List Cl×Int} {b1:Int} {ks:List Tm} (ht:OkT t) (hro:RowsT t) (hdb:0≤db∧db<9223372036854775808) (hd0:0≤d∧d<4611686018427387904)
  (hQ: ∀b∈t.sys,∀y∈b.kids,∀g,hd y v vb (d+av t.kind) db g=g (rE (acr vb db v (d+av t.kind) y))):
  ∀ (r p:List (Br Tm)) (m:Nat) (o:List (Br Tm)),t.sys=p++r→r.length<m→o.length=p.length→
  amh hd k ret t b1 r2 ks v vb d db m o (p.length:Int)=eE (alT vb db v d t.kind r) (fun l=>ret (.mk t.kind b1 t.name r2.1 ks (o++l))) fun e=>ret (bh e):=by
 obtain ⟨o1,o2,o3,o4,o5,o6,o7⟩:=ht.no
 intro r
 induction r with
 |nil=>
  grind [km,amh,ta,ad,alT,aP]
 |cons x r ih=>
  intro p m o h hml ho
  obtain ⟨m,rfl,hm'⟩:=km hml
  obtain ⟨e1,e2,e3,e4⟩:=ln h (by omega)
  have hx:x∈t.sys:=by grind
  have hpl:p.length<t.sys.length:=by grind
  have hb:=(ht.bi hx).1
  obtain ⟨z,hz,hrow⟩:=RA (S:=S) hk (hro.bi hx).1 (show 0≤d∧d<9223372036854775808 by omega) hdb (fun r9=>ab (!(r9.2==0)) (alY k r9.2 fun r10=>ret (Tm.mk r10.1 r10.2.1 r10.2.2 [] [] []))
   (amK hd k ret (amh hd k ret t b1 r2 ks v vb d db m) t b1 r2 ks o r9 v (p.length:Int) vb d db k [] 0))
  have:=afN (r9:=z) (r2:=r2) (b1:=b1) (ks:=ks) (o:=o) hk ret (amh hd k ret t b1 r2 ks v vb d db m) e2 hd0 (hQ x hx) (fun y hy=>((hro.bi hx).2 y hy).no.2.2) hb.2.2 (by omega) x.kids [] k [] rfl (by omega) rfl
  have this:amK hd k ret (amh hd k ret t b1 r2 ks v vb d db m) t b1 r2 ks o z v (p.length:Int) vb d db k [] 0=_:=this
  have hB:n8 vb db v d t.kind x=bE (alN d db x.face) fun f'=>bE (alP vb db v d t.kind x.kids) fun ks'=> .ok (.mk f' ks'):=by cases x;rfl
  simp only [amh,ta,e1,ae,e2,Option.bind_some,ag hk,hrow,this,alT,hB,sb,aP,List.nil_append,e3]
  have hbad:ab (!(z.2==0)) (alY k z.2 fun r10=>ret (Tm.mk r10.1 r10.2.1 r10.2.2 [] [] [])) (eE (alP vb db v d t.kind x.kids) (fun l=>amh hd k ret t b1 r2 ks v vb d db m (o++[Br.mk z.1 l]) (((p++[x]).length:Nat):Int)) fun e=>ret (bh e))
    =ab (!(z.2==0)) (ret (bh z.2)) (eE (alP vb db v d t.kind x.kids) (fun l=>amh hd k ret t b1 r2 ks v vb d db m (o++[Br.mk z.1 l]) (((p++[x]).length:Nat):Int)) fun e=>ret (bh e)):=by
   by_cases h0:z.2=0
   ·rw [h0];rfl
   ·have hze:toE z= .error z.2:=iO h0
    rw [hz] at hze
    rw [amu (Bq hze)];rfl
  rw [hbad,wx (z:=z) (fun f'=>eE (alP vb db v d t.kind x.kids) (fun l=>amh hd k ret t b1 r2 ks v vb d db m (o++[Br.mk f' l]) (((p++[x]).length:Nat):Int)) fun e=>ret (bh e)) (fun e=>ret (bh e)),hz]
  refine ad3 (fun f' _=>ad3 (fun ks' _=> ?_) fun e _=>rfl) fun e _=>rfl
  grind
theorem afL (hk:Fu k) (ret:Tm→Option S) {r2:List Cl×Int} {b1:Int} (ht:OkT t) (hro:RowsT t) (hdb:0≤db∧db<9223372036854775808) (hd0:0≤d∧d<4611686018427387904) (hv0:0≤v∧v<4611686018427387904)
  (hQ: ∀y∈t.kids,∀a b,0≤a∧a≤1→0≤b∧b≤1→ ∀g,hd y (v+a) vb (d+b) db g=g (rE (acr vb db (v+a) (d+b) y))) (hQ': ∀b∈t.sys,∀y∈b.kids,∀g,hd y v vb (d+av t.kind) db g=g (rE (acr vb db v (d+av t.kind) y))):
  ∀ (r p:List Tm) (m:Nat) (acc:List Tm),t.kids=p++r→r.length<m→acc.length=p.length→
  amE hd k ret t b1 r2 v vb d db m acc (p.length:Int)=eE (dm vb db v d t.kind p.length r) (fun l=>eE (alT vb db v d t.kind t.sys) (fun s=>ret (.mk t.kind b1 t.name r2.1 (acc++l) s)) fun e=>ret (bh e)) fun e=>ret (bh e):=by
 obtain ⟨o1,o2,o3,o4,o5,o6,o7⟩:=ht.no
 intro r
 induction r with
 |nil=>
  intro p m acc h hm ha
  obtain ⟨m,rfl,hm'⟩:=km hm
  have hs:amh hd k ret t b1 r2 acc v vb d db k [] 0=_:=afM hk ret ht hro hdb hd0 hQ' t.sys [] k [] rfl (by omega) rfl
  grind [amE,s_,ad,dm,aP]
 |cons y r ih=>
  intro p m acc h hm ha
  obtain ⟨m,rfl,hm'⟩:=km hm
  obtain ⟨e1,e2,e3,e4⟩:=ln h (by omega)
  have hpl:p.length<t.kids.length:=by grind
  have b1':=g7 t.kind p.length
  have b2':=gr t.kind p.length
  have hym:y∈t.kids:=by grind
  have hy:=hQ y hym (bz t.kind p.length) (bJ t.kind p.length) b1' b2'
  simp only [amE,s_,e1,ae,e2,Option.bind_some,ag hk,anP hk,ar,aaf (n:=v+bz t.kind p.length) (by omega) (by omega),aaf (n:=d+bJ t.kind p.length) (by omega) (by omega),hy]
  refine Eq.trans (rm (fun e he=>(amo y he).1) (fun z hz=>by rw [am8 hz];exact (hro.ki hym).no.2.2) (fun z=>Option.bind (aw 1099511627776 acc.length [z].length) fun _=>amE hd k ret t b1 r2 v vb d db m (acc++[z]) (IntKind.wrap .i64 ((p.length:Int)+1))) ret) ?_
  simp only [dm,sb,aP]
  refine ad3 (fun t' ht'=> ?_) fun e _=>rfl
  rw [sf (by grind),e3,ih (p++[y]) m (acc++[t']) e4 hm' (by grind),show (p++[y]).length=p.length+1 by simp]
  simp
end
theorem anR {vb db:Int} (hvb:0≤vb∧vb≤1000000000) (hdb:0≤db∧db<9223372036854775808) (t:Tm):OkT t→RowsT t→ ∀ {k:Nat} {v d:Int} (ret:Tm→Option S),Fd k (am t)→VP v d (am t)→alI k t v vb d db ret=ret (rE (acr vb db v d t)):=by
 induction t using c7 with
 |h t ih1 ih2=>
  intro ht hro k v d ret hk hv
  obtain ⟨q,rfl,hq,hf⟩:=hk.pos' (alF t)
  obtain ⟨q',hq'⟩: ∃q',q=q'+1:=⟨q-1,by omega⟩
  have hp:=alF t
  unfold VP at hv
  obtain ⟨o1,o2,o3,o4,o5,o6,o7⟩:=ht.no
  have hmo:=dy t.kind
  have hQ: ∀y∈t.kids,∀a b,0≤a∧a≤1→0≤b∧b≤1→ ∀g:Tm→Option S,alI q y (v+a) vb (d+b) db g=g (rE (acr vb db (v+a) (d+b) y)):=fun y hy a b h1 h2 g=>
   ih1 y hy (ht.ki hy) (hro.ki hy) g (hf _ (bY hy)) (by have:=bY hy;unfold VP;omega)
  have hQ': ∀b∈t.sys,∀y∈b.kids,∀g:Tm→Option S,alI q y v vb (d+av t.kind) db g=g (rE (acr vb db v (d+av t.kind) y)):=fun b hb y hy g=>
   ih2 b hb y hy ((ht.bi hb).2 y hy) ((hro.bi hb).2 y hy) g (hf _ (b8 hb hy)) (by have:=b8 hb hy;unfold VP;omega)
  have h1:=fun r2 b1=>afL (r2:=r2) (b1:=b1) hq ret ht hro hdb (show 0≤d∧d<4611686018427387904 by omega) (show 0≤v∧v<4611686018427387904 by omega) hQ hQ' t.kids [] q [] rfl (by omega) rfl
  have h1: ∀r2 b1,amE (alI q) q ret t b1 r2 v vb d db q [] 0=_:=h1
  have h0: ∀b1,Ao (alI q) q ret t v vb d db q b1=eE (alN d db t.r) (fun r'=>eE (dm vb db v d t.kind 0 t.kids) (fun l=>eE (alT vb db v d t.kind t.sys) (fun s=>ret (.mk t.kind b1 t.name r' l s)) fun e=>ret (bh e)) fun e=>ret (bh e)) fun e=>ret (bh e):=by
   intro b1
   have: ∀j,j=q'+1→Ao (alI q) q ret t v vb d db j b1=s9 (alI q) q ret t v vb d db (fun b11_1 r2 b11_4 i14=>amE (alI q) q ret t b11_1 r2 v vb d db q b11_4 i14) b1:=by rintro j rfl;rfl
   rw [this q hq']
   obtain ⟨z,hz,hrow⟩:=RA (S:=S) hq hro.no.1 (show 0≤d∧d<9223372036854775808 by omega) hdb (fun r2=>ab (!(r2.2==0)) (alY q r2.2 fun r3=>ret (Tm.mk r3.1 r3.2.1 r3.2.2 [] [] [])) (amE (alI q) q ret t b1 r2 v vb d db q [] 0))
   simp only [s9,ag hq,hrow]
   rw [h1]
   simp only [List.nil_append]
   rw [←hz]
   by_cases hz0:z.2=0
   ·rw [jF hz0,hz0];rfl
   ·have hze:toE z= .error z.2:=iO hz0
    have hze':=hze
    rw [hz] at hze'
    rw [hze,bG,decide_eq_false hz0,Bool.not_false,ae,amu (Bq hze')];rfl
  simp only [alI,Iy,ag hq,h0]
  rw [amW _ ret,Fh]
  unfold aG at o2
  by_cases hc:t.kind=1
  ·rw [hc,show ((1:Int)==1)=true from rfl,ae,aY]
   by_cases hn:t.n≥v
   ·rw [if_pos hn,aaf (n:=1000000000-vb) (by omega) (by omega),aY]
    by_cases hb:t.n>1000000000-vb
    ·rw [if_pos hb,if_pos (show (1:Int)=1∧t.n≥v∧t.n>1000000000-vb from ⟨rfl,hn,hb⟩),amu (by omega)];rfl
    grind [aaf,sb,aP]
   grind [sb,aP]
  ·have hc':(t.kind==1)=false:=by grind
   rw [hc',if_neg (show ¬ (t.kind=1∧t.n≥v∧t.n>1000000000-vb) from fun h=>hc h.1)]
   simp_all [ad,sb,aP]
end Go.Proofs.YtfkkpkhfjpaafaaGreatDoor
namespace Go.Proofs.YtfkkpkhfjpaafaaGreatDoor
open Go PI
set_option linter.unusedVariables false
set_option linter.unusedSimpArgs false
set_option maxRecDepth 20000
variable {S:Type} {k:Nat}
theorem eU {t:Tm} (h:bw t=0):am t≤200∧au t≤20000∧a6 false (-1) 24 t=true:=by
 grind [bw]
theorem pS {t:Tm} (h1:am t≤200) (h2:au t≤20000) (h3:a6 false (-1) 24 t=true):bw t=0:=by
 grind [bw]
theorem Et (t:Tm):0≤bw t∧bw t≤1000:=by
 grind [bw]
def Fm (t:Tm):Prop:=OkT t∧bw t=0
theorem Fm.ok {t:Tm} (h:Fm t):OkT t:=h.1
theorem Fm.rows {t:Tm} (h:Fm t):RowsT t:=ZA t h.1 (eU h.2).2.2
theorem Fm.dep {t:Tm} (h:Fm t):am t≤200:=(eU h.2).1
theorem Fm.siz {t:Tm} (h:Fm t):au t≤20000:=(eU h.2).2.1
theorem jr {vb db v d:Int} (hvb:0≤vb∧vb≤1000000000) {t t':Tm} (h:Fm t) (hl:acr vb db v d t= .ok t'):Fm t':=by
 obtain ⟨h1,h2,h3,h4⟩:=uP hvb.1 hvb.2 t v d t' hl
 obtain ⟨a,b,c⟩:=eU h.2
 have:=h4 h.1
 exact ⟨this.1,pS (by omega) (by omega) (this.2.2 24 24 (by omega) (by omega) c)⟩
abbrev F3 (k:Nat):Prop:=4294968296≤k
theorem F3.fu (h:F3 k):Fu k:=by omega
theorem F3.fd (h:F3 k) {n:Nat} (hn:n≤1000):Fd k n:=by omega
theorem Fm.fd {t:Tm} (h:Fm t) (hk:F3 k):Fd k (am t):=hk.fd (by have:=h.dep;omega)
theorem Fm.vp {t:Tm} (h:Fm t) {v d:Int} (hv:0≤v∧v≤4611686018427380000) (hd:0≤d∧d≤4611686018427380000):VP v d (am t):=by have:=h.dep;unfold VP;omega
theorem amt (x:Except Int Tm) (ret:Tm×Int→Option S):ret (tE x)=eE x (fun t=>ret (t,0)) fun e=>ret (ao,e):=by cases x<;>rfl
theorem aeU (hk:Fu k) (ret:Tm×Int→Option S) {c0 c2:Int} {c1:Tm} {ns:List Int} (hl:ns.length<1000) (hn: ∀x∈ns,0≤x):
  ∀ (r p:List Int) (m:Nat),ns=p++r→r.length<m→nC k ret c0 c1 c2 ns m (p.length:Int)=yX k c0 c1 c2 fun r4=>Pan.elim r4 (fun r4=>ret (r4,0)) fun e5=>ret (ao,e5):=by
 intro r
 induction r with
 |nil=>
  intro p m h hm
  obtain ⟨m,rfl,hm'⟩:=km hm
  simp only [nC,xa,akb h,ad,ag hk,ar];rfl
 |cons x r ih=>
  intro p m h hm
  obtain ⟨m,rfl,hm'⟩:=km hm
  obtain ⟨e1,e2,e3,e4⟩:=ln h (by omega)
  have hx:=hn x (by grind)
  grind [nC,xa,aY]
theorem Rr (hk:F3 k) {t:Tm} (ht:Fm t) {f b:Int} (hf:0≤f∧f≤24) (hb:0≤b∧b<9223372036854775808) (ret:Tm×Int→Option S):lv k t f b ret=ret (tE (acr 0 b 0 f t)):=by
 have hl:=aeU hk.fu ret (c0:=b) (c2:=f) (c1:=t) (ns:=[f,b]) (by simp) (by grind) [f,b] [] k rfl (by grind)
 have hl:nC k ret b t f [f,b] k 0=_:=hl
 simp only [lv,HW,ag hk.fu,ar,yZ,BQ,amv ht.ok (ht.fd hk) (show am t<1099511627776 by have:=ht.dep;omega),ht.2,hl,yX,ST]
 rw [show ((0:Int)==0)=true from rfl,Bool.not_true,ad,if_neg (by omega),BA (by omega) (by unfold aG;omega) t ht.ok ht.rows _ (ht.fd hk) (ht.vp (by omega) (by omega)),ij,amt _ ret]
 rfl
theorem ajy (hk:F3 k) {t:Tm} (ht:Fm t) {f b:Int} (hf:0≤f∧f≤24) (hb:0≤b∧b<9223372036854775808) (ret:Tm×Int→Option S):zr k t f b ret=ret (tE (acr 0 b 0 f t)):=by
 simp only [zr,Tx,ag hk.fu,ar,t6,Iz,anQ ht.ok (ht.fd hk) (show au t<1099511627776 by have:=ht.siz;omega),ht.2,aY]
 rw [show ((0:Int)==0)=true from rfl,ae,if_neg (by omega),if_neg (by omega)]
 rw [Bool.not_true,ad,if_neg (by omega),anR (by omega) (by omega) t ht.ok ht.rows _ (ht.fd hk) (ht.vp (by omega) (by omega))]
 simp only [amP,Ix]
 cases hx:acr 0 b 0 f t with
 |ok y=>
  rw [show rE (.ok y)=y from rfl,decide_eq_false (by have:=am8 hx;have:=ht.rows.no.2.2;omega),ad]
  simp only [ar];rfl
 |error e=>
  have he:=amo t hx
  rw [show rE (.error e)=bh e from rfl,amC he.1,ae,aaf (show-9223372036854775808≤0-(bh e).kind by show _≤0-(-e);omega) (by show 0-(-e)<_;omega)]
  show ret (ao,0-(-e))=ret (ao,e)
  simp
def su (vb db:Int) (t:Tm):Except Int Tm:=bE (acr vb 0 0 0 t) (acr 0 db 0 0)
theorem mD {vb db:Int} (hvb:0≤vb∧vb≤1000000000) {t t':Tm} (h:Fm t) (hl:su vb db t= .ok t'):Fm t':=by
 obtain ⟨a,h1,h2⟩:=sm hl
 exact jr (by omega) (jr hvb h h1) h2
theorem al3 {vb db:Int} {t:Tm} {e:Int} (h:su vb db t= .error e):0<e∧e≤1000:=by
 rcases be h with h|⟨a,_,h⟩
 ·exact amo t h
 ·exact amo a h
theorem aeV (hk:Fu k) (ret:Tm×Int→Option S) {c0 c1:Int} {c2:Tm} {ns:List Int} (hl:ns.length<1000) (hn: ∀x∈ns,0≤x):
  ∀ (r p:List Int) (m:Nat),ns=p++r→r.length<m→nE k ret c0 c1 c2 ns m (p.length:Int)=yW k c0 c1 c2 fun r4=>Pan.elim r4 (fun r4=>ret (r4,0)) fun e5=>ret (ao,e5):=by
 intro r
 induction r with
 |nil=>
  intro p m h hm
  obtain ⟨m,rfl,hm'⟩:=km hm
  simp only [nE,xd,akb h,ad,ag hk,ar];rfl
 |cons x r ih=>
  intro p m h hm
  obtain ⟨m,rfl,hm'⟩:=km hm
  obtain ⟨e1,e2,e3,e4⟩:=ln h (by omega)
  have hx:=hn x (by grind)
  grind [nE,xd,aY]
theorem He (hk:F3 k) {t:Tm} (ht:Fm t) {vb db:Int} (hvb:0≤vb∧vb≤1000000) (hdb:0≤db∧db<9223372036854775808) (ret:Tm×Int→Option S):lu k t vb db ret=ret (tE (su vb db t)):=by
 have hl:=aeV hk.fu ret (c0:=db) (c1:=vb) (c2:=t) (ns:=[vb,db,1000000-vb]) (by simp) (by grind) [vb,db,1000000-vb] [] k rfl (by grind)
 have hl:nE k ret db vb t [vb,db,1000000-vb] k 0=_:=hl
 simp only [lu,HV,ag hk.fu,ar,aaf (n:=1000000-vb) (by omega) (by omega),y7,BS,amv ht.ok (ht.fd hk) (show am t<1099511627776 by have:=ht.dep;omega),ht.2,hl,yW,SS]
 rw [show ((0:Int)==0)=true from rfl,Bool.not_true,ad,BA (show 0≤vb∧vb≤1000000000 by omega) (show aG 0 by unfold aG;omega) t ht.ok ht.rows _ (ht.fd hk) (ht.vp (by omega) (by omega)),ij,amt _ ret]
 unfold su
 rw [sb]
 refine ad3 (fun y hy=> ?_) fun _ _=>rfl
 have hy':=jr (show 0≤vb∧vb≤1000000000 by omega) ht hy
 rw [BA (show (0:Int)≤0∧(0:Int)≤1000000000 by omega) (show aG db by unfold aG;omega) y hy'.ok hy'.rows _ (hy'.fd hk) (hy'.vp (by omega) (by omega)),ij]
 rfl
theorem anE (hk:F3 k) {t:Tm} (ht:Fm t) {vb db:Int} (hvb:0≤vb∧vb≤1000000000) (hdb:0≤db∧db<9223372036854775808) (ret:Tm→Option S):amA k t vb db ret=ret (rE (su vb db t)):=by
 have hkd:=ht.rows.no.2.2
 simp only [amA,Tz,ar]
 rw [decide_eq_false (by omega),ad,anR hvb (by omega) t ht.ok ht.rows _ (ht.fd hk) (ht.vp (by omega) (by omega))]
 refine Eq.trans (rm (x:=acr vb 0 0 0 t) (fun e he=>(amo t he).1) (fun z hz=>by grind [am8]) (fun r1=>alI k r1 0 0 0 db fun r2=>ret r2) ret) ?_
 rw [amW (su vb db t) ret]
 unfold su
 rw [sb]
 refine ad3 (fun y hy=> ?_) fun _ _=>rfl
 have hy':=jr hvb ht hy
 rw [anR (by omega) hdb y hy'.ok hy'.rows _ (hy'.fd hk) (hy'.vp (by omega) (by omega)),amW _ ret]
end Go.Proofs.YtfkkpkhfjpaafaaGreatDoor
namespace Go.Proofs.YtfkkpkhfjpaafaaGreatDoor
open Go PI
set_option linter.unusedVariables false
set_option linter.unusedSimpArgs false
set_option maxRecDepth 20000
variable {S:Type} {k:Nat}
def acJ (i:Int) (r:List Cl) (fa:Bool):dC:=fun d f=>if bP (ie f) (i+d) then bE (toE (agS r 0 d)) fun s=>toE (if fa then iG f (i+d) s else iH f (i+d) s) else .ok f
theorem D5 (f:List Cl):U32 (ie f):=by
 have:=D6 f
 exact ⟨Int.natCast_nonneg _,by show ((fS f:Nat):Int)<_;omega⟩
theorem ahR {f r:List Cl} {i:Int} (hr:aq r) (h:(iH f i r).2=0):RF (iH f i r).1:=by
 grind [iH,KG,N5,fF,rA]
theorem FN (f g:List Cl):EN (alV f g).2:=qW _
theorem ES (f g:List Cl):EN (alO f g).2:=qW _
theorem agF (f g:List Cl):EN (amd f g).2:=qW _
theorem NM (f:List Cl):EN (alU f).2:=z8 fun h c=>FN _ _
theorem ahH (i:Int) (r:List Cl) (c:Cl):EN (d_ i r c).2:=by
 grind [d_,FN,uq]
theorem ahJ (i:Int) (r:List Cl) (c:Cl) (g:List Cl):EN (amk i r c g).2:=by
 grind [amk,FN,NM,uq]
theorem ahG (i:Int) (r h:List Cl) (c:Cl):EN (dY i r h c).2:=by
 grind [dY,ES,ahJ,ahH]
theorem ahQ (f:List Cl) (i:Int) (r:List Cl):EN (iH f i r).2:=by
 grind [iH,z8,ahG,lO]
theorem agW (f:List Cl):EN (ofS f).2:=by
 unfold ofS
 split
 ·exact qW _
 ·exact lO
theorem agX (f:List Cl):EN (ofZ f).2:=by
 unfold ofZ
 split
 ·split
  ·exact qW _
  ·exact NM _
 ·exact lO
theorem ahM {i:Int} {c:Cl} {h:List Cl} {q:List Cl×Int} (hq:EN q.2):EN (al8 i c h q).2:=by
 grind [al8,ES,agF]
theorem ahN (f:List Cl) (i:Int) (r:List Cl):EN (iG f i r).2:=by
 grind [iG,z8,alL,ahM,agW,agX,ES,lO]
theorem rB {i:Int} {r:List Cl} {fa:Bool} {d:Int} {f g:List Cl} (hf:RF f) (h:acJ i r fa d f= .ok g):RF g:=by
 unfold acJ at h
 split at h
 ·obtain ⟨s,h1,h⟩:=sm h
  obtain ⟨h0,rfl⟩:=rR h1
  have hs:=kQ h0
  obtain ⟨h2,rfl⟩:=rR h
  cases fa with
  |true=>exact (ahO hf.2 hs.2 h2).1
  |false=>exact ahR hs.2 h2
 grind
theorem Bu {i:Int} {r:List Cl} {fa:Bool} {d:Int} {f:List Cl} {e:Int} (h:acJ i r fa d f= .error e):0<e∧e≤1000:=by
 grind [acJ,be,B0,q_,EN,ahN,ahQ]
theorem QI {i:Int} {r:List Cl} {fa:Bool} {d:Int}:acJ i r fa d []= .ok []:=by
 grind [acJ,bP,ie,Int.toNat_natCast,D7,jJ]
def al1 (i:Int) (r:List Cl) (fa:Bool) (d:Int) (f:List Cl):List Cl×Int:=if bP (ie f) (i+d) then if (agS r 0 d).2=0 then if fa then iG f (i+d) (agS r 0 d).1 else iH f (i+d) (agS r 0 d).1 else ([],(agS r 0 d).2) else (f,0)
theorem oJ (i:Int) (r:List Cl) (fa:Bool) (d:Int) (f:List Cl):toE (al1 i r fa d f)=acJ i r fa d f:=by
 grind [al1,acJ,jF,aD,iO,lk]
section
variable {i d:Int} {r f:List Cl}
theorem RS (hk:Fu k) (hf:RF f) (hr:RF r) (hi:0≤i∧i<24) (hd:0≤d∧d<4611686018427387000) (ret:List Cl×Int→Option S):tF k f d i r ret=ret (al1 i r true d f):=by
 have l1:=hf.len;have l2:=hr.len
 simp only [tF,Sr,ag hk,aaf (n:=i+d) (by omega) (by omega),Ha hk hf.2 (show f.length<4294967296 by omega),rF hk (D5 f),tD,Hy,sf (show 0+f.length≤1099511627776 by omega),vX hk hr.2 (show r.length<1073741824 by omega) (show aG 0 by unfold aG;omega) (show aG d by unfold aG;omega)]
 unfold al1
 cases bP (ie f) (i+d) with
 |false=>rfl
 |true=>
  rw [Bool.not_true,ad,bG,if_pos rfl]
  by_cases h0:(agS r 0 d).2=0
  ·have hs:=kQ h0
   rw [decide_eq_true h0,Bool.not_true,ad,aje hk hf.2 hs.2 hf.lt hs.lt,if_pos h0,if_pos rfl]
  grind [ae]
theorem ajW (hk:Fu k) (hf:RF f) (hr:RF r) (hi:0≤i∧i<24) (hd:0≤d∧d<4611686018427387000) (ret:List Cl×Int→Option S):yF k f d i r ret=ret (al1 i r false d f):=by
 have l1:=hf.len;have l2:=hr.len
 simp only [yF,Sq,ag hk,aaf (n:=i+d) (by omega) (by omega),Ha hk hf.2 (show f.length<4294967296 by omega),rF hk (D5 f),tD,Hy,sf (show 0+f.length≤1099511627776 by omega),vX hk hr.2 (show r.length<1073741824 by omega) (show aG 0 by unfold aG;omega) (show aG d by unfold aG;omega)]
 unfold al1
 cases bP (ie f) (i+d) with
 |false=>rfl
 |true=>
  rw [Bool.not_true,ad,bG,if_pos rfl]
  by_cases h0:(agS r 0 d).2=0
  ·have hs:=kQ h0
   rw [decide_eq_true h0,Bool.not_true,ad,ajb hk hf.2 hs.2 hf.lt hs.lt,if_pos h0,if_neg (by decide)]
  grind [ae]
theorem RB (hk:Fu k) {fa:Bool} (hf:RF f) (hr:RF r) (hi:0≤i∧i<24) (hd:0≤d∧d<4611686018427387000) (ret:List Cl×Int→Option S):t_ k f fa i r d ret=ret (al1 i r fa d f):=by
 have l1:=hf.len;have l2:=hr.len
 simp only [t_,TD,ag hk,aaf (n:=i+d) (by omega) (by omega),RI hk hf.2 (show f.length<1073741824 by omega),amG hk (D5 f),BB hk hr.2 (show r.length<1073741824 by omega) (show aG 0 by unfold aG;omega) (show aG d by unfold aG;omega)]
 unfold al1
 cases bP (ie f) (i+d) with
 |false=>rfl
 |true=>
  rw [Bool.not_true,ad,bG,if_pos rfl]
  by_cases h0:(agS r 0 d).2=0
  ·have hs:=kQ h0
   rw [decide_eq_true h0,Bool.not_true,ad,if_pos h0]
   cases fa with
   |true=>rw [ae,ajI hk hf.2 hs.2 hf.lt hs.lt,if_pos rfl]
   |false=>rw [ad,ajS hk hf.2 hs.2 hf.lt hs.lt,if_neg (by decide)]
  grind [ae]
end
def jU (j:Int) (c:Cl):Cl:=⟨pI c.pos j,pI c.neg j⟩
def ac2 (j:Int) (f:List Cl):List Cl:=(bp (f.map (jU j))).1
theorem JR (s j:Int):0≤pI s j∧pI s j<16777216:=by
 have:=aam s.toNat j
 exact ⟨Int.natCast_nonneg _,by show ((j7 s.toNat j:Nat):Int)<_;omega⟩
theorem DA (j:Int) (c:Cl):RC (jU j c):=⟨JR _ _,JR _ _⟩
theorem DD (j:Int) (f:List Cl): ∀c∈f.map (jU j),RC c:=fun c hc=>by
 grind [DA]
theorem DC {j:Int} {f:List Cl} (hf:f.length≤64):bp (f.map (jU j))=(ac2 j f,0):=Prod.ext rfl (LH (DD j f) (by grind))
theorem aad {j:Int} {f:List Cl} (hf:f.length≤64):RF (ac2 j f):=qX (fun c hc=>(DD j f c hc).ok) (by rw [DC hf])
theorem agO: ∀ (n:Nat) {l:List Cl} {c:Cl},(l.filter fun d=>dR c d&& !decide (d=c)).length≤n→(∀d∈l,RC d)→c∈l→ ∃d∈l,ce l d=true:=by
 have hle: ∀ {a b:Cl},RC a→RC b→(dR a b=true↔(∀j,b.pos.toNat.testBit j=true→a.pos.toNat.testBit j=true)∧ ∀j,b.neg.toNat.testBit j=true→a.neg.toNat.testBit j=true):=by
  intro a b ha hb
  unfold dR d9
  rw [decide_eq_true_eq]
  have hor: ∀ {x y:Int},0≤x→(ep x y=x↔ ∀j,y.toNat.testBit j=true→x.toNat.testBit j=true):=by
   intro x y hx
   unfold ep
   constructor
   ·intro h j hj
    have:(x.toNat|||y.toNat)=x.toNat:=by omega
    grind
   ·intro h
    have:(x.toNat|||y.toNat)=x.toNat:=by
     apply Nat.eq_of_testBit_eq
     grind
    omega
  cases a with
  |mk p q=>
   have h1:0≤p:=ha.1.1
   have h2:0≤q:=ha.2.1
   grind
 have hanti: ∀ {a b:Cl},RC a→RC b→dR a b=true→dR b a=true→a=b:=by
  intro a b ha hb h1 h2
  have e1:=(hle ha hb).1 h1
  have e2:=(hle hb ha).1 h2
  have hx: ∀ {x y:Int},0≤x→0≤y→(∀j,y.toNat.testBit j=true→x.toNat.testBit j=true)→(∀j,x.toNat.testBit j=true→y.toNat.testBit j=true)→x=y:=by
   intro x y hx hy a b
   have:x.toNat=y.toNat:=by
    apply Nat.eq_of_testBit_eq
    grind
   omega
  cases a;cases b
  have p1:=hx ha.1.1 hb.1.1 e1.1 e2.1
  have p2:=hx ha.2.1 hb.2.1 e1.2 e2.2
  grind
 intro n
 induction n with
 |zero=>
  grind [ce,List.filter_eq_nil_iff]
 |succ n ih=>
  intro l c hn hl hc
  by_cases h:ce l c=true
  ·grind
  ·unfold ce at h
   rw [List.all_eq_true] at h
   have: ∃d∈l,¬ ((decide (d=c)|| !dR c d)=true):=Classical.byContradiction fun hh=>h fun d hd=>Classical.byContradiction fun h2=>hh ⟨d,hd,h2⟩
   obtain ⟨d,hd,hd'⟩:=this
   have h1:d≠c:=fun h=>hd' (by grind)
   have h2:dR c d=true:=by
    grind
   refine ih (c:=d) ?_ hl hd
   have hsub:(l.filter fun e=>dR d e&& !decide (e=d)).length<(l.filter fun e=>dR c e&& !decide (e=c)).length:=by
    have hc':=hl c hc;have hdr:=hl d hd
    have himp: ∀e∈l,(dR d e&& !decide (e=d))=true→(dR c e&& !decide (e=c))=true:=by
     grind
    have hle2: ∀ (p q:Cl→Bool) (m:List Cl),(∀e∈m,p e=true→q e=true)→(m.filter p).length≤(m.filter q).length:=by
     intro p q m
     induction m<;>grind
    have hlt: ∀ (p q:Cl→Bool) (m:List Cl),(∀e∈m,p e=true→q e=true)→d∈m→p d=false→q d=true→(m.filter p).length<(m.filter q).length:=by
     intro p q m
     induction m with
     |nil=>simp
     |cons e m im=>
      intro hm hdm hp hq
      have hrest: ∀e∈m,p e=true→q e=true:=fun e he=>hm e (by simp [he])
      have hb:=hle2 p q m hrest
      rcases List.mem_cons.1 hdm with rfl|hdm<;>grind
    exact hlt _ _ l himp hd (by simp) (by grind)
   omega
theorem JE {j:Int} {f:List Cl} (hf:RF f):(ac2 j f).length=0↔f.length=0:=by
 have h:=DC (j:=j) hf.len
 have hm:=(As h).1
 constructor
 ·intro h0
  apply Classical.byContradiction
  intro hne
  obtain ⟨c,hc⟩:=List.exists_mem_of_length_pos (l:=f.map (jU j)) (by grind)
  obtain ⟨d,hd,hn⟩:=agO _ (Nat.le_refl _) (DD j f) hc
  have:d∈ac2 j f:=by grind [mem_mins]
  grind
 ·intro h0
  have:=List.length_eq_zero_iff.1 h0
  subst this;rfl
theorem aeC (hk:Fu k) (ret:List Cl×Int→Option S) {i d:Int} (hi:0≤i∧i<24) (hd:0≤d∧d<4611686018427387000) {f:List Cl} (hf:aq f) (hlen:f.length<1073741824):
  ∀ (r p:List Cl) (m:Nat) (o:List Cl),f=p++r→r.length<m→aq o→o.length=p.length→p6 k ret i d f m (p.length:Int) o=ret (bp (o++r.map (jU (i+d)))):=by
 intro r
 induction r with
 |nil=>
  intro p m o h hm hok ho
  obtain ⟨m,rfl,hm'⟩:=km hm
  grind [p6,wN,ad,ag,kX]
 |cons x r ih=>
  intro p m o h hm hok ho
  obtain ⟨m,rfl,hm'⟩:=km hm
  obtain ⟨e1,e2,e3,e4⟩:=ln h (by omega)
  have hx:aX x:=hf x (by grind)
  have hpl:p.length<f.length:=by grind
  simp only [p6,wN,e1,ae,e2,Option.bind_some,ag hk,aaf (n:=i+d) (by omega) (by omega),Q4 hk hx.1,Q4 hk hx.2,e3]
  rw [sf (by grind)]
  have:=ih (p++[x]) m (o++[jU (i+d) x]) e4 hm' (ami hok fun c hc=>by simp at hc;subst hc;exact (DA _ _).ok) (by grind)
  refine Eq.trans this ?_
  simp
theorem Rl (hk:Fu k) {i d:Int} (hi:0≤i∧i<24) (hd:0≤d∧d<4611686018427387000) {f:List Cl} (hf:RF f) (ret:List Cl×Int→Option S):pc k f d i ret=ret (ac2 (i+d) f,0):=by
 have l1:=hf.len
 have:=aeC hk ret hi hd hf.2 (by omega) f [] k [] rfl (by omega) (fun c hc=>by cases hc) rfl
 grind [pc,Hx,DC]
theorem aex (hk:Fu k) (ret:List Cl→Option S) {j:Int} {f:List Cl} (hf:aq f) (hlen:f.length<1073741824):
  ∀ (r p:List Cl) (m:Nat) (o:List Cl),f=p++r→r.length<m→aq o→o.length=p.length→anv k ret f j m o (p.length:Int)=ret (bp (o++r.map (jU j))).1:=by
 intro r
 induction r with
 |nil=>
  intro p m o h hm hok ho
  obtain ⟨m,rfl,hm'⟩:=km hm
  grind [anv,xW,ad,ag,ank]
 |cons x r ih=>
  intro p m o h hm hok ho
  obtain ⟨m,rfl,hm'⟩:=km hm
  obtain ⟨e1,e2,e3,e4⟩:=ln h (by omega)
  have hx:aX x:=hf x (by grind)
  have hpl:p.length<f.length:=by grind
  simp only [anv,xW,e1,ae,e2,Option.bind_some,ag hk,RJ hk hx.1,RJ hk hx.2,e3]
  rw [sf (by grind)]
  have:=ih (p++[x]) m (o++[jU j x]) e4 hm' (ami hok fun c hc=>by simp at hc;subst hc;exact (DA _ _).ok) (by grind)
  refine Eq.trans this ?_
  simp
theorem Rj (hk:Fu k) {j:Int} {f:List Cl} (hf:RF f) (ret:List Cl→Option S):t8 k f j ret=ret (ac2 j f):=by
 have l1:=hf.len
 have:=aex hk ret (j:=j) hf.2 (by omega) f [] k [] rfl (by omega) (fun c hc=>by cases hc) rfl
 simp only [t8,IC]
 exact this
end Go.Proofs.YtfkkpkhfjpaafaaGreatDoor
namespace Go.Proofs.YtfkkpkhfjpaafaaGreatDoor
open Go PI
set_option linter.unusedVariables false
set_option linter.unusedSimpArgs false
set_option maxRecDepth 20000
variable {S:Type} {k:Nat}
theorem B4 (fo fa:dC) (d:Int) (t:Tm):ab7 fo fa d t=bE (if t.kind=14 then fa d t.r else fo d t.r) fun r'=>bE (aig fo fa d t.kind 0 t.kids) fun ks'=>bE (acM fo fa d t.kind t.sys) fun sys'=> .ok (.mk t.kind t.n t.name r' ks' sys'):=by cases t;rfl
theorem Ja {fo fa:dC} {d:Int} {x y:Tm} (h:ab7 fo fa d x= .ok y):y.kind=x.kind:=by
 rw [B4] at h
 obtain ⟨_,_,h⟩:=sm h
 obtain ⟨_,_,h⟩:=sm h
 obtain ⟨_,_,h⟩:=sm h
 injection h with h;subst h;rfl
theorem B3 (fo fa:dC) (d kd:Int) (b:Br Tm):amn fo fa d kd b=bE (fa d b.face) fun f'=>if f'.length=0 then .ok [] else bE (akP fo fa d kd b.kids) fun ks'=> .ok [.mk f' ks']:=by cases b;rfl
section
variable {fo fa:dC} (hfo: ∀d f e,fo d f= .error e→0<e∧e≤1000) (hfa: ∀d f e,fa d f= .error e→0<e∧e≤1000)
include hfo hfa
theorem jK (t:Tm): ∀ {d e},ab7 fo fa d t= .error e→0<e∧e≤1000:=by
 induction t using gq with
 |h kd n nm r ks sys ih1 ih2=>
  intro d e h
  rw [ab7] at h
  rcases be h with h|⟨_,_,h⟩
  ·grind
  have hkids: ∀ {l:List Tm} {i:Nat},(∀x∈l,∀ {d e},ab7 fo fa d x= .error e→0<e∧e≤1000)→aig fo fa d kd i l= .error e→0<e∧e≤1000:=by
   intro l
   induction l with
   |nil=>grind [aig]
   |cons t l ih=>
    intro i hl h
    rw [aig] at h
    rcases be h with h|⟨_,_,h⟩
    ·exact hl t (by simp) h
    grind [be]
  have hmore: ∀ {l:List Tm},(∀x∈l,∀ {d e},ab7 fo fa d x= .error e→0<e∧e≤1000)→ ∀ {e},akP fo fa d kd l= .error e→0<e∧e≤1000:=by
   intro l
   induction l with
   |nil=>grind [akP]
   |cons t l ih=>
    intro hl e h
    rw [akP] at h
    rcases be h with h|⟨_,_,h⟩
    ·grind
    ·rcases be h with h|⟨_,_,h⟩
     ·exact ih (fun x hx=>hl x (by simp [hx])) h
     simp_all
  have hsys: ∀ {l:List (Br Tm)},(∀b∈l,∀x∈b.kids,∀ {d e},ab7 fo fa d x= .error e→0<e∧e≤1000)→acM fo fa d kd l= .error e→0<e∧e≤1000:=by
   intro l
   induction l<;>grind [acM,be,B3]
  grind [be]
theorem Ug {kd d:Int}: ∀ {l:List Tm} {i:Nat} {e:Int},aig fo fa d kd i l= .error e→0<e∧e≤1000:=by
 intro l
 induction l with
 |nil=>grind [aig]
 |cons t l ih=>
  intro i e h
  rw [aig] at h
  rcases be h with h|⟨_,_,h⟩
  ·exact jK hfo hfa t h
  grind [be]
theorem Uh {kd d:Int}: ∀ {l:List Tm} {e:Int},akP fo fa d kd l= .error e→0<e∧e≤1000:=by
 intro l
 induction l<;>grind [akP,be,jK]
end
theorem anT {α β:Type} (x:Except Int Tm) (hx: ∀e,x= .error e→0<e∧e≤1000) (f:Tm→α) (g:Int→α):(fun r:Tm×Int=>ab (!(r.2==0)) (g r.2) (f r.1)) (tE x)=eE x f g:=by
 cases x with
 |ok t=>rfl
 |error e=>
  have:=(hx e rfl).1
  show ab (!(e==0)) (g e) (f ao)=g e
  grind [decide_eq_false,ae]
theorem AM {α β γ:Type} (x:Except Int α) (hx: ∀e,x= .error e→0<e∧e≤1000) (z:α) (f:α→β) (g:Int→β):eE x (fun l=>(fun r:α×Int=>ab (!(r.2==0)) (g r.2) (f r.1)) (l,0)) (fun e=>(fun r:α×Int=>ab (!(r.2==0)) (g r.2) (f r.1)) (z,e))=eE x f g:=by
 cases x with
 |ok t=>rfl
 |error e=>
  have:=(hx e rfl).1
  show ab (!(e==0)) (g e) (f z)=g e
  grind [decide_eq_false,ae]
theorem mo {G:Int→List Cl→List Cl}: ∀d f e,n1 G d f= .error e→0<e∧e≤1000:=fun d f e h=>by cases h
theorem jD {i:Int} {r:List Cl} {fa:Bool}: ∀d f e,acJ i r fa d f= .error e→0<e∧e≤1000:=fun d f e h=>Bu h
section
variable {hd:Tm→Int→Int→List Cl→(Tm×Int→Option S)→Option S} {i d:Int} {t:Tm} {r:List Cl}
theorem ahV (hk:Fu k) (hi:0≤i∧i<24) (hr:RF r) (hd0:0≤d∧d<4611686018427386000) (hro:RowsT t) (ret:List Cl×Int→Option S): ∃z:List Cl×Int,toE z=(if t.kind=14 then (acJ i r true) d t.r else (acJ i r false) d t.r)∧yG k t d i r ret=ret z:=by
 have hr0:=hro.no.1
 simp only [yG,Sv,ag hk,RS hk hr0 hr hi (show 0≤d∧d<4611686018427387000 by omega),ajW hk hr0 hr hi (show 0≤d∧d<4611686018427387000 by omega)]
 by_cases h:t.kind=14
 ·rw [h,if_pos rfl,show ((14:Int)==14)=true from rfl,ae]
  grind [oJ]
 ·rw [if_neg h,show (t.kind==14)=false from by grind,ad]
  grind [oJ]
theorem ahS (hk:Fu k) (ret:List Tm×Int→Option S) (hd0:0≤d∧d<4611686018427386000) (hQ: ∀y∈t.kids,∀b,0≤b∧b≤1→ ∀g,hd y (d+b) i r g=g (tE (ab7 (acJ i r false) (acJ i r true) (d+b) y))) (hl:t.kids.length<1073741824):
  ∀ (r' p:List Tm) (m:Nat) (acc:List Tm),t.kids=p++r'→r'.length<m→acc.length=p.length→
  lX hd k ret i r t t.kids d m acc (p.length:Int)=eE (aig (acJ i r false) (acJ i r true) d t.kind p.length r') (fun l=>ret (acc++l,0)) fun e=>ret ([],e):=by
 intro r'
 induction r' with
 |nil=>
  grind [km,lX,wR,ad,aig,aP]
 |cons y r' ih=>
  intro p m acc h hm ha
  obtain ⟨m,rfl,hm'⟩:=km hm
  obtain ⟨e1,e2,e3,e4⟩:=ln h (by omega)
  have hpl:p.length<t.kids.length:=by grind
  have b2':=gr t.kind p.length
  have hy:=hQ y (by grind) (bJ t.kind p.length) b2'
  simp only [lX,wR,e1,ae,e2,Option.bind_some,ag hk,tG,HD,jE,ar,aaf (n:=d+bJ t.kind p.length) (by omega) (by omega),hy]
  refine Eq.trans (anT (β:=Unit) _ (fun e he=>jK jD jD y he) (fun z=>Option.bind (aw 1099511627776 acc.length [z].length) fun _=>lX hd k ret i r t t.kids d m (acc++[z]) (IntKind.wrap .i64 ((p.length:Int)+1))) fun e=>ret ([],e)) ?_
  simp only [aig,sb,aP]
  refine ad3 (fun t' ht'=> ?_) fun e _=>rfl
  rw [sf (by grind),e3,ih (p++[y]) m (acc++[t']) e4 hm' (by grind),show (p++[y]).length=p.length+1 by simp]
  simp
theorem ahT (hk:Fu k) (ret:List Tm×Int→Option S) {x:Br Tm} {kd:Int} (hd0:0≤d∧d<4611686018427386000) (hQ: ∀y∈x.kids,∀g,hd y (d+av kd) i r g=g (tE (ab7 (acJ i r false) (acJ i r true) (d+av kd) y))) (hl:x.kids.length<1073741824):
  ∀ (r' p:List Tm) (m:Nat) (acc:List Tm),x.kids=p++r'→r'.length<m→acc.length=p.length→
  lW hd k ret i r (av kd) x.kids d m acc (p.length:Int)=eE (akP (acJ i r false) (acJ i r true) d kd r') (fun l=>ret (acc++l,0)) fun e=>ret ([],e):=by
 have hmo:=dy kd
 intro r'
 induction r' with
 |nil=>
  grind [km,lW,wQ,ad,akP,aP]
 |cons y r' ih=>
  intro p m acc h hm ha
  obtain ⟨m,rfl,hm'⟩:=km hm
  obtain ⟨e1,e2,e3,e4⟩:=ln h (by omega)
  have hpl:p.length<x.kids.length:=by grind
  have hy:=hQ y (by grind)
  simp only [lW,wQ,e1,ae,e2,Option.bind_some,ag hk,tH,HE,ar,aaf (n:=d+av kd) (by omega) (by omega),hy]
  refine Eq.trans (anT (β:=Unit) _ (fun e he=>jK jD jD y he) (fun z=>Option.bind (aw 1099511627776 acc.length [z].length) fun _=>lW hd k ret i r (av kd) x.kids d m (acc++[z]) (IntKind.wrap .i64 ((p.length:Int)+1))) fun e=>ret ([],e)) ?_
  simp only [akP,sb,aP]
  refine ad3 (fun t' ht'=> ?_) fun e _=>rfl
  rw [sf (by grind),e3,ih (p++[y]) m (acc++[t']) e4 hm' (by grind)]
  simp
theorem ahU (hk:Fu k) (ret:Tm×Int→Option S) (hi:0≤i∧i<24) (hr:RF r) (hd0:0≤d∧d<4611686018427386000) {r1:List Cl×Int} {r2:List Tm×Int} (ht:OkT t) (hro:RowsT t) (hQ: ∀b∈t.sys,∀y∈b.kids,∀g,hd y (d+av t.kind) i r g=g (tE (ab7 (acJ i r false) (acJ i r true) (d+av t.kind) y))):
  ∀ (r' p:List (Br Tm)) (m:Nat) (o:List (Br Tm)),t.sys=p++r'→r'.length<m→o.length≤p.length→
  fV hd k ret i r t r1 r2 d m (av t.kind) o (p.length:Int)=eE (acM (acJ i r false) (acJ i r true) d t.kind r') (fun s=>ret (.mk t.kind t.n t.name r1.1 r2.1 (o++s),0)) fun e=>ret (ao,e):=by
 obtain ⟨o1,o2,o3,o4,o5,o6,o7⟩:=ht.no
 intro r'
 induction r' with
 |nil=>
  grind [km,fV,wS,ad,acM,aP]
 |cons x r' ih=>
  intro p m o h hml ho
  obtain ⟨m,rfl,hm'⟩:=km hml
  obtain ⟨e1,e2,e3,e4⟩:=ln h (by omega)
  have hx:x∈t.sys:=by grind
  have hpl:p.length<t.sys.length:=by grind
  have hb:=(ht.bi hx).1
  have hr0:=(hro.bi hx).1
  have hM:=fun g:List Tm×Int→Option S=>ahT (kd:=t.kind) hk g hd0 (hQ x hx) hb.2.2 x.kids [] k [] rfl (by omega) rfl
  have hM: ∀g:List Tm×Int→Option S,lW hd k g i r (av t.kind) x.kids d k [] 0=_:=hM
  simp only [fV,wS,e1,ae,e2,Option.bind_some,ag hk,RS hk hr0 hr hi (show 0≤d∧d<4611686018427387000 by omega),DK,HB,hM,e3,List.nil_append]
  have hin:=fun f':List Cl=>AM (β:=Option S) (γ:=Unit) (akP (acJ i r false) (acJ i r true) d t.kind x.kids) (fun e he=>Uh jD jD he) [] (fun l=>Option.bind (aw 1099511627776 o.length [Br.mk f' l].length) fun _=>fV hd k ret i r t r1 r2 d m (av t.kind) (o++[Br.mk f' l]) (((p++[x]).length:Nat):Int)) fun e=>ret (ao,e)
  refine Eq.trans (wx (z:=(al1 i r true d x.face)) (fun f'=>ab (((f'.length:Nat):Int)==0) (fV hd k ret i r t r1 r2 d m (av t.kind) o (((p++[x]).length:Nat):Int)) (eE (akP (acJ i r false) (acJ i r true) d t.kind x.kids) (fun l=>(fun r5:List Tm×Int=>ab (!(r5.2==0)) (ret (ao,r5.2)) (Option.bind (aw 1099511627776 o.length [Br.mk f' r5.1].length) fun _=>fV hd k ret i r t r1 r2 d m (av t.kind) (o++[Br.mk f' r5.1]) (((p++[x]).length:Nat):Int))) (l,0)) fun e=>(fun r5:List Tm×Int=>ab (!(r5.2==0)) (ret (ao,r5.2)) (Option.bind (aw 1099511627776 o.length [Br.mk f' r5.1].length) fun _=>fV hd k ret i r t r1 r2 d m (av t.kind) (o++[Br.mk f' r5.1]) (((p++[x]).length:Nat):Int))) ([],e))) fun e=>ret (ao,e)) ?_
  rw [show toE (al1 i r true d x.face)=(acJ i r true) d x.face from oJ _ _ _ _ _]
  rw [acM,B3,sb,sb]
  refine ad3 (fun f' hf'=> ?_) fun e _=>rfl
  rw [qY,aY]
  by_cases h0:f'.length=0
  ·rw [if_pos h0,if_pos h0,aP,sb,ih (p++[x]) m o e4 hm' (by grind)]
   rfl
  ·rw [if_neg h0,if_neg h0,hin f',sb]
   refine ad3 (fun l hl=> ?_) fun e _=>rfl
   rw [aP,sb,sf (by grind),ih (p++[x]) m (o++[Br.mk f' l]) e4 hm' (by grind)]
   grind [aP]
end
theorem ahW {i:Int} {r:List Cl} (hi:0≤i∧i<24) (hr:RF r) (t:Tm):OkT t→RowsT t→ ∀ {k:Nat} {d:Int} (ret:Tm×Int→Option S),Fd k (am t)→0≤d→d+am t<4611686018427386000→d7 k t d i r ret=ret (tE (ab7 (acJ i r false) (acJ i r true) d t)):=by
 induction t using c7 with
 |h t ih1 ih2=>
  intro ht hro k d ret hk hv hv'
  obtain ⟨q,rfl,hq,hf⟩:=hk.pos' (alF t)
  have hp:=alF t
  have hd0:0≤d∧d<4611686018427386000:=by omega
  obtain ⟨o1,o2,o3,o4,o5,o6,o7⟩:=ht.no
  have hmo:=dy t.kind
  have hQ: ∀y∈t.kids,∀b,0≤b∧b≤1→ ∀g:Tm×Int→Option S,d7 q y (d+b) i r g=g (tE (ab7 (acJ i r false) (acJ i r true) (d+b) y)):=fun y hy b h2 g=>
   ih1 y hy (ht.ki hy) (hro.ki hy) g (hf _ (bY hy)) (by omega) (by have:=bY hy;omega)
  have hQ': ∀b∈t.sys,∀y∈b.kids,∀g:Tm×Int→Option S,d7 q y (d+av t.kind) i r g=g (tE (ab7 (acJ i r false) (acJ i r true) (d+av t.kind) y)):=fun b hb y hy g=>
   ih2 b hb y hy ((ht.bi hb).2 y hy) ((hro.bi hb).2 y hy) g (hf _ (b8 hb hy)) (by omega) (by have:=b8 hb hy;omega)
  have hK: ∀g:List Tm×Int→Option S,lX (d7 q) q g i r t t.kids d q [] 0=_:=fun g=>ahS hq g hd0 hQ o6 t.kids [] q [] rfl (by omega) rfl
  have hS:=fun (r1:List Cl×Int) (r2:List Tm×Int)=>ahU (r1:=r1) (r2:=r2) hq ret hi hr hd0 ht hro hQ' t.sys [] q [] rfl (by omega) (Nat.le_refl _)
  have hS: ∀ (r1:List Cl×Int) (r2:List Tm×Int),fV (d7 q) q ret i r t r1 r2 d q (av t.kind) [] 0=_:=hS
  have hcase: ∀ (r1:List Cl×Int) (r2:List Tm×Int),ab (t.kind==15) (fV (d7 q) q ret i r t r1 r2 d q 1 [] 0) (fV (d7 q) q ret i r t r1 r2 d q 0 [] 0)=eE (acM (acJ i r false) (acJ i r true) d t.kind t.sys) (fun s=>ret (.mk t.kind t.n t.name r1.1 r2.1 s,0)) fun e=>ret (ao,e):=by
   grind [cH,av]
  obtain ⟨z,hz,hrow⟩:=ahV hq hi hr hd0 hro (fun r1=>ab (!(r1.2==0)) (ret (ao,r1.2)) (eE (aig (acJ i r false) (acJ i r true) d t.kind 0 t.kids) (fun l=>(fun r2:List Tm×Int=>ab (!(r2.2==0)) (ret (ao,r2.2)) (eE (acM (acJ i r false) (acJ i r true) d t.kind t.sys) (fun s=>ret (.mk t.kind t.n t.name r1.1 r2.1 s,0)) fun e=>ret (ao,e))) (l,0)) fun e=>(fun r2:List Tm×Int=>ab (!(r2.2==0)) (ret (ao,r2.2)) (eE (acM (acJ i r false) (acJ i r true) d t.kind t.sys) (fun s=>ret (.mk t.kind t.n t.name r1.1 r2.1 s,0)) fun e=>ret (ao,e))) ([],e)))
  simp only [d7,HF,ag hq,ar,DL,HC,hK,hcase,List.nil_append,List.length_nil]
  refine Eq.trans hrow ?_
  rw [amt _ ret,B4,←hz]
  refine Eq.trans (wx (z:=z) (fun r'=>eE (aig (acJ i r false) (acJ i r true) d t.kind 0 t.kids) (fun l=>(fun r2:List Tm×Int=>ab (!(r2.2==0)) (ret (ao,r2.2)) (eE (acM (acJ i r false) (acJ i r true) d t.kind t.sys) (fun s=>ret (.mk t.kind t.n t.name r' r2.1 s,0)) fun e=>ret (ao,e))) (l,0)) fun e=>(fun r2:List Tm×Int=>ab (!(r2.2==0)) (ret (ao,r2.2)) (eE (acM (acJ i r false) (acJ i r true) d t.kind t.sys) (fun s=>ret (.mk t.kind t.n t.name r' r2.1 s,0)) fun e=>ret (ao,e))) ([],e)) fun e=>ret (ao,e)) ?_
  rw [sb]
  refine ad3 (fun r' _=> ?_) fun e _=>rfl
  refine Eq.trans (AM (β:=Option S) (γ:=Unit) (aig (acJ i r false) (acJ i r true) d t.kind 0 t.kids) (fun e he=>Ug jD jD he) [] (fun l=>eE (acM (acJ i r false) (acJ i r true) d t.kind t.sys) (fun s=>ret (.mk t.kind t.n t.name r' l s,0)) fun e=>ret (ao,e)) fun e=>ret (ao,e)) ?_
  simp only [sb,aP]
section
variable {hd:Tm→Int→Int→(Tm×Int→Option S)→Option S} {i d:Int} {t:Tm}
theorem aaq (hk:Fu k) (hi:0≤i∧i<24) (hd0:0≤d∧d<4611686018427386000) (hro:RowsT t) (ret:List Cl×Int→Option S): ∃z:List Cl×Int,toE z=(if t.kind=14 then (n1 fun d f=>ac2 (i+d) f) d t.r else (n1 fun d f=>ac2 (i+d) f) d t.r)∧yH k t d i ret=ret z:=by
 have hr0:=hro.no.1
 simp only [yH,Sw,ag hk,Rl hk hi (show 0≤d∧d<4611686018427387000 by omega) hr0]
 by_cases h:t.kind=14
 ·rw [h,if_pos rfl,show ((14:Int)==14)=true from rfl,ae]
  exact ⟨_,rfl,rfl⟩
 ·rw [if_neg h,show (t.kind==14)=false from by grind,ad]
  exact ⟨_,rfl,rfl⟩
theorem aan (hk:Fu k) (ret:List Tm×Int→Option S) (hd0:0≤d∧d<4611686018427386000) (hQ: ∀y∈t.kids,∀b,0≤b∧b≤1→ ∀g,hd y (d+b) i g=g (tE (ab7 (n1 fun d f=>ac2 (i+d) f) (n1 fun d f=>ac2 (i+d) f) (d+b) y))) (hl:t.kids.length<1073741824):
  ∀ (r' p:List Tm) (m:Nat) (acc:List Tm),t.kids=p++r'→r'.length<m→acc.length=p.length→
  lV hd k ret i t t.kids d m acc (p.length:Int)=eE (aig (n1 fun d f=>ac2 (i+d) f) (n1 fun d f=>ac2 (i+d) f) d t.kind p.length r') (fun l=>ret (acc++l,0)) fun e=>ret ([],e):=by
 intro r'
 induction r' with
 |nil=>
  grind [km,lV,wP,ad,aig,aP]
 |cons y r' ih=>
  intro p m acc h hm ha
  obtain ⟨m,rfl,hm'⟩:=km hm
  obtain ⟨e1,e2,e3,e4⟩:=ln h (by omega)
  have hpl:p.length<t.kids.length:=by grind
  have b2':=gr t.kind p.length
  have hy:=hQ y (by grind) (bJ t.kind p.length) b2'
  simp only [lV,wP,e1,ae,e2,Option.bind_some,ag hk,tG,HD,jE,ar,aaf (n:=d+bJ t.kind p.length) (by omega) (by omega),hy]
  refine Eq.trans (anT (β:=Unit) _ (fun e he=>jK mo mo y he) (fun z=>Option.bind (aw 1099511627776 acc.length [z].length) fun _=>lV hd k ret i t t.kids d m (acc++[z]) (IntKind.wrap .i64 ((p.length:Int)+1))) fun e=>ret ([],e)) ?_
  simp only [aig,sb,aP]
  refine ad3 (fun t' ht'=> ?_) fun e _=>rfl
  rw [sf (by grind),e3,ih (p++[y]) m (acc++[t']) e4 hm' (by grind),show (p++[y]).length=p.length+1 by simp]
  simp
theorem aao (hk:Fu k) (ret:List Tm×Int→Option S) {x:Br Tm} {kd:Int} (hd0:0≤d∧d<4611686018427386000) (hQ: ∀y∈x.kids,∀g,hd y (d+av kd) i g=g (tE (ab7 (n1 fun d f=>ac2 (i+d) f) (n1 fun d f=>ac2 (i+d) f) (d+av kd) y))) (hl:x.kids.length<1073741824):
  ∀ (r' p:List Tm) (m:Nat) (acc:List Tm),x.kids=p++r'→r'.length<m→acc.length=p.length→
  lU hd k ret i (av kd) x.kids d m acc (p.length:Int)=eE (akP (n1 fun d f=>ac2 (i+d) f) (n1 fun d f=>ac2 (i+d) f) d kd r') (fun l=>ret (acc++l,0)) fun e=>ret ([],e):=by
 have hmo:=dy kd
 intro r'
 induction r' with
 |nil=>
  grind [km,lU,wO,ad,akP,aP]
 |cons y r' ih=>
  intro p m acc h hm ha
  obtain ⟨m,rfl,hm'⟩:=km hm
  obtain ⟨e1,e2,e3,e4⟩:=ln h (by omega)
  have hpl:p.length<x.kids.length:=by grind
  have hy:=hQ y (by grind)
  simp only [lU,wO,e1,ae,e2,Option.bind_some,ag hk,tH,HE,ar,aaf (n:=d+av kd) (by omega) (by omega),hy]
  refine Eq.trans (anT (β:=Unit) _ (fun e he=>jK mo mo y he) (fun z=>Option.bind (aw 1099511627776 acc.length [z].length) fun _=>lU hd k ret i (av kd) x.kids d m (acc++[z]) (IntKind.wrap .i64 ((p.length:Int)+1))) fun e=>ret ([],e)) ?_
  simp only [akP,sb,aP]
  refine ad3 (fun t' ht'=> ?_) fun e _=>rfl
  rw [sf (by grind),e3,ih (p++[y]) m (acc++[t']) e4 hm' (by grind)]
  simp
theorem aap (hk:Fu k) (ret:Tm×Int→Option S) (hi:0≤i∧i<24) (hd0:0≤d∧d<4611686018427386000) {r1:List Cl×Int} {r2:List Tm×Int} (ht:OkT t) (hro:RowsT t) (hQ: ∀b∈t.sys,∀y∈b.kids,∀g,hd y (d+av t.kind) i g=g (tE (ab7 (n1 fun d f=>ac2 (i+d) f) (n1 fun d f=>ac2 (i+d) f) (d+av t.kind) y))):
  ∀ (r' p:List (Br Tm)) (m:Nat) (o:List (Br Tm)),t.sys=p++r'→r'.length<m→o.length≤p.length→
  fW hd k ret i t r1 r2 d m (av t.kind) o (p.length:Int)=eE (acM (n1 fun d f=>ac2 (i+d) f) (n1 fun d f=>ac2 (i+d) f) d t.kind r') (fun s=>ret (.mk t.kind t.n t.name r1.1 r2.1 (o++s),0)) fun e=>ret (ao,e):=by
 obtain ⟨o1,o2,o3,o4,o5,o6,o7⟩:=ht.no
 intro r'
 induction r' with
 |nil=>
  grind [km,fW,wT,ad,acM,aP]
 |cons x r' ih=>
  intro p m o h hml ho
  obtain ⟨m,rfl,hm'⟩:=km hml
  obtain ⟨e1,e2,e3,e4⟩:=ln h (by omega)
  have hx:x∈t.sys:=by grind
  have hpl:p.length<t.sys.length:=by grind
  have hb:=(ht.bi hx).1
  have hr0:=(hro.bi hx).1
  have hM:=fun g:List Tm×Int→Option S=>aao (kd:=t.kind) hk g hd0 (hQ x hx) hb.2.2 x.kids [] k [] rfl (by omega) rfl
  have hM: ∀g:List Tm×Int→Option S,lU hd k g i (av t.kind) x.kids d k [] 0=_:=hM
  simp only [fW,wT,e1,ae,e2,Option.bind_some,ag hk,Rl hk hi (show 0≤d∧d<4611686018427387000 by omega) hr0,DI,Hz,hM,e3,List.nil_append]
  have hin:=fun f':List Cl=>AM (β:=Option S) (γ:=Unit) (akP (n1 fun d f=>ac2 (i+d) f) (n1 fun d f=>ac2 (i+d) f) d t.kind x.kids) (fun e he=>Uh mo mo he) [] (fun l=>Option.bind (aw 1099511627776 o.length [Br.mk f' l].length) fun _=>fW hd k ret i t r1 r2 d m (av t.kind) (o++[Br.mk f' l]) (((p++[x]).length:Nat):Int)) fun e=>ret (ao,e)
  refine Eq.trans (wx (z:=(ac2 (i+d) x.face,(0:Int))) (fun f'=>ab (((f'.length:Nat):Int)==0) (fW hd k ret i t r1 r2 d m (av t.kind) o (((p++[x]).length:Nat):Int)) (eE (akP (n1 fun d f=>ac2 (i+d) f) (n1 fun d f=>ac2 (i+d) f) d t.kind x.kids) (fun l=>(fun r5:List Tm×Int=>ab (!(r5.2==0)) (ret (ao,r5.2)) (Option.bind (aw 1099511627776 o.length [Br.mk f' r5.1].length) fun _=>fW hd k ret i t r1 r2 d m (av t.kind) (o++[Br.mk f' r5.1]) (((p++[x]).length:Nat):Int))) (l,0)) fun e=>(fun r5:List Tm×Int=>ab (!(r5.2==0)) (ret (ao,r5.2)) (Option.bind (aw 1099511627776 o.length [Br.mk f' r5.1].length) fun _=>fW hd k ret i t r1 r2 d m (av t.kind) (o++[Br.mk f' r5.1]) (((p++[x]).length:Nat):Int))) ([],e))) fun e=>ret (ao,e)) ?_
  rw [show toE (ac2 (i+d) x.face,(0:Int))=(n1 fun d f=>ac2 (i+d) f) d x.face from rfl]
  rw [acM,B3,sb,sb]
  refine ad3 (fun f' hf'=> ?_) fun e _=>rfl
  rw [qY,aY]
  by_cases h0:f'.length=0
  ·rw [if_pos h0,if_pos h0,aP,sb,ih (p++[x]) m o e4 hm' (by grind)]
   rfl
  ·rw [if_neg h0,if_neg h0,hin f',sb]
   refine ad3 (fun l hl=> ?_) fun e _=>rfl
   rw [aP,sb,sf (by grind),ih (p++[x]) m (o++[Br.mk f' l]) e4 hm' (by grind)]
   grind [aP]
end
theorem aar {i:Int} (hi:0≤i∧i<24) (t:Tm):OkT t→RowsT t→ ∀ {k:Nat} {d:Int} (ret:Tm×Int→Option S),Fd k (am t)→0≤d→d+am t<4611686018427386000→dT k t d i ret=ret (tE (ab7 (n1 fun d f=>ac2 (i+d) f) (n1 fun d f=>ac2 (i+d) f) d t)):=by
 induction t using c7 with
 |h t ih1 ih2=>
  intro ht hro k d ret hk hv hv'
  obtain ⟨q,rfl,hq,hf⟩:=hk.pos' (alF t)
  have hp:=alF t
  have hd0:0≤d∧d<4611686018427386000:=by omega
  obtain ⟨o1,o2,o3,o4,o5,o6,o7⟩:=ht.no
  have hmo:=dy t.kind
  have hQ: ∀y∈t.kids,∀b,0≤b∧b≤1→ ∀g:Tm×Int→Option S,dT q y (d+b) i g=g (tE (ab7 (n1 fun d f=>ac2 (i+d) f) (n1 fun d f=>ac2 (i+d) f) (d+b) y)):=fun y hy b h2 g=>
   ih1 y hy (ht.ki hy) (hro.ki hy) g (hf _ (bY hy)) (by omega) (by have:=bY hy;omega)
  have hQ': ∀b∈t.sys,∀y∈b.kids,∀g:Tm×Int→Option S,dT q y (d+av t.kind) i g=g (tE (ab7 (n1 fun d f=>ac2 (i+d) f) (n1 fun d f=>ac2 (i+d) f) (d+av t.kind) y)):=fun b hb y hy g=>
   ih2 b hb y hy ((ht.bi hb).2 y hy) ((hro.bi hb).2 y hy) g (hf _ (b8 hb hy)) (by omega) (by have:=b8 hb hy;omega)
  have hK: ∀g:List Tm×Int→Option S,lV (dT q) q g i t t.kids d q [] 0=_:=fun g=>aan hq g hd0 hQ o6 t.kids [] q [] rfl (by omega) rfl
  have hS:=fun (r1:List Cl×Int) (r2:List Tm×Int)=>aap (r1:=r1) (r2:=r2) hq ret hi hd0 ht hro hQ' t.sys [] q [] rfl (by omega) (Nat.le_refl _)
  have hS: ∀ (r1:List Cl×Int) (r2:List Tm×Int),fW (dT q) q ret i t r1 r2 d q (av t.kind) [] 0=_:=hS
  have hcase: ∀ (r1:List Cl×Int) (r2:List Tm×Int),ab (t.kind==15) (fW (dT q) q ret i t r1 r2 d q 1 [] 0) (fW (dT q) q ret i t r1 r2 d q 0 [] 0)=eE (acM (n1 fun d f=>ac2 (i+d) f) (n1 fun d f=>ac2 (i+d) f) d t.kind t.sys) (fun s=>ret (.mk t.kind t.n t.name r1.1 r2.1 s,0)) fun e=>ret (ao,e):=by
   grind [cH,av]
  obtain ⟨z,hz,hrow⟩:=aaq hq hi hd0 hro (fun r1=>ab (!(r1.2==0)) (ret (ao,r1.2)) (eE (aig (n1 fun d f=>ac2 (i+d) f) (n1 fun d f=>ac2 (i+d) f) d t.kind 0 t.kids) (fun l=>(fun r2:List Tm×Int=>ab (!(r2.2==0)) (ret (ao,r2.2)) (eE (acM (n1 fun d f=>ac2 (i+d) f) (n1 fun d f=>ac2 (i+d) f) d t.kind t.sys) (fun s=>ret (.mk t.kind t.n t.name r1.1 r2.1 s,0)) fun e=>ret (ao,e))) (l,0)) fun e=>(fun r2:List Tm×Int=>ab (!(r2.2==0)) (ret (ao,r2.2)) (eE (acM (n1 fun d f=>ac2 (i+d) f) (n1 fun d f=>ac2 (i+d) f) d t.kind t.sys) (fun s=>ret (.mk t.kind t.n t.name r1.1 r2.1 s,0)) fun e=>ret (ao,e))) ([],e)))
  simp only [dT,HG,ag hq,ar,DJ,HA,hK,hcase,List.nil_append,List.length_nil]
  refine Eq.trans hrow ?_
  rw [amt _ ret,B4,←hz]
  refine Eq.trans (wx (z:=z) (fun r'=>eE (aig (n1 fun d f=>ac2 (i+d) f) (n1 fun d f=>ac2 (i+d) f) d t.kind 0 t.kids) (fun l=>(fun r2:List Tm×Int=>ab (!(r2.2==0)) (ret (ao,r2.2)) (eE (acM (n1 fun d f=>ac2 (i+d) f) (n1 fun d f=>ac2 (i+d) f) d t.kind t.sys) (fun s=>ret (.mk t.kind t.n t.name r' r2.1 s,0)) fun e=>ret (ao,e))) (l,0)) fun e=>(fun r2:List Tm×Int=>ab (!(r2.2==0)) (ret (ao,r2.2)) (eE (acM (n1 fun d f=>ac2 (i+d) f) (n1 fun d f=>ac2 (i+d) f) d t.kind t.sys) (fun s=>ret (.mk t.kind t.n t.name r' r2.1 s,0)) fun e=>ret (ao,e))) ([],e)) fun e=>ret (ao,e)) ?_
  rw [sb]
  refine ad3 (fun r' _=> ?_) fun e _=>rfl
  refine Eq.trans (AM (β:=Option S) (γ:=Unit) (aig (n1 fun d f=>ac2 (i+d) f) (n1 fun d f=>ac2 (i+d) f) d t.kind 0 t.kids) (fun e he=>Ug mo mo he) [] (fun l=>eE (acM (n1 fun d f=>ac2 (i+d) f) (n1 fun d f=>ac2 (i+d) f) d t.kind t.sys) (fun s=>ret (.mk t.kind t.n t.name r' l s,0)) fun e=>ret (ao,e)) fun e=>ret (ao,e)) ?_
  simp only [sb,aP]
end Go.Proofs.YtfkkpkhfjpaafaaGreatDoor
namespace Go.Proofs.YtfkkpkhfjpaafaaGreatDoor
open Go PI
set_option linter.unusedVariables false
set_option linter.unusedSimpArgs false
set_option maxRecDepth 20000
variable {S:Type} {k:Nat}
def yw (i:Int):Int→List Cl→List Cl:=fun d f=>ac2 (i+d) f
def foX (i:Int) (r:List Cl) (fa:Bool):dC:=da (acJ i r fa) (yw i)
theorem uz (i:Int) (r:List Cl) (fa:Bool) (d:Int) (f:List Cl):foX i r fa d f=bE (acJ i r fa d f) fun m=> .ok (ac2 (i+d) m):=rfl
theorem pR {i:Int} {r:List Cl} {fa:Bool}: ∀d f e,foX i r fa d f= .error e→0<e∧e≤1000:=fun d f e h=>by
 rw [uz] at h
 rcases be h with h|⟨_,_,h⟩
 ·exact Bu h
 simp_all
section
variable {hd:Tm→Int→List Cl→Int→Bool→(Tm→Option S)→Option S} {i d:Int} {r:List Cl} {t:Tm}
theorem afY (hk:Fu k) (ret:Tm→Option S) (rec1:List (Br Tm)→Int→Option S) {v18:Int} {r3:List Cl} {ks:List Tm} {o:List (Br Tm)} {x:Br Tm} (hi:af t.sys v18=some x)
  (hd0:0≤d∧d<4611686018427386000) (hQ: ∀y∈x.kids,∀g,hd y i r (d+av t.kind) true g=g (rE (ab7 (foX i r false) (foX i r true) (d+av t.kind) y))) (hkd: ∀y∈x.kids,0≤y.kind) (hl:x.kids.length<1073741824) (ho:o.length<1073741824) {f'':List Cl}:
  ∀ (r' p:List Tm) (m:Nat) (acc:List Tm),x.kids=p++r'→r'.length<m→acc.length=p.length→
  kI hd k ret rec1 t r3 ks o i v18 r d true m f'' acc (p.length:Int)=eE (akP (foX i r false) (foX i r true) d t.kind r') (fun l=>rec1 (o++[Br.mk f'' (acc++l)]) (IntKind.wrap .i64 (v18+1))) fun e=>ret (bh e):=by
 have hmo:=dy t.kind
 intro r'
 induction r' with
 |nil=>
  grind [km,kI,xX,ad,akP,aP,sf]
 |cons y r' ih=>
  intro p m acc h hm ha
  obtain ⟨m,rfl,hm'⟩:=km hm
  obtain ⟨e1,e2,e3,e4⟩:=ln h (by omega)
  have hpl:p.length<x.kids.length:=by grind
  have hym:y∈x.kids:=by grind
  have hy:=hQ y hym
  simp only [kI,xX,hi,e1,ae,e2,Option.bind_some,ag hk,BE,ar,aaf (n:=d+av t.kind) (by omega) (by omega),hy]
  refine Eq.trans (rm (fun e he=>(jK pR pR y he).1) (fun z hz=>by grind [Ja]) (fun z=>Option.bind (aw 1099511627776 acc.length [z].length) fun _=>kI hd k ret rec1 t r3 ks o i v18 r d true m f'' (acc++[z]) (IntKind.wrap .i64 ((p.length:Int)+1))) ret) ?_
  simp only [akP,sb,aP]
  refine ad3 (fun t' ht'=> ?_) fun e _=>rfl
  rw [sf (by grind),e3,ih (p++[y]) m (acc++[t']) e4 hm' (by grind)]
  simp
theorem afX (hk:Fu k) (ret:Tm→Option S) (hi:0≤i∧i<24) (hr:RF r) {r3:List Cl} {ks:List Tm} (ht:OkT t) (hro:RowsT t) (hd0:0≤d∧d<4611686018427386000)
  (hQ: ∀b∈t.sys,∀y∈b.kids,∀g,hd y i r (d+av t.kind) true g=g (rE (ab7 (foX i r false) (foX i r true) (d+av t.kind) y))):
  ∀ (r' p:List (Br Tm)) (m:Nat) (o:List (Br Tm)),t.sys=p++r'→r'.length<m→o.length≤p.length→
  amF hd k ret t r3 ks i r d true m o (p.length:Int)=eE (acM (foX i r false) (foX i r true) d t.kind r') (fun l=>ret (.mk t.kind t.n t.name r3 ks (o++l))) fun e=>ret (bh e):=by
 obtain ⟨o1,o2,o3,o4,o5,o6,o7⟩:=ht.no
 intro r'
 induction r' with
 |nil=>
  grind [km,amF,tg,ad,acM,aP]
 |cons x r' ih=>
  intro p m o h hml ho
  obtain ⟨m,rfl,hm'⟩:=km hml
  obtain ⟨e1,e2,e3,e4⟩:=ln h (by omega)
  have hx:x∈t.sys:=by grind
  have hpl:p.length<t.sys.length:=by grind
  have hb:=(ht.bi hx).1
  have hr0:=(hro.bi hx).1
  have hM:=fun f'':List Cl=>afY (f'':=f'') (r3:=r3) (ks:=ks) (o:=o) hk ret (amF hd k ret t r3 ks i r d true m) e2 hd0 (hQ x hx) (fun y hy=>((hro.bi hx).2 y hy).no.2.2) hb.2.2 (by omega) x.kids [] k [] rfl (by omega) rfl
  have hM: ∀f'':List Cl,kI hd k ret (amF hd k ret t r3 ks i r d true m) t r3 ks o i (p.length:Int) r d true k f'' [] 0=_:=hM
  simp only [amF,tg,e1,ae,e2,Option.bind_some,ag hk,RB hk hr0 hr hi (show 0≤d∧d<4611686018427387000 by omega),aaf (n:=i+d) (by omega) (by omega),hM,e3,List.nil_append]
  rw [acM,B3,sb,sb,uz,sb,←oJ]
  have hz:=oJ i r true d x.face
  by_cases h0:(al1 i r true d x.face).2=0
  ·have hrf:RF (al1 i r true d x.face).1:=rB hr0 (hz.symm.trans (jF h0))
   rw [bG,decide_eq_true h0,Bool.not_true,ad,jF h0,aP,aP,qY,aY,Rj hk hrf]
   have hlen:=JE (j:=i+d) hrf
   by_cases hl:(al1 i r true d x.face).1.length=0
   ·rw [if_pos hl,if_pos (hlen.2 hl),aP,sb,ih (p++[x]) m o e4 hm' (by grind)]
    rfl
   ·rw [if_neg hl,if_neg (fun h=>hl (hlen.1 h)),sb]
    refine ad3 (fun l _=> ?_) fun e _=>rfl
    rw [aP,sb,ih (p++[x]) m (o++[Br.mk (ac2 (i+d) (al1 i r true d x.face).1) l]) e4 hm' (by grind)]
    grind [aP]
  ·have hze:toE (al1 i r true d x.face)= .error (al1 i r true d x.face).2:=iO h0
   have hen:=Bu (hz.symm.trans hze)
   rw [bG,decide_eq_false h0,Bool.not_false,ae,hze,amu hen];rfl
theorem afW (hk:Fu k) (ret:Tm→Option S) (hi:0≤i∧i<24) (hr:RF r) {r3:List Cl} (ht:OkT t) (hro:RowsT t) (hd0:0≤d∧d<4611686018427386000)
  (hQ: ∀y∈t.kids,∀b,0≤b∧b≤1→ ∀g,hd y i r (d+b) true g=g (rE (ab7 (foX i r false) (foX i r true) (d+b) y))) (hQ': ∀b∈t.sys,∀y∈b.kids,∀g,hd y i r (d+av t.kind) true g=g (rE (ab7 (foX i r false) (foX i r true) (d+av t.kind) y))):
  ∀ (r' p:List Tm) (m:Nat) (acc:List Tm),t.kids=p++r'→r'.length<m→acc.length=p.length→
  mg hd k ret t i r d true m r3 acc (p.length:Int)=eE (aig (foX i r false) (foX i r true) d t.kind p.length r') (fun l=>eE (acM (foX i r false) (foX i r true) d t.kind t.sys) (fun s=>ret (.mk t.kind t.n t.name r3 (acc++l) s)) fun e=>ret (bh e)) fun e=>ret (bh e):=by
 obtain ⟨o1,o2,o3,o4,o5,o6,o7⟩:=ht.no
 intro r'
 induction r' with
 |nil=>
  intro p m acc h hm ha
  obtain ⟨m,rfl,hm'⟩:=km hm
  have hs:amF hd k ret t r3 acc i r d true k [] 0=_:=afX hk ret hi hr ht hro hd0 hQ' t.sys [] k [] rfl (by omega) (Nat.le_refl _)
  grind [mg,tf,ad,aig,aP]
 |cons y r' ih=>
  intro p m acc h hm ha
  obtain ⟨m,rfl,hm'⟩:=km hm
  obtain ⟨e1,e2,e3,e4⟩:=ln h (by omega)
  have hpl:p.length<t.kids.length:=by grind
  have b2':=gr t.kind p.length
  have hym:y∈t.kids:=by grind
  have hy:=hQ y hym (bJ t.kind p.length) b2'
  simp only [mg,tf,e1,ae,e2,Option.bind_some,ag hk,anP hk,ar,aaf (n:=d+bJ t.kind p.length) (by omega) (by omega),hy]
  refine Eq.trans (rm (fun e he=>(jK pR pR y he).1) (fun z hz=>by rw [Ja hz];exact (hro.ki hym).no.2.2) (fun z=>Option.bind (aw 1099511627776 acc.length [z].length) fun _=>mg hd k ret t i r d true m r3 (acc++[z]) (IntKind.wrap .i64 ((p.length:Int)+1))) ret) ?_
  simp only [aig,sb,aP]
  refine ad3 (fun t' ht'=> ?_) fun e _=>rfl
  rw [sf (by grind),e3,ih (p++[y]) m (acc++[t']) e4 hm' (by grind),show (p++[y]).length=p.length+1 by simp]
  simp
end
theorem ajA {i:Int} {r:List Cl} (hi:0≤i∧i<24) (hr:RF r) (t:Tm):OkT t→RowsT t→ ∀ {k:Nat} {d:Int} (ret:Tm→Option S),Fd k (am t)→0≤d→d+am t<4611686018427386000→fR k t i r d true ret=ret (rE (ab7 (foX i r false) (foX i r true) d t)):=by
 induction t using c7 with
 |h t ih1 ih2=>
  intro ht hro k d ret hk hv hv'
  obtain ⟨q,rfl,hq,hf⟩:=hk.pos' (alF t)
  have hp:=alF t
  have hd0:0≤d∧d<4611686018427386000:=by omega
  obtain ⟨o1,o2,o3,o4,o5,o6,o7⟩:=ht.no
  have hmo:=dy t.kind
  have hr0:=hro.no.1
  have hQ: ∀y∈t.kids,∀b,0≤b∧b≤1→ ∀g:Tm→Option S,fR q y i r (d+b) true g=g (rE (ab7 (foX i r false) (foX i r true) (d+b) y)):=fun y hy b h2 g=>
   ih1 y hy (ht.ki hy) (hro.ki hy) g (hf _ (bY hy)) (by omega) (by have:=bY hy;omega)
  have hQ': ∀b∈t.sys,∀y∈b.kids,∀g:Tm→Option S,fR q y i r (d+av t.kind) true g=g (rE (ab7 (foX i r false) (foX i r true) (d+av t.kind) y)):=fun b hb y hy g=>
   ih2 b hb y hy ((ht.bi hb).2 y hy) ((hro.bi hb).2 y hy) g (hf _ (b8 hb hy)) (by omega) (by have:=b8 hb hy;omega)
  have h1:=fun r3:List Cl=>afW (r3:=r3) hq ret hi hr ht hro hd0 hQ hQ' t.kids [] q [] rfl (by omega) rfl
  have h1: ∀r3:List Cl,mg (fR q) q ret t i r d true q r3 [] 0=_:=h1
  simp only [fR,ID,ag hq,RB hq hr0 hr hi (show 0≤d∧d<4611686018427387000 by omega),aaf (n:=i+d) (by omega) (by omega),ae,h1,List.nil_append,List.length_nil]
  have hfa: ∀fa:Bool,(if t.kind=14 then foX i r true d t.r else foX i r false d t.r)=foX i r (t.kind==14) d t.r:=fun _=>by
   grind
  rw [amW _ ret,B4,hfa true,uz,sb,sb,←oJ]
  have hz:=oJ i r (t.kind==14) d t.r
  by_cases h0:(al1 i r (t.kind==14) d t.r).2=0
  ·grind [rB,jF,ad,aP,Rj,sb]
  ·have hze:toE (al1 i r (t.kind==14) d t.r)= .error (al1 i r (t.kind==14) d t.r).2:=iO h0
   have hen:=Bu (hz.symm.trans hze)
   rw [bG,decide_eq_false h0,Bool.not_false,ae,hze,amu hen];rfl
def ame (i:Int) (r:List Cl) (t:Tm):Except Int Tm:=bE (toE (agS r i 1)) fun s=>ab7 (foX i s false) (foX i s true) 0 t
theorem ws {i:Int} {r:List Cl} {t:Tm} {e:Int} (h:ame i r t= .error e):0<e∧e≤1000:=by
 rcases be h with h|⟨s,_,h⟩
 ·grind [B0,q_,EN]
 ·exact jK pR pR t h
theorem TZ {i:Int} {r:List Cl} {t y:Tm} (h:ame i r t= .ok y):y.kind=t.kind:=by
 obtain ⟨s,_,h⟩:=sm h
 exact Ja h
theorem Ra (hk:F3 k) {t:Tm} (ht:Fm t) {i:Int} (hi:0≤i∧i<24) {r:List Cl} (hr:RF r) (ret:Tm×Int→Option S):m_ k t i r ret=ret (tE (ame i r t)):=by
 have l2:=hr.len
 have hdp:=ht.dep
 simp only [m_,Sl,ag hk.fu,ar,DM,Sx,amv ht.ok (ht.fd hk) (show am t<1099511627776 by omega),ht.2,ai7 hk.fu,rH hk.fu hr.2 hr.lt,hr.right,decide_eq_true hi,vX hk.fu hr.2 (show r.length<1073741824 by omega) (show aG i by unfold aG;omega) (show aG 1 by unfold aG;omega),DF,Sp,DG,Ss,DH,Su,DE,So]
 rw [show ((0:Int)==0)=true from rfl,Bool.not_true,ad,ad,ad,ad]
 rw [amt _ ret]
 unfold ame
 rw [sb]
 by_cases h0:(agS r i 1).2=0
 ·have hs:=kQ h0
  rw [bG,decide_eq_true h0,Bool.not_true,ad,jF h0,aP,ahW hi hs t ht.ok ht.rows _ (ht.fd hk) (by omega) (by omega)]
  refine Eq.trans (anT (α:=Option S) (β:=Unit) _ (fun e he=>jK jD jD t he) (fun x=>dT k x 0 i fun r6=>ret (r6.1,r6.2)) fun e=>ret (ao,e)) ?_
  have htw:=alm (fo:=acJ i (agS r i 1).1 false) (fa:=acJ i (agS r i 1).1 true) (G:=yw i) (fun d f g hf h=>rB hf h) (fun d f hf=>JE hf) t 0 ht.rows
  show _=eE (ab7 (da (acJ i (agS r i 1).1 false) (yw i)) (da (acJ i (agS r i 1).1 true) (yw i)) 0 t) _ _
  rw [←htw,sb]
  refine ad3 (fun x hx=> ?_) fun e _=>rfl
  have hw:=Uj (fun d f g hf h=>rB hf h) (fun d f g hf h=>rB hf h) (fun d=>QI) t 0 x hx
  obtain ⟨w1,w2,w3,w4⟩:=hw
  obtain ⟨hox,hrx⟩:=w4 ht.ok ht.rows
  rw [aar hi x hox hrx _ (hk.fd (by omega)) (by omega) (by omega)]
  exact amt _ ret
 ·rw [bG,decide_eq_false h0,Bool.not_false,ae,iO h0];rfl
theorem Q2 (hk:F3 k) {t:Tm} (ht:Fm t) {i:Int} (hi:0≤i∧i<24) {r:List Cl} (hr:RF r) (ret:Tm→Option S):py k t i r ret=ret (rE (ame i r t)):=by
 have l2:=hr.len
 have hdp:=ht.dep
 simp only [py,TC,ag hk.fu,ar,BB hk.fu hr.2 (show r.length<1073741824 by omega) (show aG i by unfold aG;omega) (show aG 1 by unfold aG;omega)]
 rw [decide_eq_false (by have:=ht.rows.no.2.2;omega),ad,amW _ ret]
 unfold ame
 rw [sb]
 by_cases h0:(agS r i 1).2=0
 ·have hs:=kQ h0
  rw [bG,decide_eq_true h0,Bool.not_true,ad,jF h0,aP,ajA hi hs t ht.ok ht.rows _ (ht.fd hk) (by omega) (by omega),amW _ ret]
 ·have hze:toE (agS r i 1)= .error (agS r i 1).2:=iO h0
  have hen:0<(agS r i 1).2∧(agS r i 1).2≤1000:=by
   grind [q_,EN]
  rw [bG,decide_eq_false h0,Bool.not_false,ae,hze,amu hen];rfl
end Go.Proofs.YtfkkpkhfjpaafaaGreatDoor
namespace Go.Proofs.YtfkkpkhfjpaafaaGreatDoor
open Go PI
set_option linter.unusedVariables false
set_option linter.unusedSimpArgs false
set_option maxRecDepth 20000
variable {S:Type} {k:Nat}
def In (k:Nat) (t:Tm):Prop:=OkT t∧Fd k (am t)∧au t<1099511627776
theorem In.dep {t:Tm} (h:In k t):am t<1099511627776:=by have:=zG t;have:=h.2.2;omega
theorem Fm.isIn {t:Tm} (h:Fm t) (hk:F3 k):In k t:=⟨h.ok,h.fd hk,by have:=h.siz;omega⟩
def alE:List Tm→Int
 |[]=>0
 |t::l=>if bw t=0 then alE l else bw t
theorem wh {l:List Tm} (hl: ∀t∈l,OkT t) (h:alE l=0): ∀t∈l,Fm t:=by
 induction l with
 |nil=>simp
 |cons x l ih=>
  intro t ht
  unfold alE at h
  split at h
  ·next h0=>
   rcases List.mem_cons.1 ht with rfl|ht
   ·exact ⟨hl _ (by simp),h0⟩
   grind
  omega
theorem aki (l:List Tm):0≤alE l∧alE l≤1000:=by
 induction l with
 |nil=>grind [alE]
 |cons x l ih=>
  unfold alE
  split<;>simp_all [Et]
theorem rI (c e:Int) (ret:Int→Option S):iZ k e c ret=ret (if c=0 then e else c):=by
 grind [iZ,Sa,aY]
theorem aem (hk:Fu k) (ret:Int→Option S) {l:List Tm} (hl: ∀t∈l,In k t) (hlen:l.length<1000):
  ∀ (r p:List Tm) (m:Nat) (b:Int),l=p++r→r.length<m→pY k ret l m b (p.length:Int)=ret (if b=0 then alE r else b):=by
 intro r
 induction r with
 |nil=>
  grind [km,pY,wL,ad,alE]
 |cons x r ih=>
  intro p m b h hm
  obtain ⟨m,rfl,hm'⟩:=km hm
  obtain ⟨e1,e2,e3,e4⟩:=ln h (by omega)
  have hx:=hl x (by grind)
  simp only [pY,wL,e1,ae,e2,Option.bind_some,ag hk,ar,amv hx.1 hx.2.1 hx.dep,rI,e3,ih (p++[x]) m _ e4 hm',alE]
  grind
theorem Re (hk:F3 k) {l:List Tm} (hl: ∀t∈l,In k t) (hlen:l.length<1000) (ret:Int→Option S):m9 k l ret=ret (alE l):=by
 simp only [m9,Hs]
 have:=aem hk.fu ret hl hlen l [] k 0 rfl (by omega)
 simp_all
theorem af7 (hk:Fu k) (ret:Int→Option S) {l:List Tm} (hl: ∀t∈l,In k t) (hlen:l.length<1000):
  ∀ (r p:List Tm) (m:Nat),l=p++r→r.length<m→anz k ret l m (p.length:Int)=ret (alE r):=by
 intro r
 induction r with
 |nil=>
  grind [km,anz,xZ,ad,alE]
 |cons x r ih=>
  intro p m h hm
  obtain ⟨m,rfl,hm'⟩:=km hm
  obtain ⟨e1,e2,e3,e4⟩:=ln h (by omega)
  have hx:=hl x (by grind)
  simp only [anz,xZ,e1,ae,e2,Option.bind_some,ag hk,ar,anQ hx.1 hx.2.1 (show au x<1099511627776 by have:=hx.2.2;omega),e3,ih (p++[x]) m e4 hm',alE,bG]
  grind [ad,ae]
theorem aiW (hk:F3 k) {l:List Tm} (hl: ∀t∈l,In k t) (hlen:l.length<1000) (ret:Int→Option S):pz k l ret=ret (alE l):=by
 simp only [pz,II]
 exact af7 hk.fu ret hl hlen l [] k rfl (by omega)
def di (r:List Cl) (line:Tm):Except Int Tm:=bE (acr 0 2 0 1 line) (ame 0 r)
theorem li {r:List Cl} {t:Tm} {e:Int} (h:di r t= .error e):0<e∧e≤1000:=by
 rcases be h with h|⟨s,_,h⟩
 ·exact amo t h
 ·exact ws h
theorem Jn {r:List Cl} {t y:Tm} (h:di r t= .ok y):y.kind=t.kind:=by
 obtain ⟨s,h1,h⟩:=sm h
 rw [TZ h,am8 h1]
theorem acW {i:Int} {r:List Cl} {fa:Bool} {d:Int} {f g:List Cl} (hf:RF f) (h:foX i r fa d f= .ok g):RF g:=by
 rw [uz] at h
 obtain ⟨m,h1,h⟩:=sm h
 injection h with h;subst h
 exact aad (rB hf h1).len
theorem acV {i:Int} {r:List Cl} {fa:Bool} (d:Int):foX i r fa d []= .ok []:=by
 rw [uz,QI,aD];rfl
theorem T0 {i:Int} {r:List Cl} {t y:Tm} (h:ame i r t= .ok y):Wk t y:=by
 obtain ⟨s,_,h⟩:=sm h
 grind [Uj,acW,acV]
theorem Jo {r:List Cl} {t y:Tm} (ht:Fm t) (h:di r t= .ok y):OkT y∧RowsT y∧am y≤200∧au y≤20000:=by
 obtain ⟨s,h1,h⟩:=sm h
 have hs:=jr (by omega) ht h1
 obtain ⟨w1,w2,w3,w4⟩:=T0 h
 have h4:=w4 hs.ok hs.rows
 have:=hs.dep;have:=hs.siz
 grind
section
variable {c:Int}
theorem ai2 (hc:c≠0) (hk:F3 k) (l:Tm) (r:List Cl) (ret:Tm×Int→Option S):lr k l r c ret=ret (ao,c):=by
 simp only [lr,Ht,ag hk.fu,de,gn,bG,decide_eq_false hc,Bool.not_false,ae];rfl
theorem Hh (hc:c≠0) (hk:F3 k) (l:Tm) (a b:Int) (ret:Tm×Int→Option S):hU k l a b c ret=ret (ao,c):=by
 simp only [hU,Hv,ag hk.fu,de,gn,bG,decide_eq_false hc,Bool.not_false,ae];rfl
theorem rG (hc:c≠0) (hk:F3 k) (l:Tm) (ret:Tm×Int×Int→Option S):eQ k l c ret=ret (ao,c,c):=by
 simp only [eQ,Hu,ag hk.fu,de,gn,bG,decide_eq_false hc,Bool.not_false,ae,ad];rfl
end
theorem ajX (hk:F3 k) {f:List Cl} (hf:aq f) (hl:f.length<1073741824) (ret:List Cl×Int→Option S):tA k f 0 ret=ret (agS f 0 1):=by
 simp only [tA,Sc,ag hk.fu,de,gn,vX hk.fu hf hl (show aG 0 by unfold aG;omega) (show aG 1 by unfold aG;omega),rI,if_true]
 rfl
theorem RW (hk:F3 k) {t:Tm} (ht:Fm t) {a b:Int} (ha:0≤a∧a≤1000000) (hb:0≤b∧b<9223372036854775808) (ret:Tm×Int→Option S):hU k t a b 0 ret=ret (tE (su a b t)):=by
 simp only [hU,Hv,ag hk.fu,de,gn,ar,He hk ht ha hb,rI,if_true]
 rfl
theorem Rd (hk:F3 k) {t:Tm} (ht:Fm t) {r:List Cl} (hr:RF r) (ret:Tm×Int→Option S):lr k t r 0 ret=ret (tE (di r t)):=by
 simp only [lr,Ht,ag hk.fu,de,gn,ar,Rr hk ht (show (0:Int)≤1∧(1:Int)≤24 by omega) (show (0:Int)≤2∧(2:Int)<9223372036854775808 by omega),rI,if_true]
 rw [show ((0:Int)==0)=true from rfl,Bool.not_true,ad,amt _ ret]
 unfold di
 rw [sb]
 cases hx:acr 0 2 0 1 t with
 |error e=>
  have:=amo t hx
  show ab (!(e==0)) (ret (ao,e)) _=_
  rw [bG,decide_eq_false (by omega),Bool.not_false,ae];rfl
 |ok y=>
  have hy:=jr (by omega) ht hx
  show ab (!((0:Int)==0)) _ (m_ k y 0 r fun r5=>ret (r5.1,if (0:Int)=0 then r5.2 else 0))=_
  simp_all [ad,Ra,aP,amt]
theorem ai9 (hk:F3 k) {t:Tm} (ht:In k t) (ret:Tm×Int×Int→Option S):eQ k t 0 ret=ret (if bw t=0 then (t,0,0) else (ao,bw t,bw t)):=by
 simp only [eQ,Hu,ag hk.fu,de,gn,ar,amv ht.1 ht.2.1 ht.dep,rI,if_true]
 rw [show ((0:Int)==0)=true from rfl,ae,bG]
 by_cases h0:bw t=0
 ·grind [ad]
 ·rw [decide_eq_false h0,if_neg h0,Bool.not_false,ae];rfl
def al_ (x:Except Int Tm):Except Int Tm:=bE x fun t=>if bw t=0 then .ok t else .error (bw t)
theorem T2 {z:List Cl×Int} (hz:EN z.2) {e:Int} (h:toE z= .error e):0<e∧e≤1000:=by
 grind [B0,EN]
theorem Q5 (hk:F3 k) {t:Tm} (ht:Fm t) {r:List Cl} (hr:RF r) (ret:Tm→Option S):ni k t r ret=ret (rE (di r t)):=by
 simp only [ni,TG,ag hk.fu,ar,ajy hk ht (show (0:Int)≤1∧(1:Int)≤24 by omega) (show (0:Int)≤2∧(2:Int)<9223372036854775808 by omega)]
 rw [decide_eq_false (by have:=ht.rows.no.2.2;omega),ad,amW _ ret]
 unfold di
 rw [sb]
 cases hx:acr 0 2 0 1 t with
 |error e=>
  have:=amo t hx
  show ab (!(e==0)) (alY k e _) _=ret (bh e)
  rw [bG,decide_eq_false (by omega),Bool.not_false,ae,amu this];rfl
 |ok y=>
  have hy:=jr (by omega) ht hx
  show ab (!((0:Int)==0)) _ (py k y 0 r fun r3=>ret r3)=_
  grind [ad,Q2,aP,amW]
theorem LA (hk:Fu k) (ret:Tm→Option S) {kd:Int} {l:List Tm} (hlen:l.length<1000):
  ∀ (r p:List Tm) (m:Nat),l=p++r→r.length<m→anx k ret kd l m (p.length:Int)=ret (match r.find? fun x=>decide (x.kind<0) with|some x=>x|none=> .mk kd 0 ByteArray.empty [] l []):=by
 intro r
 induction r with
 |nil=>
  grind [km,anx,xY,ad]
 |cons x r ih=>
  intro p m h hm
  obtain ⟨m,rfl,hm'⟩:=km hm
  obtain ⟨e1,e2,e3,e4⟩:=ln h (by omega)
  grind [anx,xY,ae,ar,ad]
theorem aiZ (hk:F3 k) {kd:Int} {x y:Except Int Tm} (hx: ∀e,x= .error e→0<e) (hx': ∀t,x= .ok t→0≤t.kind) (hy: ∀e,y= .error e→0<e) (hy': ∀t,y= .ok t→0≤t.kind) (ret:Tm→Option S):
  gH k kd (rE x) (rE y) ret=ret (rE (bE x fun a=>bE y fun b=> .ok (.mk kd 0 ByteArray.empty [] [a,b] []))):=by
 simp only [gH,TI,ag hk.fu,ar,ue,BX]
 have:=LA hk.fu ret (kd:=kd) (l:=[rE x,rE y]) (by simp) [rE x,rE y] [] k rfl (by grind)
 refine Eq.trans this ?_
 congr 1
 rw [List.find?_cons,List.find?_cons]
 cases x with
 |error e=>rw [show rE (.error e)=bh e from rfl,amC (hx e rfl)];rfl
 |ok a=>
  rw [show rE (.ok a)=a from rfl,decide_eq_false (by grind),aD]
  cases y with
  |error e=>rw [show rE (.error e)=bh e from rfl,amC (hy e rfl)];rfl
  |ok b=>rw [show rE (.ok b)=b from rfl,decide_eq_false (by grind)];rfl
theorem B1 {a b:Int} {t y:Tm} (h:su a b t= .ok y):y.kind=t.kind:=by
 obtain ⟨s,h1,h⟩:=sm h
 rw [am8 h,am8 h1]
theorem Q3 (hk:F3 k) {x:Except Int Tm} (hx: ∀e,x= .error e→0<e∧e≤1000) (hx': ∀t,x= .ok t→In k t∧0≤t.kind) (ret:Tm×Int→Option S):nh k (rE x) ret=ret (tE (al_ x)):=by
 simp only [nh,TF,ag hk.fu,ar]
 unfold al_
 cases x with
 |error e=>
  have he:=hx e rfl
  rw [show rE (.error e)=bh e from rfl,amC he.1,ae,aaf (show-9223372036854775808≤0-(bh e).kind by show _≤0-(-e);omega) (by show 0-(-e)<_;omega)]
  show ret (ao,0-(-e))=ret (ao,e)
  simp
 |ok t=>
  obtain ⟨hin,hkd⟩:=hx' t rfl
  rw [show rE (.ok t)=t from rfl,decide_eq_false (by omega),ad,anQ hin.1 hin.2.1 (by have:=hin.2.2;omega),aD,bG]
  by_cases h0:bw t=0
  ·rw [decide_eq_true h0,Bool.not_true,ad,if_pos h0];rfl
  ·rw [decide_eq_false h0,Bool.not_false,ae,if_neg h0];rfl
end Go.Proofs.YtfkkpkhfjpaafaaGreatDoor
namespace Go.Proofs.YtfkkpkhfjpaafaaGreatDoor
open Go PI
set_option maxRecDepth 100000
theorem alo {S:Type} (q:Nat) (ret:Bool→Option S):tM (q+400) ret=ret true:=by kernel_rfl
theorem aj2 {S:Type} {k:Nat} (hk:F3 k) (ret:Bool→Option S):tM k ret=ret true:=by
 have hk:4294968296≤k:=hk
 obtain ⟨q,rfl⟩: ∃q,k=q+400:=⟨k-400,by omega⟩
 exact alo q ret
end Go.Proofs.YtfkkpkhfjpaafaaGreatDoor
namespace Go.Proofs.YtfkkpkhfjpaafaaGreatDoor
open Go PI
set_option linter.unusedVariables false
set_option linter.unusedSimpArgs false
set_option maxRecDepth 20000
variable {S:Type} {k:Nat}
theorem Rh {l:List Cl} (hl:l.length<1073741824) (ret:List Cl→Option S):rj l ret=ret l:=by
 grind [rj,sf]
section
variable {hd:Tm→(Tm→Option S)→Option S}
theorem aev (hk:Fu k) (ret:List Tm→Option S) {l:List Tm} (hQ: ∀y∈l,∀g,hd y g=g y) (hl:l.length<1073741824):
  ∀ (r p:List Tm) (m:Nat),l=p++r→r.length<m→qR hd k ret l m p (p.length:Int)=ret l:=by
 intro r
 induction r with
 |nil=>
  grind [km,qR,yf,ad]
 |cons y r ih=>
  intro p m h hm
  obtain ⟨m,rfl,hm'⟩:=km hm
  obtain ⟨e1,e2,e3,e4⟩:=ln h (by omega)
  grind [qR,yf,ae,ar,sf]
theorem Ri (hk:Fu k) {l:List Tm} (hQ: ∀y∈l,∀g,hd y g=g y) (hl:l.length<1073741824) (ret:List Tm→Option S):ui hd k l ret=ret l:=by
 simp only [ui,IS]
 exact aev hk ret hQ hl l [] k rfl (by omega)
theorem aew (hk:Fu k) (ret:Tm→Option S) {t:Tm} (ht:OkT t) (hQ: ∀b∈t.sys,∀y∈b.kids,∀g,hd y g=g y) (r1:List Cl) (r2:List Tm):
  ∀ (r p:List (Br Tm)) (m:Nat),t.sys=p++r→r.length<m→qQ hd k ret t r1 r2 m p (p.length:Int)=ret (.mk t.kind t.n t.name r1 r2 t.sys):=by
 obtain ⟨o1,o2,o3,o4,o5,o6,o7⟩:=ht.no
 intro r
 induction r with
 |nil=>
  grind [km,qQ,ye,ad]
 |cons y r ih=>
  intro p m h hm
  obtain ⟨m,rfl,hm'⟩:=km hm
  obtain ⟨e1,e2,e3,e4⟩:=ln h (by omega)
  have hy:y∈t.sys:=by grind
  have hb:=(ht.bi hy).1
  have hlen:p.length+r.length+1=t.sys.length:=by grind
  simp only [qQ,ye,e1,ae,e2,Option.bind_some,ar,e3,Rh hb.2.1,ag hk,Ri hk (hQ y hy) hb.2.2]
  rw [sf (by grind)]
  have:=ih (p++[y]) m e4 hm'
  omega
end
theorem vU (t:Tm):OkT t→ ∀ {k:Nat} (ret:Tm→Option S),Fd k (am t)→dJ k t ret=ret t:=by
 induction t using c7 with
 |h t ih1 ih2=>
  intro ht k ret hk
  obtain ⟨q,rfl,hq,hf⟩:=hk.pos' (alF t)
  obtain ⟨o1,o2,o3,o4,o5,o6,o7⟩:=ht.no
  simp only [dJ,IP,Rh o5,ag hq,Ri hq (fun y hy g=>ih1 y hy (ht.ki hy) g (hf _ (bY hy))) o6]
  have:=aew hq ret ht (fun b hb y hy g=>ih2 b hb y hy ((ht.bi hb).2 y hy) g (hf _ (b8 hb hy))) t.r t.kids t.sys [] q rfl (by omega)
  refine Eq.trans this ?_
  cases t;rfl
theorem ahz {v d d':Int} (h:24≤d) (h':24≤d') (t:Tm):cL v d t=cL v d' t:=by
 have hb: ∀kd,bX kd d=bX kd d':=fun kd=>by grind [bX,Av]
 simp_all [cL,Av]
theorem m0 (t:Tm): ∀ {v d d':Int},24≤d→24≤d'→a6 false v d t=a6 false v d' t:=by
 induction t using c7 with
 |h t ih1 ih2=>
  intro v d d' h h'
  rw [wI,wI,ahz h h']
  have hK: ∀ (l:List Tm) (i:Nat),(∀x∈l,x∈t.kids)→bO false v d t.kind i l=bO false v d' t.kind i l:=by
   intro l
   induction l<;>grind [bO,bJ]
  grind [wH,av]
end Go.Proofs.YtfkkpkhfjpaafaaGreatDoor
namespace Go.Proofs.YtfkkpkhfjpaafaaGreatDoor
open Go PI
set_option linter.unusedVariables false
set_option linter.unusedSimpArgs false
set_option maxRecDepth 20000
variable {S:Type} {k:Nat}
theorem QD:RF [⟨3,0⟩]:=gS ⟨⟨by decide,by decide⟩,by decide,by decide⟩
theorem ag0:aX ⟨0,1⟩:=⟨⟨by decide,by decide⟩,by decide,by decide⟩
theorem ag1:aX ⟨1,0⟩:=⟨⟨by decide,by decide⟩,by decide,by decide⟩
theorem agT:OkT ao:=by
 unfold ao
 rw [OkT,aZ,ba]
 exact ⟨⟨by unfold aG;omega,by unfold aG;omega,by simp,fun c hc=>(by cases hc),by simp,by simp,by simp⟩,trivial,trivial⟩
theorem gQ (hk:F3 k):In k ao:=⟨agT,hk.fd (by grind [ao,am,aH,aO]),by grind [ao,au,ay,aI]⟩
end Go.Proofs.YtfkkpkhfjpaafaaGreatDoor
namespace Go.Proofs.YtfkkpkhfjpaafaaGreatDoor
open Go PI
set_option linter.unusedVariables false
set_option linter.unusedSimpArgs false
set_option maxRecDepth 20000
variable {S:Type} {k:Nat}
theorem Hl (t:Tm):au t=1+ay t.kids+aI t.sys:=by cases t;rfl
section
variable {hd:Tm→Int→(Int→Option S)→Option S} {t:Tm}
end
end Go.Proofs.YtfkkpkhfjpaafaaGreatDoor
namespace Go.Proofs.YtfkkpkhfjpaafaaGreatDoor
open Go PI
set_option linter.unusedVariables false
set_option linter.unusedSimpArgs false
set_option maxRecDepth 20000
variable {S:Type} {k:Nat}
def tmK (kd:Int) (l:List Tm):Tm:= .mk kd 0 ByteArray.empty [] l []
def mE (c a b:Int) (t:Tm):Tm×Int:=if c=0 then tE (su a b t) else (ao,c)
def tmE (p:Tm×Int):Except Int Tm:=if p.2=0 then .ok p.1 else .error p.2
theorem wz {c a b:Int} {t:Tm} (h:c≠0):mE c a b t=(ao,c):=if_neg h
theorem ak3 {c a b:Int} {t:Tm} (h:(mE c a b t).2=0):c=0:=by
 grind [wz]
theorem T9 (a b:Int) (t:Tm):mE 0 a b t=tE (su a b t):=rfl
theorem RV (hk:F3 k) {c:Int} {t:Tm} (h:c=0→Fm t) {a b:Int} (ha:0≤a∧a≤1000000) (hb:0≤b∧b<9223372036854775808) (ret:Tm×Int→Option S):hU k t a b c ret=ret (mE c a b t):=by
 by_cases hc:c=0
 ·subst hc;exact RW hk (h rfl) ha hb ret
 grind [Hh,wz]
theorem Rk (hk:F3 k) {t:Tm} {c:Int} (h:c=0→In k t) (ret:Tm×Int→Option S):(eQ k t c fun r=>ret (r.1,r.2.1))=ret (tE (al_ (tmE (t,c)))):=by
 by_cases hc:c=0
 ·subst hc
  rw [ai9 hk (h rfl)]
  show _=ret (tE (al_ (.ok t)))
  unfold al_
  rw [aD]
  by_cases h0:bw t=0
  ·rw [if_pos h0,if_pos h0];rfl
  ·rw [if_neg h0,if_neg h0];rfl
 ·rw [rG hc hk]
  show _=ret (tE (al_ (if c=0 then _ else _)))
  rw [if_neg hc];rfl
theorem ag2 {kd:Int} (hkd:0≤kd∧kd≤28) {l:List Tm} (hl:l.length<10) (h: ∀x∈l,OkT x):OkT (tmK kd l):=by
 unfold tmK
 rw [OkT,okK_iff,ba]
 exact ⟨⟨by unfold aG;omega,by unfold aG;omega,by simp,fun c hc=>(by cases hc),by simp,by omega,by simp⟩,h,trivial⟩
def Fd2 (n m:Nat) (t:Tm):Prop:=OkT t∧a6 false (-1) 24 t=true∧am t≤n∧au t≤m
theorem Fd2.fm {n m:Nat} {t:Tm} (h:Fd2 n m t) (hn:n≤200) (hm:m≤20000):Fm t:=⟨h.1,pS (by have:=h.2.2.1;omega) (by have:=h.2.2.2;omega) h.2.1⟩
theorem Fd2.isIn {n m:Nat} {t:Tm} (h:Fd2 n m t) (hk:F3 k) (hn:n≤1000) (hm:m≤1000000):In k t:=⟨h.1,hk.fd (by have:=h.2.2.1;omega),by have:=h.2.2.2;omega⟩
theorem Fm.f2 {t:Tm} (h:Fm t):Fd2 200 20000 t:=⟨h.1,(eU h.2).2.2,(eU h.2).1,(eU h.2).2.1⟩
theorem Fd2.mono {n m n' m':Nat} {t:Tm} (h:Fd2 n m t) (hn:n≤n') (hm:m≤m'):Fd2 n' m' t:=⟨h.1,h.2.1,by have:=h.2.2.1;omega,by have:=h.2.2.2;omega⟩
theorem Fd2.up {n m:Nat} {t t':Tm} (h:Fd2 n m t) {a b:Int} (ha:0≤a∧a≤1000000000) (hl:su a b t= .ok t'):Fd2 n m t':=by
 obtain ⟨u,h1,h2⟩:=sm hl
 obtain ⟨p1,p2,p3,p4⟩:=uP ha.1 ha.2 t 0 0 u h1
 obtain ⟨q1,q2,q3,q4⟩:=uP (by omega) (by omega) u 0 0 t' h2
 have w:=p4 h.1
 have w2:=q4 w.1
 have ho:=w.2.2 24 24 (by omega) (by omega) h.2.1
 exact ⟨w2.1,w2.2.2 24 24 (by omega) (by omega) ho,by have:=h.2.2.1;omega,by have:=h.2.2.2;omega⟩
end Go.Proofs.YtfkkpkhfjpaafaaGreatDoor
namespace Go.Proofs.YtfkkpkhfjpaafaaGreatDoor
open Go PI
set_option linter.unusedVariables false
set_option linter.unusedSimpArgs false
set_option maxRecDepth 20000
variable {S:Type} {k:Nat}
mutual
def ac4 (n:Int):Tm→Nat
 | .mk kd m _ _ ks sys=>(if kd=1∧m=n then 1 else 0)+(cE n kd 0 ks+cv n sys)
def cE (n kd:Int) (i:Nat):List Tm→Nat
 |[]=>0
 |t::l=>ac4 (n+bz kd i) t+cE n kd (i+1) l
def cv (n:Int):List (Br Tm)→Nat
 |[]=>0
 |b::l=>Dv n b+cv n l
def Dv (n:Int):Br Tm→Nat
 | .mk _ ks=>dc n ks
def dc (n:Int):List Tm→Nat
 |[]=>0
 |t::l=>ac4 n t+dc n l
end
mutual
def akT (n:Int) (u:Tm) (v d:Int):Tm→Except Int Tm
 | .mk kd m nm r ks sys=>if kd=1∧m=n+v then su v d u else bE (dX n u v d kd 0 ks) fun ks'=>bE (dn n u v d kd sys) fun sys'=> .ok (.mk kd (if kd=1∧m>n+v then m-1 else m) nm r ks' sys')
def dX (n:Int) (u:Tm) (v d kd:Int) (i:Nat):List Tm→Except Int (List Tm)
 |[]=> .ok []
 |t::l=>bE (akT n u (v+bz kd i) (d+bJ kd i) t) fun t'=>bE (dX n u v d kd (i+1) l) fun l'=> .ok (t'::l')
def dn (n:Int) (u:Tm) (v d kd:Int):List (Br Tm)→Except Int (List (Br Tm))
 |[]=> .ok []
 |b::l=>bE (AJ n u v d kd b) fun b'=>bE (dn n u v d kd l) fun l'=> .ok (b'::l')
def AJ (n:Int) (u:Tm) (v d kd:Int):Br Tm→Except Int (Br Tm)
 | .mk f ks=>bE (amj n u v d kd ks) fun ks'=> .ok (.mk f ks')
def amj (n:Int) (u:Tm) (v d kd:Int):List Tm→Except Int (List Tm)
 |[]=> .ok []
 |t::l=>bE (akT n u v (d+av kd) t) fun t'=>bE (amj n u v d kd l) fun l'=> .ok (t'::l')
end
def ams (n:Int) (t u:Tm):Except Int Tm:=if au t+ac4 n t*(au u-1)>20000 then .error 221 else bE (akT n u 0 0 t) fun o=>if am o>200 then .error 62 else .ok o
def Pg (n:Int) (u x x':Tm):Prop:=OkT x'∧a6 false (-1) 24 x'=true∧au x'=au x+ac4 n x*(au u-1)∧am x'≤am x+am u
abbrev wF (n:Int) (u x:Tm):Prop:= ∀ {v d:Int} {o:Tm},0≤v→0≤d→v+am x≤1000→OkT x→a6 false (-1) 24 x=true→akT n u v d x= .ok o→Pg (n+v) u x o
section
variable {n v d kd:Int} {u:Tm}
theorem ahA: ∀ {l l':List Tm} {i:Nat},(∀x∈l,wF n u x)→0≤v→0≤d→v+aH l+1≤1000→aZ l→bO false (-1) 24 kd i l=true→dX n u v d kd i l= .ok l'→
  aZ l'∧bO false (-1) 24 kd i l'=true∧ay l'=ay l+cE (n+v) kd i l*(au u-1)∧aH l'≤aH l+am u∧l'.length=l.length:=by
 intro l
 induction l with
 |nil=>intro l' i _ _ _ _ _ _ h;rw [dX] at h;injection h with h;subst h;rw [aZ,bO,cE,ay,aH];simp
 |cons t l ih=>
  intro l' i h hv hd hb ho ha hl
  rw [dX] at hl
  obtain ⟨t',e1,hl⟩:=sm hl
  obtain ⟨m,e2,hl⟩:=sm hl
  injection hl with hl;subst hl
  rw [aZ] at ho
  rw [bO,Bool.and_eq_true] at ha
  rw [aH] at hb
  have b1:=g7 kd i;have b2:=gr kd i
  have ha1:a6 false (-1) 24 t=true:=by
   have:=ha.1
   rw [B2,m0 t (by omega) (Int.le_refl 24)] at this;exact this
  obtain ⟨p1,p2,p3,p4⟩:=h t (by simp) (v:=v+bz kd i) (d:=d+bJ kd i) (by omega) (by omega) (by omega) ho.1 ha1 e1
  obtain ⟨q1,q2,q3,q4,q5⟩:=ih (fun x hx=>h x (by simp [hx])) hv hd (by omega) ho.2 ha.2 e2
  rw [aZ,bO,cE,ay,ay,aH,aH,List.length_cons,List.length_cons]
  refine ⟨⟨p1,q1⟩, ?_, ?_,by omega,by omega⟩
  ·rw [Bool.and_eq_true,B2,m0 t' (show (24:Int)≤24+bJ kd i by omega) (Int.le_refl 24)];exact ⟨p2,q2⟩
  ·rw [p3,q3,Nat.add_mul,Int.add_assoc];omega
theorem ahB: ∀ {l l':List Tm},(∀x∈l,wF n u x)→0≤v→0≤d→v+aH l+1≤1000→aZ l→ca false (-1) 24 kd l=true→amj n u v d kd l= .ok l'→
  aZ l'∧ca false (-1) 24 kd l'=true∧ay l'=ay l+dc (n+v) l*(au u-1)∧aH l'≤aH l+am u∧l'.length=l.length:=by
 intro l
 induction l with
 |nil=>intro l' _ _ _ _ _ _ h;rw [amj] at h;injection h with h;subst h;rw [aZ,ca,dc,ay,aH];simp
 |cons t l ih=>
  intro l' h hv hd hb ho ha hl
  rw [amj] at hl
  obtain ⟨t',e1,hl⟩:=sm hl
  obtain ⟨m,e2,hl⟩:=sm hl
  injection hl with hl;subst hl
  rw [aZ] at ho
  rw [ca,Bool.and_eq_true] at ha
  rw [aH] at hb
  have b2:=dy kd
  have ha1:a6 false (-1) 24 t=true:=by
   have:=ha.1
   rw [m0 t (by omega) (Int.le_refl 24)] at this;exact this
  obtain ⟨p1,p2,p3,p4⟩:=h t (by simp) (v:=v) (d:=d+av kd) (by omega) (by omega) (by omega) ho.1 ha1 e1
  obtain ⟨q1,q2,q3,q4,q5⟩:=ih (fun x hx=>h x (by simp [hx])) hv hd (by omega) ho.2 ha.2 e2
  rw [aZ,ca,dc,ay,ay,aH,aH,List.length_cons,List.length_cons]
  refine ⟨⟨p1,q1⟩, ?_, ?_,by omega,by omega⟩
  ·rw [Bool.and_eq_true,m0 t' (show (24:Int)≤24+av kd by omega) (Int.le_refl 24)];exact ⟨p2,q2⟩
  ·rw [p3,q3,Nat.add_mul];omega
theorem ahC: ∀ {l l':List (Br Tm)},(∀b∈l,∀x∈b.kids,wF n u x)→0≤v→0≤d→v+aO l+1≤1000→ba l→ck false (-1) 24 kd l=true→dn n u v d kd l= .ok l'→
  ba l'∧ck false (-1) 24 kd l'=true∧aI l'=aI l+cv (n+v) l*(au u-1)∧aO l'≤aO l+am u∧l'.length=l.length∧l'.all (bX kd 24)=l.all (bX kd 24):=by
 intro l
 induction l with
 |nil=>intro l' _ _ _ _ _ _ h;rw [dn] at h;injection h with h;subst h;rw [ba,ck,cv,aI,aO];simp
 |cons b l ih=>
  intro l' h hv hd hb ho ha hl
  rw [dn] at hl
  obtain ⟨b',e1,hl⟩:=sm hl
  obtain ⟨m,e2,hl⟩:=sm hl
  injection hl with hl;subst hl
  obtain ⟨f,ks⟩:=b
  rw [AJ] at e1
  obtain ⟨ks',e3,e1⟩:=sm e1
  injection e1 with e1;subst e1
  rw [ba,fc] at ho
  rw [ck,jT,Bool.and_eq_true] at ha
  rw [aO,eB] at hb
  obtain ⟨q1,q2,q3,q4,q5,q6⟩:=ih (fun b hb=>h b (by simp [hb])) hv hd (by omega) ho.2 ha.2 e2
  obtain ⟨p1,p2,p3,p4,p5⟩:=ahB (n:=n) (u:=u) (kd:=kd) (l:=ks) (h ⟨f,ks⟩ (by simp)) hv hd (by omega) ho.1.2 ha.1 e3
  rw [ba,fc,ck,jT,cv,Dv,aI,aI,fG,fG,aO,aO,eB,eB,List.length_cons,List.length_cons,List.all_cons,List.all_cons,q6]
  refine ⟨⟨⟨⟨ho.1.1.1,ho.1.1.2.1,by rw [p5];exact ho.1.1.2.2⟩,p1⟩,q1⟩,by rw [Bool.and_eq_true];exact ⟨p2,q2⟩, ?_,by omega,by omega, ?_⟩
  ·rw [p3,q3,Nat.add_mul];omega
  ·have:bX kd 24 ⟨f,ks'⟩=bX kd 24 ⟨f,ks⟩:=by unfold bX;simp only [p5]
   rw [this]
theorem F8 (hu:Fm u) (hn:0≤n) (t:Tm):wF n u t:=by
 induction t using gq with
 |h kd m nm r ks sys ih1 ih2=>
  intro v d o hv hd hb hok ha h
  rw [akT] at h
  have hok':=hok
  rw [OkT] at hok
  rw [am] at hb
  have ha':=ha
  rw [a6] at ha
  simp only [Bool.false_and,Bool.not_false,Bool.true_and,Bool.and_eq_true] at ha
  obtain ⟨q2,q3,q4⟩:=ha
  split at h
  ·rename_i hc
   have fo:=mD (by omega) hu h
   have u1:=(Fm.f2 hu).up (by omega) h
   have hk1:ks=[]∧sys=[]:=by
    unfold cL at q2
    simp only [Bool.and_eq_true,decide_eq_true_eq] at q2
    obtain ⟨⟨a1,_,_,a4⟩,_⟩:=q2
    rw [hc.1] at a1 a4
    have:ct 1=0:=rfl
    exact ⟨List.length_eq_zero_iff.1 (by omega),List.length_eq_zero_iff.1 (a4 rfl)⟩
   obtain ⟨m1,h1,h2⟩:=sm h
   have w1:=uP (by omega) (by omega) u 0 0 m1 h1
   have w2:=uP (by omega) (by omega) m1 0 0 o h2
   have e1:au o=au u:=by rw [w2.2.1,w1.2.1]
   have e2:am o=am u:=by rw [w2.1,w1.1]
   refine ⟨fo.ok,(eU fo.2).2.2, ?_,by omega⟩
   rw [e1,hk1.1,hk1.2,ac4,if_pos hc,cE,cv,au,ay,aI]
   have:=mB u
   omega
  ·rename_i hc
   obtain ⟨ks',e2,h⟩:=sm h
   obtain ⟨sys',e3,h⟩:=sm h
   injection h with h;subst h
   obtain ⟨k1,k2,k3,k4,k5⟩:=ahA ih1 hv hd (by omega) hok.2.1 q3 e2
   obtain ⟨s1,s2,s3,s4,s5,s6⟩:=ahC ih2 hv hd (by omega) hok.2.2 q4 e3
   obtain ⟨o1,o2,o3,o4,o5,o6,o7⟩:=hok.1
   have hm:0≤m→0≤(if kd=1∧m>n+v then m-1 else m):=by intro h;split<;>omega
   refine ⟨?_, ?_, ?_, ?_⟩
   ·rw [OkT]
    exact ⟨⟨o1,by unfold aG at*;split<;>omega,o3,o4,o5,by omega,by omega⟩,k1,s1⟩
   ·rw [a6,k2,s2]
    simp only [Bool.false_and,Bool.not_false,Bool.true_and,Bool.and_true]
    unfold cL at q2 ⊢
    simp only [Bool.and_eq_true,decide_eq_true_eq] at q2 ⊢
    rw [k5,s5,s6]
    obtain ⟨⟨a1,a2,a3,a4⟩,a5⟩:=q2
    refine ⟨⟨a1, ?_,a3,a4⟩, ?_⟩
    ·by_cases c:kd=1
     ·exact .inl c
     ·exact .inr (by rw [if_neg (fun h=>c h.1)];exact a2.resolve_left c)
    ·by_cases c1:kd=1
     ·rw [if_pos c1] at a5 ⊢
      simp only [Bool.and_eq_true,decide_eq_true_eq] at a5 ⊢
      exact ⟨a5.1,hm a5.2.1,.inl (by decide)⟩
     ·rw [if_neg c1] at a5 ⊢;exact a5
   ·rw [ac4,if_neg hc,au,au,k3,s3,Nat.zero_add,Nat.add_mul];omega
   ·rw [am,am];omega
end
theorem F5 {n:Int} (hn:0≤n) {t u o:Tm} (ht:Fm t) (hu:Fm u) (h:ams n t u= .ok o):Fm o:=by
 unfold ams at h
 split at h
 ·cases h
 rename_i h0
 obtain ⟨o',h1,h⟩:=sm h
 split at h
 ·cases h
 rename_i h2
 injection h with h;subst h
 obtain ⟨d1,d2,d3⟩:=eU ht.2
 obtain ⟨p1,p2,p3,p4⟩:=F8 hu hn t (Int.le_refl 0) (Int.le_refl 0) (by omega) ht.ok d3 h1
 rw [Int.add_zero] at p3
 exact ⟨p1,pS (by omega) (by omega) p2⟩
theorem F7 {n:Int} {u:Tm} (t:Tm): ∀ {v d e:Int},akT n u v d t= .error e→0<e∧e≤1000:=by
 induction t using gq with
 |h kd m nm r ks sys ih1 ih2=>
  intro v d e h
  have hk: ∀ {l:List Tm} {i:Nat},(∀x∈l,∀ {v d e:Int},akT n u v d x= .error e→0<e∧e≤1000)→dX n u v d kd i l= .error e→0<e∧e≤1000:=by
   intro l
   induction l with
   |nil=>intro i _ h;rw [dX] at h;cases h
   |cons t l ih=>
    intro i h hl
    rw [dX] at hl
    rcases be hl with hl|⟨_,_,hl⟩
    ·exact h t (by simp) hl
    rcases be hl with hl|⟨_,_,hl⟩
    ·exact ih (fun x hx=>h x (by simp [hx])) hl
    ·cases hl
  have hm: ∀ {l:List Tm},(∀x∈l,∀ {v d e:Int},akT n u v d x= .error e→0<e∧e≤1000)→amj n u v d kd l= .error e→0<e∧e≤1000:=by
   intro l
   induction l with
   |nil=>intro _ h;rw [amj] at h;cases h
   |cons t l ih=>
    intro h hl
    rw [amj] at hl
    rcases be hl with hl|⟨_,_,hl⟩
    ·exact h t (by simp) hl
    rcases be hl with hl|⟨_,_,hl⟩
    ·exact ih (fun x hx=>h x (by simp [hx])) hl
    ·cases hl
  have hs: ∀ {l:List (Br Tm)},(∀b∈l,∀x∈b.kids,∀ {v d e:Int},akT n u v d x= .error e→0<e∧e≤1000)→dn n u v d kd l= .error e→0<e∧e≤1000:=by
   intro l
   induction l with
   |nil=>intro _ h;rw [dn] at h;cases h
   |cons b l ih=>
    intro h hl
    rw [dn] at hl
    obtain ⟨f,ks'⟩:=b
    rcases be hl with hl|⟨_,_,hl⟩
    ·rw [AJ] at hl
     rcases be hl with hl|⟨_,_,hl⟩
     ·exact hm (h ⟨f,ks'⟩ (by simp)) hl
     ·cases hl
    ·rcases be hl with hl|⟨_,_,hl⟩
     ·exact ih (fun b hb=>h b (by simp [hb])) hl
     ·cases hl
  rw [akT] at h
  split at h
  ·exact al3 h
  ·rcases be h with h|⟨_,_,h⟩
   ·exact hk ih1 h
   ·rcases be h with h|⟨_,_,h⟩
    ·exact hs ih2 h
    ·cases h
theorem AL {n:Int} {t u:Tm} {e:Int} (h:ams n t u= .error e):0<e∧e≤1000:=by
 unfold ams at h
 split at h
 ·injection h with h;omega
 ·rcases be h with h|⟨_,_,h⟩
  ·exact F7 t h
  ·split at h
   ·injection h with h;omega
   ·cases h
end Go.Proofs.YtfkkpkhfjpaafaaGreatDoor
namespace Go.Proofs.YtfkkpkhfjpaafaaGreatDoor
open Go PI
set_option linter.unusedVariables false
set_option linter.unusedSimpArgs false
set_option maxRecDepth 20000
variable {S:Type} {k:Nat}
def fmE {α:Type} (t:Tm) (x:Except Int α):Except Int α:=if bw t=0 then x else .error (bw t)
theorem z7 {α:Type} {t:Tm} {x:Except Int α} {e:Int} (hx: ∀e,x= .error e→0<e∧e≤1000) (h:fmE t x= .error e):0<e∧e≤1000:=by
 unfold fmE at h
 split at h
 ·exact hx e h
 ·rename_i h0
  injection h with h
  have:=Et t;omega
def wA (a b:Int) (t:Tm):Except Int Tm:=fmE t (su a b t)
def pH (f b:Int) (t:Tm):Except Int Tm:=fmE t (acr 0 b 0 f t)
theorem dj {e:Int} (h:e≠0):(e==0)=false:=by simpa using h
theorem aiH (hk:F3 k) {t:Tm} (ht:In k t) {vb db:Int} (hvb:0≤vb∧vb≤1000000) (hdb:0≤db∧db<9223372036854775808) (ret:Tm×Int→Option S):lu k t vb db ret=ret (tE (wA vb db t)):=by
 unfold wA fmE
 by_cases h:bw t=0
 ·rw [if_pos h];exact He hk ⟨ht.1,h⟩ hvb hdb ret
 ·rw [if_neg h]
  simp only [lu,HV,ag hk.fu,ar,y7,BS,amv ht.1 ht.2.1 ht.dep,dj h,Bool.not_false,ae];rfl
theorem aiM (hk:F3 k) {t:Tm} (ht:In k t) {f b:Int} (hf:0≤f∧f≤24) (hb:0≤b∧b<9223372036854775808) (ret:Tm×Int→Option S):lv k t f b ret=ret (tE (pH f b t)):=by
 unfold pH fmE
 by_cases h:bw t=0
 ·rw [if_pos h];exact Rr hk ⟨ht.1,h⟩ hf hb ret
 ·rw [if_neg h]
  simp only [lv,HW,ag hk.fu,ar,yZ,BQ,amv ht.1 ht.2.1 ht.dep,dj h,Bool.not_false,ae];rfl
end Go.Proofs.YtfkkpkhfjpaafaaGreatDoor
namespace Go.Proofs.YtfkkpkhfjpaafaaGreatDoor
open Go PI
set_option linter.unusedVariables false
set_option linter.unusedSimpArgs false
set_option maxRecDepth 20000
theorem agi (t:Tm): ∀ {v v' d d':Int},v+am t≤1000000000→v'+am t≤1000000000→acr 0 0 v d t=acr 0 0 v' d' t:=by
 induction t using gq with
 |h kd n nm r ks sys ih1 ih2=>
  intro v v' d d' h h'
  rw [am] at h h'
  have hk: ∀ {l:List Tm} {i:Nat},(∀x∈l,∀ {v v' d d':Int},v+am x≤1000000000→v'+am x≤1000000000→acr 0 0 v d x=acr 0 0 v' d' x)→v+aH l+1≤1000000000→v'+aH l+1≤1000000000→dm 0 0 v d kd i l=dm 0 0 v' d' kd i l:=by
   intro l
   induction l with
   |nil=>intro i _ _ _;rw [dm,dm]
   |cons t l ih=>
    intro i h h1 h2
    rw [aH] at h1 h2
    have:=g7 kd i
    rw [dm,dm,h t (by simp) (v:=v+bz kd i) (v':=v'+bz kd i) (d:=d+bJ kd i) (d':=d'+bJ kd i) (by omega) (by omega),ih (fun x hx=>h x (by simp [hx])) (by omega) (by omega)]
  have hm: ∀ {l:List Tm},(∀x∈l,∀ {v v' d d':Int},v+am x≤1000000000→v'+am x≤1000000000→acr 0 0 v d x=acr 0 0 v' d' x)→v+aH l+1≤1000000000→v'+aH l+1≤1000000000→alP 0 0 v d kd l=alP 0 0 v' d' kd l:=by
   intro l
   induction l with
   |nil=>intro _ _ _;rw [alP,alP]
   |cons t l ih=>
    intro h h1 h2
    rw [aH] at h1 h2
    rw [alP,alP,h t (by simp) (v:=v) (v':=v') (d:=d+av kd) (d':=d'+av kd) (by omega) (by omega),ih (fun x hx=>h x (by simp [hx])) (by omega) (by omega)]
  have hr: ∀ {d:Int} {f:List Cl},alN d 0 f= .ok f:=fun {d f}=>if_pos (.inl rfl)
  have hs: ∀ {l:List (Br Tm)},(∀b∈l,∀x∈b.kids,∀ {v v' d d':Int},v+am x≤1000000000→v'+am x≤1000000000→acr 0 0 v d x=acr 0 0 v' d' x)→v+aO l+1≤1000000000→v'+aO l+1≤1000000000→alT 0 0 v d kd l=alT 0 0 v' d' kd l:=by
   intro l
   induction l with
   |nil=>intro _ _ _;rw [alT,alT]
   |cons b l ih=>
    intro h h1 h2
    obtain ⟨f,ks'⟩:=b
    rw [aO,eB] at h1 h2
    rw [alT,alT,n8,n8,hr,hr,aD,aD,hm (l:=ks') (h ⟨f,ks'⟩ (by simp)) (by omega) (by omega),ih (fun b hb=>h b (by simp [hb])) (by omega) (by omega)]
  rw [acr,acr,hr,hr,aD,aD,hk ih1 (by omega) (by omega),hs ih2 (by omega) (by omega)]
  have e1:(kd=1∧n≥v∧n>1000000000-0)↔(kd=1∧n≥v'∧n>1000000000-0):=by omega
  simp only [e1,Int.add_zero,ite_self]
end Go.Proofs.YtfkkpkhfjpaafaaGreatDoor
namespace Go.Proofs.YtfkkpkhfjpaafaaGreatDoor
open Go PI
set_option linter.unusedVariables false
set_option linter.unusedSimpArgs false
set_option maxRecDepth 20000
variable {S:Type} {k:Nat}
def soE (l:List Tm) (x:Except Int Tm):Except Int Tm:=if alE l=0 then al_ x else .error (alE l)
end Go.Proofs.YtfkkpkhfjpaafaaGreatDoor
namespace Go.Proofs.YtfkkpkhfjpaafaaGreatDoor
open Go PI
set_option linter.unusedVariables false
set_option linter.unusedSimpArgs false
set_option maxRecDepth 20000
variable {S:Type} {k:Nat}
structure Gd (x:Except Int Tm):Prop where
 en: ∀e,x= .error e→0<e∧e≤1000
 kd: ∀t,x= .ok t→0≤t.kind
theorem uA {t:Tm} (h:0≤t.kind):Gd (.ok t):=⟨fun e h=>(by cases h),fun t' h'=>by grind⟩
theorem EA {a b:Int} {t:Tm} (h:Fm t):Gd (su a b t):=⟨fun e he=>al3 he,fun t' h'=>by rw [B1 h'];exact h.rows.no.2.2⟩
theorem ac_ {kd:Int} (h:0≤kd) (l:List Tm):Gd (.ok (tmK kd l)):=uA h
theorem Bx (hk:F3 k) {kd:Int} {x y:Except Int Tm} (hx:Gd x) (hy:Gd y) (ret:Tm→Option S):gH k kd (rE x) (rE y) ret=ret (rE (bE x fun a=>bE y fun b=> .ok (tmK kd [a,b]))):=
 aiZ hk (fun e h=>(hx.en e h).1) hx.kd (fun e h=>(hy.en e h).1) hy.kd ret
theorem RR (hk:F3 k) {l:List Tm} {x:Except Int Tm} (hl: ∀t∈l,In k t) (hlen:l.length<1000) {F:(Tm→Option S)→Option S} (hF:alE l=0→ ∀g,F g=g (rE x)) (hx:alE l=0→(∀e,x= .error e→0<e∧e≤1000)∧ ∀t,x= .ok t→In k t∧0≤t.kind) (ret:Tm×Int→Option S):
  (pz k l fun r1=>ab (!(r1==0)) (ret (ao,r1)) (F fun r2=>nh k r2 fun r3=>ret (r3.1,r3.2)))=ret (tE (soE l x)):=by
 rw [aiW hk hl hlen,bG]
 unfold soE
 by_cases h0:alE l=0
 ·grind [ad,Q3]
 ·rw [decide_eq_false h0,Bool.not_false,ae,if_neg h0];rfl
theorem akc (hk:F3 k) {l:List Tm} {x:Except Int Tm} (hx:alE l=0→ ∀t,x= .ok t→In k t):In k (tE (soE l x)).1:=by
 unfold soE
 by_cases h0:alE l=0
 ·rw [if_pos h0]
  unfold al_
  cases hh:x with
  |error e=>exact gQ hk
  |ok t=>
   rw [aD]
   split
   ·exact hx h0 t hh
   ·exact gQ hk
 ·rw [if_neg h0];exact gQ hk
end Go.Proofs.YtfkkpkhfjpaafaaGreatDoor
namespace Go.Proofs.YtfkkpkhfjpaafaaGreatDoor
open Go PI
set_option linter.unusedVariables false
set_option linter.unusedSimpArgs false
set_option maxRecDepth 20000
variable {S:Type} {k:Nat}
section
variable {hd:Tm→(Tm→Option S)→Option S} {t:Tm}
theorem afz (hk:Fu k) (ret:Tm→Option S) (rec1:List (Br Tm)→Int→Option S) {ks:List Tm} {acc:List (Br Tm)} {x:Br Tm} {i:Int} (hi:af t.sys i=some x) (hQ: ∀y∈x.kids,∀g,hd y g=g y) (hl:x.kids.length<1073741824) (hacc:acc.length<1073741824):
  ∀ (r p:List Tm) (m:Nat),x.kids=p++r→r.length<m→anc hd k ret rec1 t ks acc x i m p (p.length:Int)=rec1 (acc++[x]) (IntKind.wrap .i64 (i+1)):=by
 intro r
 induction r with
 |nil=>
  intro p m h hm
  obtain ⟨m,rfl,hm'⟩:=km hm
  simp only [anc,xM,hi,Option.bind_some,akb h,ad]
  rw [sf (by grind)]
  have:p=x.kids:=by grind
  subst this
  rfl
 |cons y r ih=>
  intro p m h hm
  obtain ⟨m,rfl,hm'⟩:=km hm
  obtain ⟨e1,e2,e3,e4⟩:=ln h (by omega)
  have hlen:p.length+r.length+1=x.kids.length:=by grind
  simp only [anc,xM,hi,e1,ae,e2,Option.bind_some,ar,e3,hQ y (by grind)]
  grind [sf]
theorem afy (hk:Fu k) (ret:Tm→Option S) (ht:OkT t) (hQ: ∀b∈t.sys,∀y∈b.kids,∀g,hd y g=g y) {ks:List Tm}:
  ∀ (r p:List (Br Tm)) (m:Nat),t.sys=p++r→r.length<m→kB hd k ret t ks m p (p.length:Int)=ret (.mk t.kind t.n t.name t.r ks t.sys):=by
 obtain ⟨o1,o2,o3,o4,o5,o6,o7⟩:=ht.no
 intro r
 induction r with
 |nil=>
  grind [km,kB,sV,ad]
 |cons y r ih=>
  intro p m h hm
  obtain ⟨m,rfl,hm'⟩:=km hm
  obtain ⟨e1,e2,e3,e4⟩:=ln h (by omega)
  have hy:y∈t.sys:=by grind
  have hb:=(ht.bi hy).1
  have hlen:p.length+r.length+1=t.sys.length:=by grind
  simp only [kB,sV,e1,ae,e2,Option.bind_some]
  rw [sf (by grind)]
  have:=afz (t:=t) hk ret (kB hd k ret t ks m) (ks:=ks) (acc:=p) e2 (hQ y hy) hb.2.2 (by omega) y.kids [] k rfl (by omega)
  grind
theorem afx (hk:Fu k) (ret:Tm→Option S) (ht:OkT t) (hQ: ∀y∈t.kids,∀g,hd y g=g y) (hQ': ∀b∈t.sys,∀y∈b.kids,∀g,hd y g=g y):
  ∀ (r p:List Tm) (m:Nat),t.kids=p++r→r.length<m→ans hd k ret t m p (p.length:Int)=ret t:=by
 obtain ⟨o1,o2,o3,o4,o5,o6,o7⟩:=ht.no
 intro r
 induction r with
 |nil=>
  intro p m h hm
  obtain ⟨m,rfl,hm'⟩:=km hm
  simp only [ans,sU,akb h,ad]
  have:=afy hk ret ht hQ' (ks:=p) t.sys [] k rfl (by omega)
  refine Eq.trans this ?_
  have hp:p=t.kids:=by grind
  subst hp
  cases t;rfl
 |cons y r ih=>
  intro p m h hm
  obtain ⟨m,rfl,hm'⟩:=km hm
  obtain ⟨e1,e2,e3,e4⟩:=ln h (by omega)
  grind [ans,sU,ae,ar,sf]
end
theorem ajM (t:Tm):OkT t→ ∀ {k:Nat} (ret:Tm→Option S),Fd k (am t)→je k t ret=ret t:=by
 induction t using c7 with
 |h t ih1 ih2=>
  intro ht k ret hk
  obtain ⟨q,rfl,hq,hf⟩:=hk.pos' (alF t)
  obtain ⟨o1,o2,o3,o4,o5,o6,o7⟩:=ht.no
  simp only [je,Ip]
  rw [sf (by grind)]
  exact afx hq ret ht (fun y hy g=>ih1 y hy (ht.ki hy) g (hf _ (bY hy))) (fun b hb y hy g=>ih2 b hb y hy ((ht.bi hb).2 y hy) g (hf _ (b8 hb hy))) t.kids [] q rfl (by omega)
def sx (sys:List (Br Tm)):Tm:= .mk 15 0 ByteArray.empty [] [.mk 3 0 ByteArray.empty [] [] [],.mk 3 0 ByteArray.empty [] [] []] sys
theorem RY (hk:Fu k) (sys:List (Br Tm)) (ret:Int×Int×ByteArray×List Tm×List (Br Tm)→Option S):pa k sys ret=ret (15,0,ByteArray.empty,[.mk 3 0 ByteArray.empty [] [] [],.mk 3 0 ByteArray.empty [] [] []],sys):=by
 simp_all [pa,Sd,hX,wm,ag]
theorem Q7 (hk:Fu k) (sys:List (Br Tm)) (ret:Tm→Option S):ua k 15 sys ret=ret (sx sys):=by
 obtain ⟨q,hq⟩: ∃q,k=q+3:=⟨k-3,by omega⟩
 have h2:ct 15=2:=by rfl
 have hj:anw k ret 15 sys k [] 0=ret (sx sys):=by
  have: ∀j,j=q+3→anw k ret 15 sys j [] 0=ret (sx sys):=by
   rintro j rfl
   simp only [anw,Dj,ag hk,RL,h2,show decide ((0:Int)<2)=true from rfl,ae]
   rfl
  grind
 grind [ua,IE]
end Go.Proofs.YtfkkpkhfjpaafaaGreatDoor
namespace Go.Proofs.YtfkkpkhfjpaafaaGreatDoor
open Go PI
set_option linter.unusedVariables false
set_option linter.unusedSimpArgs false
set_option maxRecDepth 20000
variable {S:Type} {k:Nat}
def wl (b:Br Tm):Tm:=b.kids.headD ao
structure SyF (sys:List (Br Tm)):Prop where
 kid: ∀b∈sys,b.kids=[wl b]∧Fm (wl b)∧aq b.face∧b.face.length<1073741824
 len:sys.length≤20000
 siz:aI sys≤20000
theorem iQ {sys:List (Br Tm)} (h:Fm (sx sys)):SyF sys:=by
 obtain ⟨h1,h2,h3⟩:=eU h.2
 have hz:au (sx sys)=3+aI sys:=by rfl
 have hd:aO sys+1≤am (sx sys):=by grind [sx,am]
 unfold sx at h3
 rw [a6] at h3
 simp only [Bool.and_eq_true] at h3
 obtain ⟨_,ho,_,hS⟩:=h3
 have ho:(sys.all (bX 15 24)&&decide (([]:List Cl).length=0))=true:=by
  grind [cL]
 simp only [Bool.and_eq_true] at ho
 have hb:=List.all_eq_true.1 ho.1
 rw [wH,List.all_eq_true] at hS
 have hk: ∀b∈sys,b.kids=[wl b]∧Fm (wl b)∧aq b.face∧b.face.length<1073741824:=by
  intro b hb'
  have h1':=hb b hb'
  unfold bX at h1'
  simp only [Bool.and_eq_true,decide_eq_true_eq] at h1'
  have hl:b.kids.length=1:=by grind [cz]
  have hok:=h.1.br (by exact hb':b∈sys)
  match hb2:b.kids,hl with
  |[x],_=>
   have hx:wl b=x:=by grind [wl]
   have hmem:x∈b.kids:=by grind
   rw [hx]
   refine ⟨rfl,⟨hok.2 x hmem,pS ?_ ?_ ?_⟩,hok.1.1,hok.1.2.1⟩
   ·have:=D0 hmem;have:=JP hb';omega
   ·have:=k_ hmem;have:=we hb';omega
   ·have:=List.all_eq_true.1 (hS b hb') x hmem
    rw [←this]
    exact m0 x (by omega) (by decide)
 have hlen: ∀l:List (Br Tm),(∀b∈l,b.kids=[wl b])→l.length≤aI l:=by
  intro l
  induction l<;>grind [aI,kZ,ay,mB]
 exact ⟨hk,by grind,by omega⟩
def g_ (line:Tm):List (Br Tm)→Except Int (List (Br Tm))
 |[]=> .ok []
 |b::r=>bE (di [⟨1,0⟩,⟨2,0⟩] line) fun u=>bE (g_ line r) fun l=> .ok (.mk b.face [.mk 14 0 ByteArray.empty [⟨1,0⟩] [u,wl b] []]::l)
def dF (line a:Tm) (sys:List (Br Tm)):Except Int Tm:=bE (ame 0 [⟨0,0⟩] line) fun l1=>bE (g_ line sys) fun l=> .ok (.mk 15 0 ByteArray.empty [] [l1,tmK 14 [line,a]] l)
theorem QA:RF [⟨1,0⟩,⟨2,0⟩]:=by
 refine ⟨by rfl,fun c hc=> ?_⟩
 simp only [List.mem_cons,List.not_mem_nil,or_false] at hc
 rcases hc with rfl|rfl
 ·exact ⟨⟨by decide,by decide⟩,by decide,by decide⟩
 ·exact ⟨⟨by decide,by decide⟩,by decide,by decide⟩
theorem Qz:RF [⟨0,0⟩]:=gS ⟨⟨by decide,by decide⟩,by decide,by decide⟩
theorem agZ:aq [⟨1,0⟩]:=fun c hc=>by grind [ag1]
theorem akM {r:List Cl} {t y:Tm} (ht:Fm t) (h:ame 0 r t= .ok y):OkT y∧am y≤200∧au y≤20000:=by
 obtain ⟨w1,w2,w3,w4⟩:=T0 h
 have h4:=w4 ht.ok ht.rows
 have:=ht.dep;have:=ht.siz
 grind
theorem aaa {line:Tm}: ∀ {r:List (Br Tm)} {e:Int},g_ line r= .error e→0<e∧e≤1000:=by
 intro r
 induction r with
 |nil=>intro e h;cases h
 |cons b r ih=>
  intro e h
  rcases be h with h|⟨_,_,h⟩<;>grind [be,li]
theorem o_ {line a:Tm} {sys:List (Br Tm)} {e:Int} (h:dF line a sys= .error e):0<e∧e≤1000:=by
 rcases be h with h|⟨_,_,h⟩
 ·exact ws h
 rcases be h with h|⟨_,_,h⟩
 ·exact aaa h
 simp_all
theorem aab {line:Tm} (hl:Fm line): ∀ {r l:List (Br Tm)},(∀b∈r,b.kids=[wl b]∧Fm (wl b)∧aq b.face∧b.face.length<1073741824)→g_ line r= .ok l→ba l∧aO l≤201∧aI l≤r.length*20001+aI r∧l.length=r.length:=by
 intro r
 induction r with
 |nil=>
  intro l _ h
  injection h with h;grind [ba,aO]
 |cons b r ih=>
  intro l hr h
  obtain ⟨u,h1,h⟩:=sm h
  obtain ⟨l',h2,h⟩:=sm h
  injection h with h;subst h
  obtain ⟨b1,b2,b3,b4⟩:=hr b (by simp)
  obtain ⟨i1,i2,i3,i4⟩:=ih (fun b hb=>hr b (by simp [hb])) h2
  obtain ⟨a1,a2,a3,a4⟩:=Jo hl h1
  have:=b2.dep
  refine ⟨?_, ?_, ?_,by simp [i4]⟩
  ·rw [ba,fc,aZ,aZ,OkT,aZ,aZ,aZ,ba]
   refine ⟨⟨⟨b3,b4,by simp⟩,⟨⟨by unfold aG;omega,by unfold aG;omega,by simp,agZ,by simp,by simp,by simp⟩,⟨a1,b2.ok,trivial⟩,trivial⟩,trivial⟩,i1⟩
  all_goals grind [aO,eB,aH,am,aI,ay,au,kZ]
theorem yu (hk:F3 k) {line a:Tm} {sys:List (Br Tm)} (hl:Fm line) (ha:Fm a) (hs:SyF sys) {t:Tm} (h:dF line a sys= .ok t):In k t∧0≤t.kind:=by
 obtain ⟨l1,h1,h⟩:=sm h
 obtain ⟨l,h2,h⟩:=sm h
 injection h with h;subst h
 obtain ⟨a1,a2,a3⟩:=akM hl h1
 obtain ⟨i1,i2,i3,i4⟩:=aab hl hs.kid h2
 have:=hs.len;have:=hs.siz;have:=hl.dep;have:=ha.dep;have:=hl.siz;have:=ha.siz
 have hm:sys.length*20001≤20000*20001:=Nat.mul_le_mul_right _ hs.len
 refine ⟨⟨?_,hk.fd ?_, ?_⟩,(by decide:(0:Int)≤15)⟩
 ·rw [OkT,aZ,aZ,aZ]
  exact ⟨⟨by unfold aG;omega,by unfold aG;omega,by simp,fun c hc=>(by cases hc),by simp,by simp,by omega⟩,⟨a1,ag2 (by omega) (by simp) fun x hx=>by
   simp at hx
   rcases hx with rfl|rfl
   ·exact hl.ok
   ·exact ha.ok,trivial⟩,i1⟩
 ·grind [tmK,am,aH,aO]
 ·unfold tmK;rw [au,ay,ay,ay,au,ay,ay,ay,aI];omega
theorem ai_ (hk:F3 k) {c:Int} {t:Tm} (h:c=0→Fm t) (ret:Tm×Int→Option S):yz k t c ret=ret (if c=0 then tE (ame 0 [⟨0,0⟩] t) else (ao,c)):=by
 simp only [yz,Sb,ag hk.fu,de,gn,bG,pg,HM,ar]
 by_cases hc:c=0
 ·grind [ad,Ra,Qz,rI]
 ·rw [decide_eq_false hc,Bool.not_false,ae,if_neg hc];rfl
theorem E6 (hk:F3 k) (ret:Tm×Int→Option S) {line:Tm} {q:Int×Int×ByteArray×List Tm} {w:Tm} {c:Int} (hc:c≠0) (hw:w.sys.length<1073741824):
  ∀ (r p acc:List (Br Tm)) (m:Nat),w.sys=p++r→0<m→ko k ret line q w m c acc (p.length:Int)=ret (ao,c):=by
 intro r p acc m h hm
 obtain ⟨m,rfl⟩: ∃j,m=j+1:=⟨m-1,by omega⟩
 cases r with
 |nil=>grind [ko,oP,ad,ar,ag,rG]
 |cons x r=>
  obtain ⟨e1,e2,e3,e4⟩:=ln h (by omega)
  grind [ko,oP,ae,de,gn,ar,ag,rG]
theorem aeu (hk:F3 k) (ret:Tm×Int→Option S) {line:Tm} (hl:Fm line) {q:Int×Int×ByteArray×List Tm} {w:Tm} (hw:w.sys.length<1073741824) (hs: ∀b∈w.sys,b.kids=[wl b]):
  ∀ (r p acc:List (Br Tm)) (m:Nat),w.sys=p++r→r.length<m→acc.length+r.length<1073741824→
   ko k ret line q w m 0 acc (p.length:Int)=eE (g_ line r) (fun l=>eQ k (.mk q.1 q.2.1 q.2.2.1 [] q.2.2.2 (acc++l)) 0 fun z=>ret (z.1,z.2.1)) fun e=>ret (ao,e):=by
 intro r
 induction r with
 |nil=>
  intro p acc m h hm ha
  obtain ⟨m,rfl,hm'⟩:=km hm
  simp only [ko,oP,akb h,ad,ag hk.fu,ar,g_,aP,List.append_nil]
 |cons x r ih=>
  intro p acc m h hm ha
  obtain ⟨m,rfl,hm'⟩:=km hm
  obtain ⟨e1,e2,e3,e4⟩:=ln h (by omega)
  have hx:=hs x (by grind)
  have hg:af x.kids 0=some (wl x):=by rw [hx];rfl
  have hat: ∀g:Tm×Int→Option S,lr k line [⟨1,0⟩,⟨2,0⟩] 0 g=g (tE (di [⟨1,0⟩,⟨2,0⟩] line)):=fun g=>Rd hk hl QA g
  simp only [ko,oP,e1,ae,e2,Option.bind_some,ag hk.fu,de,gn,bG,show decide ((0:Int)=0)=true from rfl,Bool.not_true,ad,ar,hat,hg,hX,wm]
  rw [sf (by grind),g_,sb]
  cases hx2:di [⟨1,0⟩,⟨2,0⟩] line with
  |error e=>
   have he:=li hx2
   rw [e3]
   exact E6 hk ret (show e≠0 by omega) hw r (p++[x]) _ m e4 (by grind)
  |ok u=>
   rw [aP,sb,e3]
   refine (ih (p++[x]) (acc++[.mk x.face [.mk 14 0 ByteArray.empty [⟨1,0⟩] [u,wl x] []]]) m e4 hm' (by grind)).trans ?_
   grind [aP]
theorem aiI (hk:F3 k) {line a:Tm} {sys:List (Br Tm)} (hl:In k line) (ha:In k a) (hs:In k (sx sys)) (ret:Tm×Int→Option S):yx k line a sys ret=ret (tE (soE [line,a,sx sys] (dF line a sys))):=by
 have hin: ∀x∈[line,a,sx sys],In k x:=fun x hx=>by
  grind
 have hfm:alE [line,a,sx sys]=0→ ∀x∈[line,a,sx sys],Fm x:=fun h=>wh (fun x hx=>(hin x hx).1) h
 have hsl:sys.length<1073741824:=hs.1.node.2.2.2.2.2.2
 simp only [yx,Hq,ag hk.fu,ar,RY hk.fu]
 have hb: ∀g:Int→Option S,m9 k [line,a,.mk 15 0 ByteArray.empty [] [.mk 3 0 ByteArray.empty [] [] [],.mk 3 0 ByteArray.empty [] [] []] sys] g=g (alE [line,a,sx sys]):=fun g=>Re hk hin (by simp) g
 have hc: ∀g:Tm→Option S,dJ k (.mk 15 0 ByteArray.empty [] [.mk 3 0 ByteArray.empty [] [] [],.mk 3 0 ByteArray.empty [] [] []] sys) g=g (sx sys):=fun g=>vU (sx sys) hs.1 g hs.2.1
 simp only [hb,hc,vU line hl.1 _ hl.2.1,vU a ha.1 _ ha.2.1,ai_ hk (fun h=>hfm h line (by simp)),hX,wm]
 unfold soE
 by_cases h0:alE [line,a,sx sys]=0
 ·have fl:=hfm h0 line (by simp)
  have fa:=hfm h0 a (by simp)
  have sy:=iQ (hfm h0 (sx sys) (by simp))
  simp only [h0,if_true]
  have hret:ret (tE (al_ (dF line a sys)))=eE (dF line a sys) (fun t=>eQ k t 0 fun z=>ret (z.1,z.2.1)) fun e=>ret (ao,e):=by
   unfold al_
   rw [amt _ ret,sb]
   refine ad3 (fun t ht=> ?_) fun _ _=>rfl
   rw [←amt _ ret]
   exact ((Rk hk (t:=t) (c:=0) (fun _=>(yu hk fl fa sy ht).1) ret).trans rfl).symm
  rw [hret]
  unfold dF
  rw [sb]
  cases h1:ame 0 [⟨0,0⟩] line with
  |error e=>
   have he:=ws h1
   exact E6 hk ret (w:=sx sys) (show e≠0 by omega) hsl sys [] [] k rfl (by omega)
  |ok l1=>
   rw [aP,sb]
   refine (aeu hk ret fl (w:=sx sys) hsl (fun b hb=>(sy.kid b hb).1) sys [] [] k rfl (by omega) (by grind)).trans ?_
   rfl
 ·simp only [if_neg h0]
  exact E6 hk ret (w:=sx sys) h0 hsl sys [] [] k rfl (by omega)
theorem Bw (hk:F3 k) {kd n:Int} {nm:ByteArray} {r:List Cl} {ks:List Tm} {acc:List (Br Tm)} (hkd:0≤kd) (hacc:acc.length<1073741824) {f:List Cl} {x:Except Int Tm} (hx:Gd x) (ret:Tm→Option S):
  amx k (.mk kd n nm r ks acc) f (rE x) ret=ret (rE (bE x fun y=> .ok (.mk kd n nm r ks (acc++[.mk f [y]])))):=by
 simp only [amx,IF,ar]
 rw [show decide ((Tm.mk kd n nm r ks acc).kind<0)=false from decide_eq_false (show ¬kd<0 by omega),ad]
 cases x with
 |error e=>rw [show rE (.error e)=bh e from rfl,amC (hx.en e rfl).1,ae];rfl
 |ok y=>
  rw [show rE (.ok y)=y from rfl,decide_eq_false (by have:=hx.kd y rfl;omega),ad,sf (n:=([]:List (Br Tm)).length) (m:=(Tm.mk kd n nm r ks acc).sys.length) (by show 0+acc.length≤_;omega),sf (by show acc.length+1≤_;omega)];rfl
theorem LC (hk:F3 k) (ret:Tm→Option S) {line:Tm} {sys:List (Br Tm)} {e:Int} (he:0<e) (hsl:sys.length<1073741824):
  ∀ (r p:List (Br Tm)) (m:Nat),sys=p++r→0<m→jo k ret line sys m (bh e) (p.length:Int)=ret (bh e):=by
 intro r p m h hm
 obtain ⟨m,rfl⟩: ∃j,m=j+1:=⟨m-1,by omega⟩
 have hb:decide ((bh e).kind≥0)=false:=decide_eq_false (show ¬ (-e≥0) by omega)
 cases r with
 |nil=>grind [jo,oV,ad,ar]
 |cons x r=>
  obtain ⟨e1,e2,e3,e4⟩:=ln h (by omega)
  grind [jo,oV,ae,ad,ar]
theorem afw (hk:F3 k) (ret:Tm→Option S) {line:Tm} (hl:Fm line) {sys:List (Br Tm)} (hsl:sys.length<1073741824) (hs: ∀b∈sys,b.kids=[wl b]∧Fm (wl b)) {ks:List Tm}:
  ∀ (r p acc:List (Br Tm)) (m:Nat),sys=p++r→r.length<m→acc.length+r.length<1073741824→
   jo k ret line sys m (.mk 15 0 ByteArray.empty [] ks acc) (p.length:Int)=ret (rE (bE (g_ line r) fun l=> .ok (.mk 15 0 ByteArray.empty [] ks (acc++l)))):=by
 intro r
 induction r with
 |nil=>
  intro p acc m h hm ha
  obtain ⟨m,rfl,hm'⟩:=km hm
  simp only [jo,oV,akb h,ad,ar,g_,aD,List.append_nil];rfl
 |cons x r ih=>
  intro p acc m h hm ha
  obtain ⟨m,rfl,hm'⟩:=km hm
  obtain ⟨e1,e2,e3,e4⟩:=ln h (by omega)
  obtain ⟨hx,hxf⟩:=hs x (by grind)
  have hg:af x.kids 0=some (wl x):=by rw [hx];rfl
  have hkd:decide ((Tm.mk 15 0 ByteArray.empty [] ks acc).kind≥0)=true:=rfl
  have hfar: ∀g:Tm→Option S,ni k line [⟨1,0⟩,⟨2,0⟩] g=g (rE (di [⟨1,0⟩,⟨2,0⟩] line)):=fun g=>Q5 hk hl QA g
  have ga:Gd (di [⟨1,0⟩,⟨2,0⟩] line):=⟨fun e h=>li h,fun t h=>by rw [Jn h];exact hl.rows.no.2.2⟩
  have htwo: ∀g:Tm→Option S,gH k 14 (rE (di [⟨1,0⟩,⟨2,0⟩] line)) (wl x) g=g (rE (bE (di [⟨1,0⟩,⟨2,0⟩] line) fun u=> .ok (tmK 14 [u,wl x]))):=fun g=>Bx hk (y:= .ok (wl x)) ga (uA hxf.rows.no.2.2) g
  simp only [jo,oV,e1,ae,hkd,e2,Option.bind_some,ag hk.fu,ar,hfar,hg,htwo]
  rw [g_]
  cases hx2:di [⟨1,0⟩,⟨2,0⟩] line with
  |error e=>
   have he:=li hx2
   have hb:decide ((bh e).kind≥0)=false:=decide_eq_false (show ¬ (-e≥0) by omega)
   grind [lk,rE,ad,Bw,LC]
  |ok u=>
   rw [aD,aD,show rE (.ok (tmK 14 [u,wl x]))=tmK 14 [u,wl x] from rfl,show decide ((tmK 14 [u,wl x]).kind≥0)=true from rfl,ae]
   have:=Bw hk (kd:=15) (n:=0) (nm:=ByteArray.empty) (r:=[]) (ks:=ks) (acc:=acc) (by decide) (by omega) (f:=x.face) (x:= .ok (.mk 14 0 ByteArray.empty [⟨1,0⟩] [u,wl x] [])) (uA (show (0:Int)≤14 by decide)) fun r9=>jo k ret line sys m r9 (IntKind.wrap .i64 ((p.length:Int)+1))
   refine this.trans ?_
   rw [aD,e3]
   refine (ih (p++[x]) (acc++[.mk x.face [.mk 14 0 ByteArray.empty [⟨1,0⟩] [u,wl x] []]]) m e4 hm' (by grind)).trans ?_
   congr 2
   cases g_ line r with
   |error e=>rfl
   |ok l=>grind [aD]
theorem aiJ (hk:F3 k) {line a:Tm} {sys:List (Br Tm)} (hl:Fm line) (ha:Fm a) (sy:SyF sys) (ret:Tm→Option S):ub k line a sys ret=ret (rE (dF line a sys)):=by
 have gt:Gd (ame 0 [⟨0,0⟩] line):=⟨fun e h=>ws h,fun t h=>by rw [TZ h];exact hl.rows.no.2.2⟩
 have h14: ∀g:Tm→Option S,gH k 14 line a g=g (tmK 14 [line,a]):=fun g=>Bx hk (x:= .ok line) (y:= .ok a) (uA hl.rows.no.2.2) (uA ha.rows.no.2.2) g
 have h15: ∀g:Tm→Option S,gH k 15 (rE (ame 0 [⟨0,0⟩] line)) (tmK 14 [line,a]) g=g (rE (bE (ame 0 [⟨0,0⟩] line) fun l1=> .ok (tmK 15 [l1,tmK 14 [line,a]]))):=fun g=>Bx hk (y:= .ok (tmK 14 [line,a])) gt (ac_ (by decide) _) g
 have hsl:=sy.len
 simp only [ub,IG,ag hk.fu,ar,Q2 hk hl (show (0:Int)≤0∧(0:Int)<24 by omega) Qz,h14,h15]
 rw [decide_eq_false (by have:=hl.rows.no.2.2;omega),ad]
 unfold dF
 cases h1:ame 0 [⟨0,0⟩] line with
 |error e=>
  have he:=ws h1
  exact LC hk ret he.1 (by omega) sys [] k rfl (by omega)
 |ok l1=>
  rw [aD,aD]
  exact afw hk ret hl (by omega) (fun b hb=>⟨(sy.kid b hb).1,(sy.kid b hb).2.1⟩) sys [] [] k rfl (by omega) (by grind)
theorem ajL (hk:F3 k) {line a:Tm} {sys:List (Br Tm)} (hl:In k line) (ha:In k a) (hs:In k (sx sys)) (ret:Tm×Int→Option S):zu k line a sys ret=ret (tE (soE [line,a,sx sys] (dF line a sys))):=by
 have hin: ∀x∈[line,a,sx sys],In k x:=fun x hx=>by
  grind
 have hfm:alE [line,a,sx sys]=0→ ∀x∈[line,a,sx sys],Fm x:=fun h=>wh (fun x hx=>(hin x hx).1) h
 simp only [zu,TE,ag hk.fu,ar,Q7 hk.fu]
 exact RR hk hin (by simp) (F:=ub k line a sys) (fun h g=>aiJ hk (hfm h line (by simp)) (hfm h a (by simp)) (iQ (hfm h (sx sys) (by simp))) g)
  (fun h=>⟨fun e he=>o_ he,fun t ht=>yu hk (hfm h line (by simp)) (hfm h a (by simp)) (iQ (hfm h (sx sys) (by simp))) ht⟩) ret
end Go.Proofs.YtfkkpkhfjpaafaaGreatDoor
namespace Go.Proofs.YtfkkpkhfjpaafaaGreatDoor
open Go PI
set_option linter.unusedVariables false
set_option linter.unusedSimpArgs false
set_option maxRecDepth 20000
variable {S:Type} {k:Nat}
def gK:List (Br Tm)→Except Int (List (Br Tm))
 |[]=> .ok []
 |b::r=>bE (toE (agS b.face 0 1)) fun f=>bE (di [⟨3,0⟩] (wl b)) fun u=>bE (gK r) fun l=> .ok (.mk f [u]::l)
def amg (t a:Tm) (sys:List (Br Tm)):Except Int Tm:=bE (su 0 1 t) fun t'=>bE (su 0 1 a) fun a'=>bE (gK sys) fun l=>bE (su 0 2 a) fun a2=> .ok (.mk 15 0 ByteArray.empty [] [t',a'] (l++[.mk [⟨0,1⟩] [a2]]))
theorem acQ: ∀ {r:List (Br Tm)} {e:Int},gK r= .error e→0<e∧e≤1000:=by
 intro r
 induction r with
 |nil=>intro e h;cases h
 |cons b r ih=>
  intro e h
  rcases be h with h|⟨_,_,h⟩<;>grind [be,T2,q_,li]
theorem uw {t a:Tm} {sys:List (Br Tm)} {e:Int} (h:amg t a sys= .error e):0<e∧e≤1000:=by
 rcases be h with h|⟨_,_,h⟩
 ·exact al3 h
 rcases be h with h|⟨_,_,h⟩
 ·exact al3 h
 rcases be h with h|⟨_,_,h⟩
 ·exact acQ h
 rcases be h with h|⟨_,_,h⟩
 ·exact al3 h
 simp_all
theorem acR: ∀ {r l:List (Br Tm)},(∀b∈r,b.kids=[wl b]∧Fm (wl b)∧aq b.face∧b.face.length<1073741824)→gK r= .ok l→ba l∧aO l≤201∧aI l≤r.length*20001∧l.length=r.length:=by
 intro r
 induction r with
 |nil=>
  intro l _ h
  injection h with h;grind [ba,aO,aI]
 |cons b r ih=>
  intro l hr h
  obtain ⟨f,h0,h⟩:=sm h
  obtain ⟨u,h1,h⟩:=sm h
  obtain ⟨l',h2,h⟩:=sm h
  injection h with h;subst h
  obtain ⟨b1,b2,b3,b4⟩:=hr b (by simp)
  obtain ⟨i1,i2,i3,i4⟩:=ih (fun b hb=>hr b (by simp [hb])) h2
  obtain ⟨a1,a2,a3,a4⟩:=Jo b2 h1
  obtain ⟨g1,rfl⟩:=rR h0
  have hf:=kQ g1
  have:=hf.len
  refine ⟨?_, ?_, ?_,by simp [i4]⟩
  ·rw [ba,fc,aZ,aZ]
   exact ⟨⟨⟨hf.2,by omega,by simp⟩,a1,trivial⟩,i1⟩
  all_goals grind [aO,eB,aH,aI,fG,ay]
theorem NQ {l l':List (Br Tm)} (h:ba l) (h':ba l'):ba (l++l'):=by
 grind [NR]
theorem zF (l l':List (Br Tm)):aO (l++l')=max (aO l) (aO l'):=by
 induction l<;>grind [aO]
theorem R1 (l l':List (Br Tm)):aI (l++l')=aI l+aI l':=by
 induction l<;>grind [aI]
theorem agY:aq [⟨0,1⟩]:=fun c hc=>by grind [ag0]
theorem ux (hk:F3 k) {t a:Tm} {sys:List (Br Tm)} (ht:Fm t) (ha:Fm a) (hs:SyF sys) {x:Tm} (h:amg t a sys= .ok x):In k x∧0≤x.kind:=by
 obtain ⟨t',h1,h⟩:=sm h
 obtain ⟨a',h2,h⟩:=sm h
 obtain ⟨l,h3,h⟩:=sm h
 obtain ⟨a2,h4,h⟩:=sm h
 injection h with h;subst h
 have f1:=mD (by omega) ht h1
 have f2:=mD (by omega) ha h2
 have f4:=mD (by omega) ha h4
 obtain ⟨i1,i2,i3,i4⟩:=acR hs.kid h3
 have:=hs.len;have:=f1.dep;have:=f2.dep;have:=f4.dep;have:=f1.siz;have:=f2.siz;have:=f4.siz
 have hm:sys.length*20001≤20000*20001:=Nat.mul_le_mul_right _ hs.len
 refine ⟨⟨?_,hk.fd ?_, ?_⟩,(by decide:(0:Int)≤15)⟩
 ·rw [OkT,aZ,aZ,aZ]
  refine ⟨⟨by unfold aG;omega,by unfold aG;omega,by simp,fun c hc=>(by cases hc),by simp,by simp,by grind⟩,⟨f1.ok,f2.ok,trivial⟩,NQ i1 ?_⟩
  rw [ba,ba,fc,aZ,aZ]
  exact ⟨⟨⟨agY,by simp,by simp⟩,f4.ok,trivial⟩,trivial⟩
 all_goals grind [am,aH,zF,aO,eB,au,ay,R1,aI,fG]
theorem uI (hk:F3 k) (ret:Tm×Int→Option S) {a:Tm} {q:Int×Int×ByteArray×List Tm} {sys:List (Br Tm)} {c:Int} (hc:c≠0) (hsl:sys.length<1073741824):
  ∀ (r p acc:List (Br Tm)) (m:Nat),sys=p++r→0<m→acc.length<1073741824→gM k ret a q sys m c acc (p.length:Int)=ret (ao,c):=by
 intro r p acc m h hm ha
 obtain ⟨m,rfl⟩: ∃j,m=j+1:=⟨m-1,by omega⟩
 have hr: ∀ (b:Br Tm) (f:Unit→Option S),Option.bind (aw 1099511627776 acc.length [b].length) f=f ():=fun b f=>sf (by grind) f
 cases r with
 |nil=>grind [gM,oQ,ad,ar,ag,Hh,rG]
 |cons x r=>
  obtain ⟨e1,e2,e3,e4⟩:=ln h (by omega)
  grind [gM,oQ,ae,de,gn,ar,ag,Hh,rG]
theorem aeQ (hk:F3 k) (ret:Tm×Int→Option S) {a:Tm} (ha:Fm a) {q:Int×Int×ByteArray×List Tm} {sys:List (Br Tm)} (hsl:sys.length<1073741824) (hs: ∀b∈sys,b.kids=[wl b]∧Fm (wl b)∧aq b.face∧b.face.length<1073741824):
  ∀ (r p acc:List (Br Tm)) (m:Nat),sys=p++r→r.length<m→acc.length+r.length<1073741823→
   gM k ret a q sys m 0 acc (p.length:Int)=eE (bE (gK r) fun l=>bE (su 0 2 a) fun a2=> .ok (l++[.mk [⟨0,1⟩] [a2]])) (fun l=>eQ k (.mk q.1 q.2.1 q.2.2.1 [] q.2.2.2 (acc++l)) 0 fun z=>ret (z.1,z.2.1)) fun e=>ret (ao,e):=by
 intro r
 induction r with
 |nil=>
  intro p acc m h hm hacc
  obtain ⟨m,rfl,hm'⟩:=km hm
  have hr: ∀ (b:Br Tm) (f:Unit→Option S),Option.bind (aw 1099511627776 acc.length [b].length) f=f ():=fun b f=>sf (by grind) f
  have hup: ∀g:Tm×Int→Option S,hU k a 0 2 0 g=g (tE (su 0 2 a)):=fun g=>RW hk ha (by omega) (by omega) g
  simp only [gM,oQ,akb h,ad,ag hk.fu,ar,hup,hr,gK,aD]
  cases hu:su 0 2 a with
  |error e=>
   have he:=al3 hu
   show eQ k _ e _=ret (ao,e)
   grind [rG]
  |ok a2=>rfl
 |cons x r ih=>
  intro p acc m h hm hacc
  obtain ⟨m,rfl,hm'⟩:=km hm
  obtain ⟨e1,e2,e3,e4⟩:=ln h (by omega)
  obtain ⟨x1,x2,x3,x4⟩:=hs x (by grind)
  have hg:af x.kids 0=some (wl x):=by rw [x1];rfl
  have hr: ∀ (b:Br Tm) (f:Unit→Option S),Option.bind (aw 1099511627776 acc.length [b].length) f=f ():=fun b f=>sf (by grind) f
  have hrow: ∀g:List Cl×Int→Option S,tA k x.face 0 g=g (agS x.face 0 1):=fun g=>ajX hk x3 x4 g
  simp only [gM,oQ,e1,ae,e2,Option.bind_some,ag hk.fu,de,gn,bG,show decide ((0:Int)=0)=true from rfl,Bool.not_true,ad,ar,hrow,hg,hr]
  rw [gK,sb,sb]
  by_cases h1:(agS x.face 0 1).2=0
  ·rw [jF h1,aP,h1,Rd hk x2 QD,sb]
   cases h2:di [⟨3,0⟩] (wl x) with
   |error e=>
    have he:=li h2
    rw [e3]
    exact uI hk ret (show e≠0 by omega) hsl r (p++[x]) _ m e4 (by grind) (by grind)
   |ok u=>
    rw [aP,e3]
    refine (ih (p++[x]) (acc++[.mk (agS x.face 0 1).1 [u]]) m e4 hm' (by grind)).trans ?_
    rw [sb,sb]
    refine ad3 (fun l _=> ?_) fun _ _=>rfl
    grind [sb,aP]
  ·rw [iO h1,ai2 h1 hk,e3]
   exact uI hk ret h1 hsl r (p++[x]) _ m e4 (by grind) (by grind)
theorem aiO (hk:F3 k) {t a:Tm} {sys:List (Br Tm)} (ht:In k t) (ha:In k a) (hs:In k (sx sys)) (ret:Tm×Int→Option S):yy k t a sys ret=ret (tE (soE [t,a,sx sys] (amg t a sys))):=by
 have hin: ∀x∈[t,a,sx sys],In k x:=fun x hx=>by
  grind
 have hfm:alE [t,a,sx sys]=0→ ∀x∈[t,a,sx sys],Fm x:=fun h=>wh (fun x hx=>(hin x hx).1) h
 have hsl:sys.length<1073741824:=hs.1.node.2.2.2.2.2.2
 have hb: ∀g:Int→Option S,m9 k [t,a,.mk 15 0 ByteArray.empty [] [.mk 3 0 ByteArray.empty [] [] [],.mk 3 0 ByteArray.empty [] [] []] sys] g=g (alE [t,a,sx sys]):=fun g=>Re hk hin (by simp) g
 simp only [yy,Hr,ag hk.fu,ar,RY hk.fu,hb,hX,wm,RV hk (fun h=>hfm h t (by simp)) (show (0:Int)≤0∧(0:Int)≤1000000 by omega) (show (0:Int)≤1∧(1:Int)<9223372036854775808 by omega),
  RV hk (fun h=>hfm (ak3 h) a (by simp)) (show (0:Int)≤0∧(0:Int)≤1000000 by omega) (show (0:Int)≤1∧(1:Int)<9223372036854775808 by omega)]
 unfold soE
 have hfuel:sys.length<k:=by omega
 by_cases h0:alE [t,a,sx sys]=0
 ·have fl:=hfm h0 t (by simp)
  have fa:=hfm h0 a (by simp)
  have sy:=iQ (hfm h0 (sx sys) (by simp))
  have hlen:=sy.len
  rw [h0,if_pos rfl,T9]
  have hret:ret (tE (al_ (amg t a sys)))=eE (amg t a sys) (fun t=>eQ k t 0 fun z=>ret (z.1,z.2.1)) fun e=>ret (ao,e):=by
   unfold al_
   rw [amt _ ret,sb]
   refine ad3 (fun t ht=> ?_) fun _ _=>rfl
   rw [←amt _ ret]
   exact ((Rk hk (t:=t) (c:=0) (fun _=>(ux hk fl fa sy ht).1) ret).trans rfl).symm
  rw [hret]
  unfold amg
  rw [sb]
  cases h1:su 0 1 t with
  |error e=>
   have he:=al3 h1
   show gM k ret a _ sys k (mE e 0 1 a).2 [] 0=ret (ao,e)
   rw [wz (show e≠0 by omega)]
   exact uI hk ret (show e≠0 by omega) hsl sys [] [] k rfl (by omega) (by simp)
  |ok t'=>
   rw [aP,sb]
   show gM k ret a (15,0,ByteArray.empty,[t',(mE 0 0 1 a).1]) sys k (mE 0 0 1 a).2 [] 0=_
   rw [T9]
   cases h2:su 0 1 a with
   |error e=>
    have he:=al3 h2
    exact uI hk ret (show e≠0 by omega) hsl sys [] [] k rfl (by omega) (by simp)
   |ok a'=>
    rw [aP]
    refine (aeQ hk ret fa hsl sy.kid sys [] [] k rfl hfuel (by grind)).trans ?_
    rw [sb,sb]
    refine ad3 (fun l _=> ?_) fun _ _=>rfl
    rw [sb,sb]
    rfl
 ·rw [if_neg h0,wz h0]
  show gM k ret a _ sys k (mE (alE [t,a,sx sys]) 0 1 a).2 [] 0=_
  rw [wz h0]
  exact uI hk ret h0 hsl sys [] [] k rfl (by omega) (by simp)
theorem Jl (hk:F3 k) {e:Int} (he:0<e) (f:List Cl) (x:Tm) (ret:Tm→Option S):amx k (bh e) f x ret=ret (bh e):=by
 grind [amx,IF,ar,amC,ae]
theorem Fa (hk:F3 k) (ret:Tm→Option S) {a:Tm} (ha:Fm a) {sys:List (Br Tm)} {e:Int} (he:0<e) (hsl:sys.length<1073741824):
  ∀ (r p:List (Br Tm)) (m:Nat),sys=p++r→0<m→kJ k ret a sys m (bh e) (p.length:Int)=ret (bh e):=by
 intro r p m h hm
 obtain ⟨m,rfl⟩: ∃j,m=j+1:=⟨m-1,by omega⟩
 have hb:decide ((bh e).kind≥0)=false:=decide_eq_false (show ¬ (-e≥0) by omega)
 have hup: ∀g:Tm→Option S,amA k a 0 2 g=g (rE (su 0 2 a)):=fun g=>anE hk ha (by omega) (by omega) g
 cases r with
 |nil=>grind [kJ,oW,ad,ar,ag,Jl]
 |cons x r=>
  obtain ⟨e1,e2,e3,e4⟩:=ln h (by omega)
  grind [kJ,oW,ae,ad,ar,ag,Jl]
theorem afH (hk:F3 k) (ret:Tm→Option S) {a:Tm} (ha:Fm a) {sys:List (Br Tm)} (hsl:sys.length<1073741824) (hs: ∀b∈sys,b.kids=[wl b]∧Fm (wl b)∧aq b.face∧b.face.length<1073741824) {ks:List Tm}:
  ∀ (r p acc:List (Br Tm)) (m:Nat),sys=p++r→r.length<m→acc.length+r.length<1073741823→
   kJ k ret a sys m (.mk 15 0 ByteArray.empty [] ks acc) (p.length:Int)=ret (rE (bE (bE (gK r) fun l=>bE (su 0 2 a) fun a2=> .ok (l++[.mk [⟨0,1⟩] [a2]])) fun l=> .ok (.mk 15 0 ByteArray.empty [] ks (acc++l)))):=by
 have hup: ∀g:Tm→Option S,amA k a 0 2 g=g (rE (su 0 2 a)):=fun g=>anE hk ha (by omega) (by omega) g
 intro r
 induction r with
 |nil=>
  intro p acc m h hm hacc
  obtain ⟨m,rfl,hm'⟩:=km hm
  have hand: ∀g:Tm→Option S,amx k (.mk 15 0 ByteArray.empty [] ks acc) [⟨0,1⟩] (rE (su 0 2 a)) g=_:=fun g=>Bw hk (by decide) (by omega) (EA ha) g
  simp only [kJ,oW,akb h,ad,ar,ag hk.fu,hup,hand,gK,aD]
  congr 2
  cases su 0 2 a with
  |error e=>rfl
  |ok a2=>rfl
 |cons x r ih=>
  intro p acc m h hm hacc
  obtain ⟨m,rfl,hm'⟩:=km hm
  obtain ⟨e1,e2,e3,e4⟩:=ln h (by omega)
  obtain ⟨x1,x2,x3,x4⟩:=hs x (by grind)
  have hg:af x.kids 0=some (wl x):=by rw [x1];rfl
  have hkd:decide ((Tm.mk 15 0 ByteArray.empty [] ks acc).kind≥0)=true:=rfl
  have hlift: ∀g:List Cl×Int→Option S,amY k x.face 0 1 g=g (agS x.face 0 1):=fun g=>BB hk.fu x3 x4 (by unfold aG;omega) (by unfold aG;omega) g
  have hfar: ∀g:Tm→Option S,ni k (wl x) [⟨3,0⟩] g=g (rE (di [⟨3,0⟩] (wl x))):=fun g=>Q5 hk x2 QD g
  have ga:Gd (di [⟨3,0⟩] (wl x)):=⟨fun e h=>li h,fun t h=>by rw [Jn h];exact x2.rows.no.2.2⟩
  have hand: ∀ (f:List Cl) (g:Tm→Option S),amx k (.mk 15 0 ByteArray.empty [] ks acc) f (rE (di [⟨3,0⟩] (wl x))) g=g (rE (bE (di [⟨3,0⟩] (wl x)) fun y=> .ok (.mk 15 0 ByteArray.empty [] ks (acc++[.mk f [y]])))):=fun f g=>Bw hk (by decide) (by omega) ga g
  simp only [kJ,oW,e1,ae,hkd,e2,Option.bind_some,ag hk.fu,ar,hlift,hg,hfar,hand,bG]
  rw [gK]
  by_cases h1:(agS x.face 0 1).2=0
  ·rw [decide_eq_true h1,Bool.not_true,ad,jF h1,aD]
   cases h2:di [⟨3,0⟩] (wl x) with
   |error e=>
    grind [li,lk,rE,Fa]
   |ok u=>
    rw [aD,aD,e3]
    refine (ih (p++[x]) (acc++[.mk (agS x.face 0 1).1 [u]]) m e4 hm' (by grind)).trans ?_
    congr 2
    cases gK r with
    |error e=>rfl
    |ok l=>
     rw [aD,aD,aD]
     cases su 0 2 a with
     |error e=>rfl
     |ok a2=>grind [aD]
  ·rw [decide_eq_false h1,Bool.not_false,ae,iO h1,amu (T2 (q_ _ _ _) (iO h1))];rfl
theorem aiP (hk:F3 k) {t a:Tm} {sys:List (Br Tm)} (ht:Fm t) (ha:Fm a) (sy:SyF sys) (ret:Tm→Option S):uc k t a sys ret=ret (rE (amg t a sys)):=by
 have h15: ∀g:Tm→Option S,gH k 15 (rE (su 0 1 t)) (rE (su 0 1 a)) g=g (rE (bE (su 0 1 t) fun x=>bE (su 0 1 a) fun y=> .ok (tmK 15 [x,y]))):=fun g=>Bx hk (EA ht) (EA ha) g
 have hsl:=sy.len
 simp only [uc,IH,ag hk.fu,ar,anE hk ht (show (0:Int)≤0∧(0:Int)≤1000000000 by omega) (show (0:Int)≤1∧(1:Int)<9223372036854775808 by omega),anE hk ha (show (0:Int)≤0∧(0:Int)≤1000000000 by omega) (show (0:Int)≤1∧(1:Int)<9223372036854775808 by omega),h15]
 have hfuel:sys.length<k:=by omega
 unfold amg
 cases h1:su 0 1 t with
 |error e=>exact Fa hk ret ha (al3 h1).1 (by omega) sys [] k rfl (by omega)
 |ok t'=>
  rw [aD,aD]
  cases h2:su 0 1 a with
  |error e=>exact Fa hk ret ha (al3 h2).1 (by omega) sys [] k rfl (by omega)
  |ok a'=>
   rw [aD,aD]
   refine (afH hk ret ha (by omega) sy.kid (ks:=[t',a']) sys [] [] k rfl hfuel (by grind)).trans ?_
   congr 2
   cases gK sys with
   |error e=>rfl
   |ok l=>
    rw [aD,aD]
    cases su 0 2 a with
    |error e=>rfl
    |ok a2=>rfl
theorem ajP (hk:F3 k) {t a:Tm} {sys:List (Br Tm)} (ht:In k t) (ha:In k a) (hs:In k (sx sys)) (ret:Tm×Int→Option S):zw k t a sys ret=ret (tE (soE [t,a,sx sys] (amg t a sys))):=by
 have hin: ∀x∈[t,a,sx sys],In k x:=fun x hx=>by
  grind
 have hfm:alE [t,a,sx sys]=0→ ∀x∈[t,a,sx sys],Fm x:=fun h=>wh (fun x hx=>(hin x hx).1) h
 simp only [zw,TH,ag hk.fu,ar,Q7 hk.fu]
 exact RR hk hin (by simp) (F:=uc k t a sys) (fun h g=>aiP hk (hfm h t (by simp)) (hfm h a (by simp)) (iQ (hfm h (sx sys) (by simp))) g)
  (fun h=>⟨fun e he=>uw he,fun x hx=>ux hk (hfm h t (by simp)) (hfm h a (by simp)) (iQ (hfm h (sx sys) (by simp))) hx⟩) ret
end Go.Proofs.YtfkkpkhfjpaafaaGreatDoor
namespace Go.Proofs.YtfkkpkhfjpaafaaGreatDoor
open Go PI
set_option linter.unusedVariables false
set_option linter.unusedSimpArgs false
set_option maxRecDepth 20000
variable {S:Type} {k:Nat}
def mM (c:Int) (x:Except Int Tm):Tm×Int:=if c=0 then tE x else (ao,c)
theorem kR (x:Except Int Tm):mM 0 x=tE x:=rfl
theorem n9 {c:Int} (h:c≠0) (x:Except Int Tm):mM c x=(ao,c):=if_neg h
theorem rJ (t:Tm) (e c:Int) (ret:Tm×Int→Option S):fP k t e c ret=ret (if c=0 then (if e=0 then (t,0) else (ao,e)) else (ao,c)):=by
 simp only [fP,S9,ar]
 by_cases hc:c=0
 ·subst hc
  rw [show ((0:Int)==0)=true from rfl,ae,if_pos rfl]
  by_cases he:e=0
  ·subst he;rfl
  ·rw [dj he,Bool.not_false,ae,if_neg he];rfl
 ·rw [dj hc,ad,if_neg hc,Bool.not_false,ae];rfl
theorem Lw (x:Except Int Tm) (hx: ∀e,x= .error e→e≠0) (c:Int):(if c=0 then (if (tE x).2=0 then ((tE x).1,(0:Int)) else (ao,(tE x).2)) else (ao,c))=mM c x:=by
 unfold mM
 split
 ·cases x with
  |ok t=>rfl
  |error e=>rw [if_neg (show (tE (.error e)).2≠0 from hx e rfl)];rfl
 ·rfl
theorem Az {f:(Tm×Int→Option S)→Option S} {x:Except Int Tm} (c:Int) (hf:c=0→ ∀g,f g=g (tE x)) (hx: ∀e,x= .error e→e≠0) (ret:Tm×Int→Option S):
  (ab (!(c==0)) (ret (ao,c)) (f fun r=>ret (if c=0 then (if r.2=0 then (r.1,0) else (ao,r.2)) else (ao,c))))=ret (mM c x):=by
 by_cases hc:c=0
 ·subst hc
  rw [show (!((0:Int)==0))=false from rfl,ad,hf rfl,←Lw x hx 0]
 ·rw [dj hc,Bool.not_false,ae,n9 hc]
theorem FP {x:Except Int Tm} (h: ∀e,x= .error e→0<e∧e≤1000): ∀e,x= .error e→e≠0:=fun e he=>by have:=h e he;omega
theorem ak4 {a b:Int} {t:Tm}: ∀e,wA a b t= .error e→0<e∧e≤1000:=fun e h=>z7 (fun e h=>al3 h) h
theorem aak {a b:Int} {t:Tm}: ∀e,pH a b t= .error e→0<e∧e≤1000:=fun e h=>z7 (fun e h=>amo t h) h
theorem ajn (hk:F3 k) {t:Tm} {a b c:Int} (ht:c=0→In k t) (ha:0≤a∧a<1000) (hb:0≤b∧b<1000) (ret:Tm×Int→Option S):zb k t a b c ret=ret (mM c (wA a b t)):=by
 simp only [zb,S8,ag hk.fu,dG,oI,ar,rJ]
 exact Az c (fun h g=>aiH hk (ht h) (vb:=a) (db:=b) (by omega) (by omega) g) (FP ak4) ret
def dM (c:Int) (t:Tm):Tm×Int:=if c=0 then (if bw t=0 then (t,0) else (ao,bw t)) else (ao,c)
def iP (x:Except Int Tm):Tm×Bool×Int:=match x with
 | .ok t=>if bw t=0 then (t,true,0) else (ao,false,bw t)
 | .error e=>(ao,false,e)
theorem Ry (hk:F3 k) {t:Tm} {c:Int} (ht:In k t) (ret:Tm×Bool×Int×Int→Option S):ly k t c ret=ret ((dM c t).1,(dM c t).2==0,(dM c t).2,(dM c t).2):=by
 simp only [ly,S5,ag hk.fu,dG,oI,ar,rJ,amv ht.1 ht.2.1 ht.dep]
 have:OkT (dM c t).1∧Fd k (am (dM c t).1):=by
  unfold dM
  split
  ·split
   ·exact ⟨ht.1,ht.2.1⟩
   ·exact ⟨(gQ hk).1,(gQ hk).2.1⟩
  ·exact ⟨(gQ hk).1,(gQ hk).2.1⟩
 exact vU (dM c t).1 this.1 _ this.2
theorem aae {t:Tm} (g:Tm×Bool×Int→Option S):g ((dM 0 t).1,(dM 0 t).2==0,(dM 0 t).2)=g (iP (.ok t)):=by
 unfold dM iP
 simp only [if_true]
 split
 ·rfl
 ·rename_i h;rw [dj h]
theorem JF {c:Int} (h:c≠0) {t:Tm} (g:Tm×Bool×Int→Option S):g ((dM c t).1,(dM c t).2==0,(dM c t).2)=g (iP (.error c)):=by
 unfold dM iP
 rw [if_neg h,dj h]
end Go.Proofs.YtfkkpkhfjpaafaaGreatDoor
