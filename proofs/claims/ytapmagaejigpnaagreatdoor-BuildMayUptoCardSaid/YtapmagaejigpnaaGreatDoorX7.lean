/- Part 7 of a proof: the sources, with their names and remarks, lie in wip/. -/
import Derived.Test.YtapmagaejigpnaaGreatDoorX6
namespace Go.Proofs.YtapmagaejigpnaaGreatDoor
open Go PI
set_option linter.unusedVariables false
set_option linter.unusedSimpArgs false
set_option maxRecDepth 20000
variable {S:Type} {k:Nat}
abbrev Fd (k n:Nat):Prop:=4294967296+n≤k
theorem Fd.fu {n:Nat} (h:Fd k n):Fu k:=by have:4294967296+n≤k:=h;show 4294967296≤k;omega
theorem Fd.pos {n:Nat} (h:Fd k n): ∃q,k=q+1∧ ∀j,j+1≤n→Fd q j:=⟨k-1,by have:4294967296+n≤k:=h;omega,fun j hj=>by have:4294967296+n≤k:=h;show 4294967296+j≤k-1;omega⟩
theorem Fd.pos' {n:Nat} (h:Fd k n) (hn:1≤n): ∃q,k=q+1∧Fu q∧ ∀j,j+1≤n→Fd q j:=⟨k-1,by have:4294967296+n≤k:=h;omega,by have:4294967296+n≤k:=h;show 4294967296≤k-1;omega,fun j hj=>by have:4294967296+n≤k:=h;show 4294967296+j≤k-1;omega⟩
theorem d_ (t:Tm):1≤aq t:=by cases t;rw [aq];omega
theorem sf (t:Tm):aq t=max (aJ t.kids) (ba t.sys)+1:=by cases t;rw [aq];rfl
theorem Ga (t:Tm):ax t=1+ar t.kids+ay t.sys:=by cases t;rw [ax];rfl
theorem dT {t x:Tm} (h:x∈t.kids):aq x+1≤aq t:=by rw [sf t];have:=vU h;omega
theorem dS {t:Tm} {b:Br Tm} {x:Tm} (hb:b∈t.sys) (h:x∈b.kids):aq x+1≤aq t:=by rw [sf t];have:=vU h;have:=Aw hb;omega
theorem gb {Q:Tm→Prop} (h: ∀t,(∀x∈t.kids,Q x)→(∀b∈t.sys,∀x∈b.kids,Q x)→Q t) (t:Tm):Q t:=eW (fun kd n nm r ks sys h1 h2=>h (.mk kd n nm r ks sys) h1 h2) t
theorem sc {p q:Prop} [Decidable p] [Decidable q] (h:p↔q):decide p=decide q:=decide_eq_decide.2 h
theorem F7 {α:Type} (b c:Bool) (x y:α):ab (!b) y (if c then x else y)=if b&&c then x else y:=by cases b<;>cases c<;>rfl
theorem F8 {S:Type} (b c:Bool) (ret:Bool→Option S):ab (!b) (ret false) (ret c)=ret (b&&c):=by cases b<;>rfl
theorem BA {S:Type} (b c:Bool) (ret:Bool→Option S):(if b=true then ret c else ret false)=ret (b&&c):=by cases b<;>rfl
theorem bQ {n:Int} (h1: -9223372036854775808≤n) (h2:n<9223372036854775808):IntKind.wrap .i64 n=n:=m_ h1 h2
section
variable {hd:Tm→Int→(Bool→Option S)→Option S} {c0:Int} {t:Tm} {Q:Tm→Bool}
theorem PH (hk:Fu k) (ret:Bool→Option S) (rec1:Int→Int→Option S) (hc: -9223372036854775807≤c0) (hc':c0<9223372036854775808) {v more:Int} {x:Br Tm} (hQ: ∀y∈x.kids,∀g,hd y (c0-1) g=g (Q y)) (hl:x.kids.length<1073741824):
  ∀ (r p:List Tm) (m:Nat),x.kids=p++r→r.length<m→jv hd k ret rec1 c0 t v x more m (p.length:Int)=if r.all Q then rec1 (IntKind.wrap .i64 (v+1)) more else ret false:=by
 intro r
 induction r with
 |nil=>
  intro p m h hm
  obtain ⟨m,rfl,hm'⟩:=am hm
  simp only [jv,qV,aU h,ad];rfl
 |cons y r ih=>
  intro p m h hm
  obtain ⟨m,rfl,hm'⟩:=am hm
  obtain ⟨e1,e2,e3,e4⟩:=aS h (by omega)
  have hy:=hQ y (by rw [h];simp)
  simp only [jv,qV,e1,ag,e2,Option.bind_some,aj hk,oi,zB,aF,bQ (show-9223372036854775808≤c0-1 by omega) (by omega),hy,e3,ih (p++[y]) m e4 hm',F7]
  rfl
theorem PG (hk:Fu k) (ret:Bool→Option S) (hc: -9223372036854775807≤c0) (hc':c0<9223372036854775808) {more:Int} (hQ: ∀b∈t.sys,∀y∈b.kids,∀g,hd y (c0-1) g=g (Q y)) (hl:t.sys.length<1073741824) (hl': ∀b∈t.sys,b.kids.length<1073741824):
  ∀ (r p:List (Br Tm)) (m:Nat),t.sys=p++r→r.length<m→fR hd k ret c0 t m (p.length:Int) more=ret (r.all fun b=>b.kids.all Q):=by
 intro r
 induction r with
 |nil=>
  intro p m h hm
  obtain ⟨m,rfl,hm'⟩:=am hm
  simp only [fR,nJ,aU h,ad];rfl
 |cons x r ih=>
  intro p m h hm
  obtain ⟨m,rfl,hm'⟩:=am hm
  obtain ⟨e1,e2,e3,e4⟩:=aS h (by omega)
  have hx:x∈t.sys:=by rw [h];simp
  have hlx:=hl' x hx
  have:=PH (t:=t) hk ret (fR hd k ret c0 t m) (v:=(p.length:Int)) (more:=more) hc hc' (hQ x hx) hlx x.kids [] k rfl (by have:4294967296≤k:=hk;omega)
  have this:jv hd k ret (fR hd k ret c0 t m) c0 t (p.length:Int) x more k 0=_:=this
  simp only [fR,nJ,e1,ag,e2,Option.bind_some,this,e3,ih (p++[x]) m e4 hm',BA]
  rfl
theorem PF (hk:Fu k) (ret:Bool→Option S) (hc: -9223372036854775807≤c0) (hc':c0<9223372036854775808) (hQ: ∀y∈t.kids,∀g,hd y (c0-1) g=g (Q y)) (hQ': ∀b∈t.sys,∀y∈b.kids,∀g,hd y (c0-1) g=g (Q y)) (ht:OkT t):
  ∀ (r p:List Tm) (m:Nat),t.kids=p++r→r.length<m→mo hd k ret c0 t m (p.length:Int)=ret (r.all Q&&t.sys.all fun b=>b.kids.all Q):=by
 obtain ⟨o1,o2,o3,o4,o5,o6,o7⟩:=ht.no
 intro r
 induction r with
 |nil=>
  intro p m h hm
  obtain ⟨m,rfl,hm'⟩:=am hm
  have hs: ∀more:Int,fR hd k ret c0 t k 0 more=_:=fun more=>PG hk ret hc hc' (more:=more) hQ' o7 (fun b hb=>(ht.bi hb).1.2.2) t.sys [] k rfl (by have:4294967296≤k:=hk;omega)
  simp only [mo,nI,aU h,ad,hs]
  cases (t.kind==15)<;>rfl
 |cons y r ih=>
  intro p m h hm
  obtain ⟨m,rfl,hm'⟩:=am hm
  obtain ⟨e1,e2,e3,e4⟩:=aS h (by omega)
  have hy:=hQ y (by rw [h];simp)
  simp only [mo,nI,e1,ag,e2,Option.bind_some,aj hk,kT,oi,zB,aF,bQ (show-9223372036854775808≤c0-1 by omega) (by omega),hy,e3,ih (p++[y]) m e4 hm',F8,List.all_cons,Bool.and_assoc]
end
theorem Au {n:Int} (hn:0≤n): ∀ {l:List Tm},(l.all fun x=>decide ((aq x:Int)≤n))=decide ((aJ l:Int)≤n):=by
 intro l
 induction l with
 |nil=>rw [aJ];simp [hn]
 |cons t l ih=>rw [List.all_cons,ih,aJ,Bool.eq_iff_iff];simp;omega
theorem L7 {n:Int} (hn:0≤n): ∀ {l:List (Br Tm)},(l.all fun b=>b.kids.all fun x=>decide ((aq x:Int)≤n))=decide ((ba l:Int)≤n):=by
 intro l
 induction l with
 |nil=>rw [ba];simp [hn]
 |cons b l ih=>rw [List.all_cons,ih,Au hn,ba,om,Bool.eq_iff_iff];simp;omega
theorem TG (t:Tm):OkT t→ ∀ {k:Nat} {left:Int} (ret:Bool→Option S),Fd k (aq t)→ -4611686018427387904≤left→left<4611686018427387904→gu k t left ret=ret (decide ((aq t:Int)≤left)):=by
 induction t using gb with
 |h t ih1 ih2=>
  intro ht k left ret hk h1 h2
  obtain ⟨q,rfl,hq,hf⟩:=hk.pos' (d_ t)
  simp only [gu,Hw,b9,aF,aj hq]
  by_cases h0:left>0
  ·rw [if_pos h0]
   have hQ: ∀y∈t.kids,∀g:Bool→Option S,gu q y (left-1) g=g (decide ((aq y:Int)≤left-1)):=fun y hy g=>ih1 y hy (ht.ki hy) g (hf _ (dT hy)) (by omega) (by omega)
   have hQ': ∀b∈t.sys,∀y∈b.kids,∀g:Bool→Option S,gu q y (left-1) g=g (decide ((aq y:Int)≤left-1)):=fun b hb y hy g=>ih2 b hb y hy ((ht.bi hb).2 y hy) g (hf _ (dS hb hy)) (by omega) (by omega)
   have:=PF (Q:=fun y=>decide ((aq y:Int)≤left-1)) hq ret (by omega) (by omega) hQ hQ' ht t.kids [] q rfl (by have:=ht.no.2.2.2.2.2.1;have:4294967296≤q:=hq;omega)
   simp only [vT,zy]
   refine Eq.trans this ?_
   rw [Au (by omega),L7 (by omega),sf]
   congr 1
   rw [Bool.eq_iff_iff];simp;omega
  ·rw [if_neg h0,decide_eq_false (by have:=d_ t;omega)]
section
variable {hd:Tm→Int→(Bool×Int→Option S)→Option S} {t:Tm}
def nd (hd:Tm→Int→(Bool×Int→Option S)→Option S) (k:Nat) (y:Tm):Prop:= ∀ (c:Int) (g:Bool×Int→Option S),0≤c→c<4611686018427387904→
 ∃v,lA hd k y c g=g (decide ((ax y:Int)≤c),v)∧((ax y:Int)≤c→v=c-ax y)
theorem PE (hk:Fu k) (ret:Bool×Int→Option S) (rec1:Int→Int→Int→Option S) {v more:Int} {x:Br Tm} (hQ: ∀y∈x.kids,nd hd k y) (hl:x.kids.length<1073741824):
  ∀ (r p:List Tm) (m:Nat) (c:Int),0≤c→c<4611686018427387904→x.kids=p++r→r.length<m→
  ((ar r:Int)≤c→fP hd k ret rec1 t v x more m c (p.length:Int)=rec1 (c-ar r) (IntKind.wrap .i64 (v+1)) more)∧(¬ (ar r:Int)≤c→ ∃w,fP hd k ret rec1 t v x more m c (p.length:Int)=ret (false,w)):=by
 intro r
 induction r with
 |nil=>
  intro p m c h0 h1 h hm
  obtain ⟨m,rfl,hm'⟩:=am hm
  simp only [fP,qT,aU h,ad,ar]
  exact ⟨fun _=>by simp,fun h=>absurd h (by simpa using h0)⟩
 |cons y r ih=>
  intro p m c h0 h1 h hm
  obtain ⟨m,rfl,hm'⟩:=am hm
  obtain ⟨e1,e2,e3,e4⟩:=aS h (by omega)
  have hy:=hQ y (by rw [h];simp)
  obtain ⟨w,hw,hw'⟩:=hy c (fun r1=>(fun r6:Bool×Int=>ab (!r6.1) (ret (false,r6.2)) (fP hd k ret rec1 t v x more m r6.2 (((p++[y]).length:Nat):Int))) (r1.1,r1.2)) h0 h1
  simp only [fP,qT,e1,ag,e2,Option.bind_some,aj hk,ol,zC,aF,e3,ar]
  rw [hw]
  by_cases hs:(ax y:Int)≤c
  ·have:=hw' hs
   subst this
   obtain ⟨i1,i2⟩:=ih (p++[y]) m (c-ax y) (by omega) (by omega) e4 hm'
   simp only [decide_eq_true hs,Bool.not_true,ad]
   refine ⟨fun h=> ?_,fun h=> ?_⟩
   ·rw [i1 (by omega)];congr 1;omega
   ·exact i2 (by omega)
  ·simp only [decide_eq_false hs,Bool.not_false,ag]
   exact ⟨fun h=>absurd h (by omega),fun _=>⟨w,rfl⟩⟩
theorem PD (hk:Fu k) (ret:Bool×Int→Option S) {more:Int} (hQ: ∀b∈t.sys,∀y∈b.kids,nd hd k y) (hl:t.sys.length<1073741824) (hl': ∀b∈t.sys,b.kids.length<1073741824):
  ∀ (r p:List (Br Tm)) (m:Nat) (c:Int),0≤c→c<4611686018427387904→t.sys=p++r→r.length<m→
  ((ay r:Int)≤c→eJ hd k ret t m c (p.length:Int) more=ret (true,c-ay r))∧(¬ (ay r:Int)≤c→ ∃w,eJ hd k ret t m c (p.length:Int) more=ret (false,w)):=by
 intro r
 induction r with
 |nil=>
  intro p m c h0 h1 h hm
  obtain ⟨m,rfl,hm'⟩:=am hm
  simp only [eJ,nF,aU h,ad,ay]
  exact ⟨fun _=>by simp,fun h=>absurd h (by simpa using h0)⟩
 |cons x r ih=>
  intro p m c h0 h1 h hm
  obtain ⟨m,rfl,hm'⟩:=am hm
  obtain ⟨e1,e2,e3,e4⟩:=aS h (by omega)
  have hx:x∈t.sys:=by rw [h];simp
  have hlx:=hl' x hx
  have:=PE (t:=t) hk ret (eJ hd k ret t m) (v:=(p.length:Int)) (more:=more) (hQ x hx) hlx x.kids [] k c h0 h1 rfl (by have:4294967296≤k:=hk;omega)
  simp only [eJ,nF,e1,ag,e2,Option.bind_some,ay,jH]
  by_cases hs:(ar x.kids:Int)≤c
  ·have e:fP hd k ret (eJ hd k ret t m) t (p.length:Int) x more k c 0=_:=this.1 hs
   obtain ⟨i1,i2⟩:=ih (p++[x]) m (c-ar x.kids) (by omega) (by omega) e4 hm'
   rw [e,e3]
   refine ⟨fun h=> ?_,fun h=>i2 (by omega)⟩
   rw [i1 (by omega)];congr 2;omega
  ·obtain ⟨w,e⟩:=this.2 hs
   have e:fP hd k ret (eJ hd k ret t m) t (p.length:Int) x more k c 0=_:=e
   rw [e]
   exact ⟨fun h=>absurd h (by omega),fun _=>⟨w,rfl⟩⟩
theorem PC (hk:Fu k) (ret:Bool×Int→Option S) (hQ: ∀y∈t.kids,nd hd k y) (hQ': ∀b∈t.sys,∀y∈b.kids,nd hd k y) (ht:OkT t):
  ∀ (r p:List Tm) (m:Nat) (c:Int),0≤c→c<4611686018427387904→t.kids=p++r→r.length<m→
  ∃w,ku hd k ret t m c (p.length:Int)=ret (decide (((ar r+ay t.sys:Nat):Int)≤c),w)∧(((ar r+ay t.sys:Nat):Int)≤c→w=c-((ar r+ay t.sys:Nat):Int)):=by
 obtain ⟨o1,o2,o3,o4,o5,o6,o7⟩:=ht.no
 intro r
 induction r with
 |nil=>
  intro p m c h0 h1 h hm
  obtain ⟨m,rfl,hm'⟩:=am hm
  have hs: ∀more:Int,_:=fun more=>PD hk ret (more:=more) hQ' o7 (fun b hb=>(ht.bi hb).1.2.2) t.sys [] k c h0 h1 rfl (by have:4294967296≤k:=hk;omega)
  have key: ∀more:Int,∃w,eJ hd k ret t k c 0 more=ret (decide (((ay t.sys:Nat):Int)≤c),w)∧(((ay t.sys:Nat):Int)≤c→w=c-((ay t.sys:Nat):Int)):=fun more=>by
   by_cases hc:(ay t.sys:Int)≤c
   ·exact ⟨_,((hs more).1 hc).trans (by rw [decide_eq_true hc]),fun _=>rfl⟩
   ·obtain ⟨w,e⟩:=(hs more).2 hc
    exact ⟨w,Eq.trans e (by rw [decide_eq_false hc]),fun h=>absurd h hc⟩
  have hz:ar []+ay t.sys=ay t.sys:=by rw [ar,Nat.zero_add]
  rw [hz]
  simp only [ku,nE,aU h,ad]
  cases (t.kind==15) with
  |true=>exact key 1
  |false=>exact key 0
 |cons y r ih=>
  intro p m c h0 h1 h hm
  obtain ⟨m,rfl,hm'⟩:=am hm
  obtain ⟨e1,e2,e3,e4⟩:=aS h (by omega)
  have hy:=hQ y (by rw [h];simp)
  obtain ⟨w,hw,hw'⟩:=hy c (fun r1=>(fun r3:Bool×Int=>ab (!r3.1) (ret (false,r3.2)) (ku hd k ret t m r3.2 (((p++[y]).length:Nat):Int))) (r1.1,r1.2)) h0 h1
  have hz:ar (y::r)+ay t.sys=ax y+ar r+ay t.sys:=by rw [ar]
  rw [hz]
  simp only [ku,nE,e1,ag,e2,Option.bind_some,aj hk,kT,ol,zC,aF,e3]
  rw [hw]
  by_cases hs:(ax y:Int)≤c
  ·have:=hw' hs
   subst this
   obtain ⟨u,i1,i2⟩:=ih (p++[y]) m (c-ax y) (by omega) (by omega) e4 hm'
   simp only [decide_eq_true hs,Bool.not_true,ad]
   refine ⟨u,i1.trans ?_,fun h=> ?_⟩
   ·congr 2;exact sc (by omega)
   ·rw [i2 (by omega)];omega
  ·simp only [decide_eq_false hs,Bool.not_false,ag]
   exact ⟨w,by rw [decide_eq_false (by omega)],fun h=>absurd h (by omega)⟩
end
theorem Tb (t:Tm):OkT t→ ∀ {k:Nat} (c:Int) (ret:Bool×Int→Option S),Fd k (aq t)→0≤c→c<4611686018427387904→
  ∃w,d9 k t c ret=ret (decide ((ax t:Int)-1≤c),w)∧((ax t:Int)-1≤c→w=c-((ax t:Int)-1)):=by
 induction t using gb with
 |h t ih1 ih2=>
  intro ht k c ret hk h1 h2
  obtain ⟨q,rfl,hq,hf⟩:=hk.pos' (d_ t)
  have cnt: ∀y,(∀ {k:Nat} (c:Int) (ret:Bool×Int→Option S),Fd k (aq y)→0≤c→c<4611686018427387904→ ∃w,d9 k y c ret=ret (decide ((ax y:Int)-1≤c),w)∧((ax y:Int)-1≤c→w=c-((ax y:Int)-1)))→
    Fd q (aq y)→nd (S:=S) (d9 q) q y:=by
   intro y hy hfy c g h0 h1
   simp only [lA,zD,aF,bQ (show-9223372036854775808≤c-1 by omega) (by omega),b9]
   have:=yC y
   by_cases hc:c-1≥0
   ·rw [if_pos hc]
    obtain ⟨w,e,e'⟩:=hy (c-1) (fun r1=>g (r1.1,r1.2)) hfy (by omega) (by omega)
    refine ⟨w,e.trans ?_,fun h=> ?_⟩
    ·congr 2;exact sc (by omega)
    ·rw [e' (by omega)];omega
   ·rw [if_neg hc]
    exact ⟨c-1,by rw [decide_eq_false (by omega)],fun h=>by omega⟩
  obtain ⟨w,e,e'⟩:=PC hq ret (fun y hy=>cnt y (fun c ret=>ih1 y hy (ht.ki hy) c ret) (hf _ (dT hy))) (fun b hb y hy=>cnt y (fun c ret=>ih2 b hb y hy ((ht.bi hb).2 y hy) c ret) (hf _ (dS hb hy))) ht t.kids [] q c h1 h2 rfl (by have:=ht.no.2.2.2.2.2.1;have:4294967296≤q:=hq;omega)
  simp only [d9,zw]
  have hz:=Ga t
  refine ⟨w,Eq.trans e ?_,fun h=> ?_⟩
  ·congr 2;exact sc (by omega)
  ·rw [e' (by omega)];omega
theorem TH {t:Tm} (ht:OkT t) (hk:Fd k (aq t)) {most:Int} (h0:0<most) (h1:most<4611686018427387904) (ret:Bool→Option S):sb k t most ret=ret (decide ((ax t:Int)≤most)):=by
 simp only [sb,Hy,aj hk.fu,lA,zD,aF,bQ (show-9223372036854775808≤most-1 by omega) (by omega),b9]
 rw [if_pos (by omega)]
 obtain ⟨w,e,_⟩:=Tb t ht (most-1) (fun r1=>ret (r1.1,r1.2).1) hk (by omega) (by omega)
 refine Eq.trans e ?_
 show ret (decide _)=_
 congr 1;exact sc (by omega)
def VD (vars dims:Int) (n:Nat):Prop:= -4611686018427387904≤vars∧vars+n<4611686018427387904∧0≤dims∧dims+n<4611686018427387904
section
variable {hd:Tm→Int→Int→Bool→(Bool→Option S)→Option S} {vars dims:Int} {bd:Bool} {t:Tm}
theorem FG (hv:VD vars dims 1) {v d:Int} (h1:0≤v∧v≤1) (h2:0≤d∧d≤1) (y:Tm) (g:Bool→Option S):oe hd k y v d vars dims bd g=hd y (aW vars v) (dims+d) bd g:=by
 unfold VD at hv
 simp only [oe,Hv,aF,b9,bQ (n:=vars+0) (by omega) (by omega),bQ (n:=vars+v) (by omega) (by omega),bQ (n:=dims+d) (by omega) (by omega)]
 unfold aW
 split
 ·rw [Int.add_zero]
 ·rfl
theorem PB (hk:Fu k) (ret:Bool→Option S) (rec1:Int→Int→Option S) (hv:VD vars dims 1) {v more:Int} {x:Br Tm} (hm:more=au t.kind) (hQ: ∀y∈x.kids,∀g,hd y vars (dims+more) bd g=g (az bd vars (dims+more) y)) (hl:x.kids.length<1073741824):
  ∀ (r p:List Tm) (m:Nat),x.kids=p++r→r.length<m→ju hd k ret rec1 vars dims bd t v x more m (p.length:Int)=if b8 bd vars dims t.kind r then rec1 (IntKind.wrap .i64 (v+1)) more else ret false:=by
 subst hm
 intro r
 induction r with
 |nil=>
  intro p m h hm
  obtain ⟨m,rfl,hm'⟩:=am hm
  simp only [ju,qU,aU h,ad];rfl
 |cons y r ih=>
  intro p m h hm
  obtain ⟨m,rfl,hm'⟩:=am hm
  obtain ⟨e1,e2,e3,e4⟩:=aS h (by omega)
  have hy:=hQ y (by rw [h];simp)
  have h0:aW vars 0=vars:=by unfold aW;split<;>omega
  simp only [ju,qU,e1,ag,e2,Option.bind_some,aj hk,aF,FG hv (show (0:Int)≤0∧(0:Int)≤1 by omega) (ei t.kind),h0,hy,e3,ih (p++[y]) m e4 hm',F7]
  rw [b8]
theorem PA (hk:Fu k) (ret:Bool→Option S) (hv:VD vars dims 1) {more:Int} (hm:more=au t.kind) (hQ: ∀b∈t.sys,∀y∈b.kids,∀g,hd y vars (dims+more) bd g=g (az bd vars (dims+more) y)) (hl:t.sys.length<1073741824) (hl': ∀b∈t.sys,b.kids.length<1073741824):
  ∀ (r p:List (Br Tm)) (m:Nat),t.sys=p++r→r.length<m→fQ hd k ret vars dims bd t m (p.length:Int) more=ret (bg bd vars dims t.kind r):=by
 intro r
 induction r with
 |nil=>
  intro p m h hm
  obtain ⟨m,rfl,hm'⟩:=am hm
  simp only [fQ,nH,aU h,ad,bg]
 |cons x r ih=>
  intro p m h hml
  obtain ⟨m,rfl,hm'⟩:=am hml
  obtain ⟨e1,e2,e3,e4⟩:=aS h (by omega)
  have hx:x∈t.sys:=by rw [h];simp
  have hlx:=hl' x hx
  have:=PB (t:=t) (bd:=bd) hk ret (fQ hd k ret vars dims bd t m) hv (v:=(p.length:Int)) hm (hQ x hx) hlx x.kids [] k rfl (by have:4294967296≤k:=hk;omega)
  have this:ju hd k ret (fQ hd k ret vars dims bd t m) vars dims bd t (p.length:Int) x more k 0=_:=this
  simp only [fQ,nH,e1,ag,e2,Option.bind_some,this,e3,ih (p++[x]) m e4 hm']
  have ea:bg bd vars dims t.kind (x::r)=(b8 bd vars dims t.kind x.kids&&bg bd vars dims t.kind r):=by cases x;rw [bg,eZ]
  rw [ea,BA]
theorem Pz (hk:Fu k) (ret:Bool→Option S) (hv:VD vars dims 1) (hQ: ∀y∈t.kids,∀v d,0≤v∧v≤1→0≤d∧d≤1→ ∀g,hd y (aW vars v) (dims+d) bd g=g (az bd (aW vars v) (dims+d) y)) (hQ': ∀b∈t.sys,∀y∈b.kids,∀g,hd y vars (dims+au t.kind) bd g=g (az bd vars (dims+au t.kind) y)) (ht:OkT t):
  ∀ (r p:List Tm) (m:Nat),t.kids=p++r→r.length<m→kw hd k ret vars dims bd t m (p.length:Int)=ret (bt bd vars dims t.kind p.length r&&bg bd vars dims t.kind t.sys):=by
 obtain ⟨o1,o2,o3,o4,o5,o6,o7⟩:=ht.no
 intro r
 induction r with
 |nil=>
  intro p m h hm
  obtain ⟨m,rfl,hm'⟩:=am hm
  have hs:fQ hd k ret vars dims bd t k 0 (au t.kind)=_:=PA hk ret hv rfl hQ' o7 (fun b hb=>(ht.bi hb).1.2.2) t.sys [] k rfl (by have:4294967296≤k:=hk;omega)
  simp only [kw,nG,aU h,ad]
  rw [bt,Bool.true_and,←hs]
  unfold au
  rw [ew]
  by_cases h15:t.kind=15
  ·rw [if_pos h15,if_pos (by rw [h15];rfl)]
  ·rw [if_neg h15,if_neg (by rw [beq_iff_eq];exact h15)]
 |cons y r ih=>
  intro p m h hm
  obtain ⟨m,rfl,hm'⟩:=am hm
  obtain ⟨e1,e2,e3,e4⟩:=aS h (by omega)
  have b1:=vh t.kind p.length
  have b2:=e7 t.kind p.length
  have hy:=hQ y (by rw [h];simp) (dj t.kind p.length) (bj t.kind p.length) b1 b2
  simp only [kw,nG,e1,ag,e2,Option.bind_some,aj hk,kT,aF,FG hv b1 b2,hy,e3,ih (p++[y]) m e4 hm',F8]
  rw [bt,show (p++[y]).length=p.length+1 by simp,Bool.and_assoc]
end
theorem p9 (bd:Bool) (vars dims:Int) (t:Tm):az bd vars dims t=(!(bd&&decide (dims>24))&&(cJ vars dims t&&(bt bd vars dims t.kind 0 t.kids&&bg bd vars dims t.kind t.sys))):=by cases t;rw [az];rfl
theorem UM {vars v:Int} (h:0≤v∧v≤1):vars≤aW vars v∧aW vars v≤vars+1:=by unfold aW;split<;>omega
theorem FF (t:Tm):OkT t→ ∀ {k:Nat} {vars dims:Int} {bd:Bool} (ret:Bool→Option S),Fd k (aq t)→VD vars dims (aq t)→eF k t vars dims bd ret=ret (az bd vars dims t):=by
 induction t using gb with
 |h t ih1 ih2=>
  intro ht k vars dims bd ret hk hv
  obtain ⟨q,rfl,hq,hf⟩:=hk.pos' (d_ t)
  have hp:=d_ t
  have hv':=hv
  unfold VD at hv'
  have hv1:VD vars dims 1:=by unfold VD;omega
  have hm:=ei t.kind
  have hQ: ∀y∈t.kids,∀v d,0≤v∧v≤1→0≤d∧d≤1→ ∀g:Bool→Option S,eF q y (aW vars v) (dims+d) bd g=g (az bd (aW vars v) (dims+d) y):=fun y hy v d h1 h2 g=>ih1 y hy (ht.ki hy) g (hf _ (dT hy)) (by
   have:=dT hy;have:=UM (vars:=vars) h1;unfold VD;omega)
  have hQ': ∀b∈t.sys,∀y∈b.kids,∀g:Bool→Option S,eF q y vars (dims+au t.kind) bd g=g (az bd vars (dims+au t.kind) y):=fun b hb y hy g=>ih2 b hb y hy ((ht.bi hb).2 y hy) g (hf _ (dS hb hy)) (by
   have:=dS hb hy;unfold VD;omega)
  have:=Pz (bd:=bd) hq ret hv1 hQ hQ' ht t.kids [] q rfl (by have:=ht.no.2.2.2.2.2.1;have:4294967296≤q:=hq;omega)
  have this:kw (eF q) q ret vars dims bd t q 0=_:=this
  simp only [eF,Hu,aF,aj hq,TC hq ht (show 0≤dims by omega) (show dims<9223372036854775808 by omega),r_,zx,this]
  rw [p9]
  cases bd with
  |true=>
   rw [ag,b9,Bool.true_and]
   by_cases h24:dims>24
   ·rw [if_pos h24,decide_eq_true h24];rfl
   ·rw [if_neg h24,decide_eq_false h24]
    cases cJ vars dims t<;>rfl
  |false=>
   rw [ad]
   cases cJ vars dims t<;>rfl
theorem FX {t:Tm} (ht:OkT t) (hk:Fd k (aq t)) (ret:Int→Option S):oj k t ret=ret (if aq t>200 then 62 else if ax t>20000 then 221 else 0):=by
 simp only [oj,Hx,aF,TG t ht _ hk (show (-4611686018427387904:Int)≤200 by omega) (show (200:Int)<4611686018427387904 by omega),aj hk.fu,TH ht hk (show (0:Int)<20000 by omega) (show (20000:Int)<4611686018427387904 by omega)]
 by_cases h1:aq t>200
 ·rw [if_pos h1,decide_eq_false (by omega)];rfl
 ·rw [if_neg h1,decide_eq_true (by omega),Bool.not_true,ad]
  by_cases h2:ax t>20000
  ·rw [if_pos h2,decide_eq_false (by omega)];rfl
  ·rw [if_neg h2,decide_eq_true (by omega)];rfl
theorem pD {t:Tm} (ht:OkT t) (hk:Fd k (aq t)) (hdep:aq t<1099511627776) (ret:Int→Option S):i8 k t ret=ret (cr t):=by
 simp only [i8,Hq,aF,aj hk.fu,FX ht hk,FF t ht _ hk (show VD (-1) 24 (aq t) by unfold VD;omega),bO]
 unfold cr
 by_cases h1:aq t>200
 ·rw [if_pos h1,if_pos h1];rfl
 ·rw [if_neg h1,if_neg h1]
  by_cases h2:ax t>20000
  ·rw [if_pos h2,if_pos h2];rfl
  ·rw [if_neg h2,if_neg h2,decide_eq_true rfl,Bool.not_true,ad]
   cases az false (-1) 24 t<;>rfl
end Go.Proofs.YtapmagaejigpnaaGreatDoor
namespace Go.Proofs.YtapmagaejigpnaaGreatDoor
open Go PI
set_option linter.unusedVariables false
set_option linter.unusedSimpArgs false
set_option maxRecDepth 20000
variable {S:Type} {k:Nat}
theorem Av: ∀ {l:List Tm},(∀x∈l,aq x≤ax x)→aJ l≤ar l:=by
 intro l
 induction l with
 |nil=>intro _;rw [aJ,ar];omega
 |cons t l ih=>
  intro h
  rw [aJ,ar]
  have:=h t (by simp)
  have:=ih fun x hx=>h x (by simp [hx])
  omega
theorem L9: ∀ {l:List (Br Tm)},(∀b∈l,∀x∈b.kids,aq x≤ax x)→ba l≤ay l:=by
 intro l
 induction l with
 |nil=>intro _;rw [ba,ay];omega
 |cons b l ih=>
  intro h
  rw [ba,ay,om,jH]
  have:=Av (h b (by simp))
  have:=ih fun x hx=>h x (by simp [hx])
  omega
theorem j9 (t:Tm):aq t≤ax t:=by
 induction t using gb with
 |h t ih1 ih2=>
  rw [sf,Ga]
  have:=Av ih1
  have:=L9 ih2
  omega
section
variable {hd:Tm→(Int→Option S)→Option S} {t:Tm}
end
section
variable {hd:Tm→(Int→Option S)→Option S} {t:Tm}
end
section
variable {hd:Tm→Int→Int→Bool→(Bool→Option S)→Option S} {vars dims:Int} {bd:Bool} {t:Tm}
end
theorem B_ (d:Int) (l:List Cl) (h:l.length=0):bX l d=true:=by
 have:=List.length_eq_zero_iff.1 h
 subst this
 unfold bX
 rw [decide_eq_true_eq]
 intro i hi
 have:=(mem_bitsN.1 hi).2
 rw [sg] at this
 simp [iD] at this
section
variable {hd:Tm→Tm→(Bool→Option S)→Option S}
end
section
variable {hd:Tm→Int→(Int→Option S)→Option S} {t:Tm}
end
end Go.Proofs.YtapmagaejigpnaaGreatDoor
namespace Go.Proofs.YtapmagaejigpnaaGreatDoor
open Go PI
set_option linter.unusedVariables false
set_option linter.unusedSimpArgs false
set_option maxRecDepth 20000
variable {S:Type} {k:Nat}
def pE {α:Type}:Except Int α→Pan Int α
 | .ok a=> .ok a
 | .error e=> .pan e
def eE {α β:Type} (x:Except Int α) (f:α→β) (g:Int→β):β:=match x with
 | .ok a=>f a
 | .error e=>g e
theorem j_ {α β:Type} (x:Except Int α) (f:α→β) (g:Int→β):Pan.elim (pE x) f g=eE x f g:=by cases x<;>rfl
theorem a6 {α β γ:Type} (x:Except Int α) (f:α→Except Int β) (u:β→γ) (w:Int→γ):eE (bE x f) u w=eE x (fun a=>eE (f a) u w) w:=by cases x<;>rfl
theorem bp {α β:Type} (a:α) (f:α→β) (g:Int→β):eE (.ok a) f g=f a:=rfl
theorem SH {α:Type} (x:Except Int α) (ret:Pan Int α→Option S):ret (pE x)=eE x (fun a=>ret (.ok a)) fun e=>ret (.pan e):=by cases x<;>rfl
def aB:Tm:= .mk 0 0 ByteArray.empty [] [] []
def tE:Except Int Tm→Tm×Int
 | .ok t=>(t,0)
 | .error e=>(aB,e)
theorem bW {α β:Type} {x:Except Int α} {f f':α→β} {g g':Int→β} (h: ∀a,x= .ok a→f a=f' a) (h': ∀e,x= .error e→g e=g' e):eE x f g=eE x f' g':=by
 cases x with
 |ok a=>exact h a rfl
 |error e=>exact h' e rfl
theorem FT (hk:Fu k) {a b d:Int} {f:List Cl} (hf:al f) (hl:f.length<1073741824) (hd:aA d) (hb:aA b) (ret:Pan Int (List Cl)→Option S):oa k a b f d ret=ret (pE (cj d b f)):=by
 simp only [oa,He,aj hk,pI hk hf hl hd hb,bO,b9,bM (show 0+f.length≤1099511627776 by omega)]
 unfold cj
 by_cases h0:b=0
 ·rw [if_pos h0,if_pos (.inl h0)];rfl
 ·rw [if_neg h0]
  by_cases h1:d≥24
  ·rw [if_pos h1,if_pos (.inr h1)];rfl
  ·rw [if_neg h1,if_neg (show ¬ (b=0∨d≥24) by omega)]
   by_cases h2:(be f d b).2=0
   ·rw [decide_eq_true h2,jJ h2];rfl
   ·rw [decide_eq_false h2,kW h2];rfl
section
variable {hd:Int→Int→Tm→Int→Int→(Pan Int Tm→Option S)→Option S} {vb db v d:Int} {t:Tm}
theorem P0 (hk:Fu k) (ret:Pan Int Tm→Option S) (rec2:List (Br Tm)→Int→Int→Option S) {r12 r2:List Cl} {b1 v90:Int} {ks:List Tm} {o:List (Br Tm)} {x:Br Tm} {more:Int} (hm:more=au t.kind)
  (hd0:0≤d∧d<4611686018427387904) (hQ: ∀y∈x.kids,∀g,hd vb db y v (d+more) g=g (pE (bH vb db v (d+more) y))) (hl:x.kids.length<1073741824) (ho:o.length<1073741824):
  ∀ (r p:List Tm) (m:Nat) (acc:List Tm),x.kids=p++r→r.length<m→acc.length=p.length→
  jt hd k ret rec2 r12 vb db t b1 r2 ks o x more v d v90 m acc (p.length:Int)=eE (dh vb db v d t.kind r) (fun l=>rec2 (o++[⟨r12,acc++l⟩]) more (IntKind.wrap .i64 (v90+1))) fun e=>ret (.pan e):=by
 subst hm
 have hmo:=ei t.kind
 intro r
 induction r with
 |nil=>
  intro p m acc h hm ha
  obtain ⟨m,rfl,hm'⟩:=am hm
  simp only [jt,qM,aU h,ad,dh,bp,List.append_nil]
  rw [bM (by simp;omega)]
 |cons y r ih=>
  intro p m acc h hm ha
  obtain ⟨m,rfl,hm'⟩:=am hm
  obtain ⟨e1,e2,e3,e4⟩:=aS h (by omega)
  have hpl:p.length<x.kids.length:=by rw [h];simp
  have hy:=hQ y (by rw [h];simp)
  simp only [jt,qM,e1,ag,e2,Option.bind_some,aF,bQ (n:=d+au t.kind) (by omega) (by omega),hy,j_,dh,a6,bp]
  refine bW (fun t' ht'=> ?_) fun e _=>rfl
  rw [bM (by simp;omega),e3,ih (p++[y]) m (acc++[t']) e4 hm' (by simp;omega)]
  simp
theorem PZ (hk:Fu k) (ret:Pan Int Tm→Option S) {r2:List Cl} {b1:Int} {ks:List Tm} {more:Int} (hm:more=au t.kind) (ht:OkT t) (hdb:aA db) (hd0:0≤d∧d<4611686018427387904)
  (hQ: ∀b∈t.sys,∀y∈b.kids,∀g,hd vb db y v (d+more) g=g (pE (bH vb db v (d+more) y))):
  ∀ (r p:List (Br Tm)) (m:Nat) (o:List (Br Tm)),t.sys=p++r→r.length<m→o.length=p.length→
  ef hd k ret vb db t b1 r2 ks v d m o more (p.length:Int)=eE (cu vb db v d t.kind r) (fun l=>ret (.ok (.mk t.kind b1 t.name r2 ks (o++l)))) fun e=>ret (.pan e):=by
 obtain ⟨o1,o2,o3,o4,o5,o6,o7⟩:=ht.no
 intro r
 induction r with
 |nil=>
  intro p m o h hml ho
  obtain ⟨m,rfl,hm'⟩:=am hml
  simp only [ef,nB,aU h,ad,cu,bp,List.append_nil]
 |cons x r ih=>
  intro p m o h hml ho
  obtain ⟨m,rfl,hm'⟩:=am hml
  obtain ⟨e1,e2,e3,e4⟩:=aS h (by omega)
  have hx:x∈t.sys:=by rw [h];simp
  have hpl:p.length<t.sys.length:=by rw [h];simp
  have hb:=(ht.bi hx).1
  have hrow:=FT (S:=S) hk (a:=vb) hb.1 hb.2.1 (show aA d by unfold aA;omega) hdb
  have:=fun r12=>P0 hk ret (ef hd k ret vb db t b1 r2 ks v d m) (r12:=r12) (r2:=r2) (b1:=b1) (v90:=(p.length:Int)) (ks:=ks) (o:=o) hm hd0 (hQ x hx) hb.2.2 (by omega) x.kids [] k [] rfl (by have:4294967296≤k:=hk;omega) rfl
  have this: ∀r12,jt hd k ret (ef hd k ret vb db t b1 r2 ks v d m) r12 vb db t b1 r2 ks o x more v d (p.length:Int) k [] 0=_:=this
  have hB:jy vb db v d t.kind x=bE (cj d db x.face) fun f'=>bE (dh vb db v d t.kind x.kids) fun ks'=> .ok (.mk f' ks'):=by cases x;rw [jy]
  simp only [ef,nB,e1,ag,e2,Option.bind_some,aj hk,hrow,j_,this,cu,hB,a6,bp,List.nil_append,e3]
  refine bW (fun f' _=>bW (fun ks' _=> ?_) fun e _=>rfl) fun e _=>rfl
  rw [ih (p++[x]) m (o++[Br.mk f' ks']) e4 hm' (by simp;omega)]
  simp
theorem PY (hk:Fu k) (ret:Pan Int Tm→Option S) {r2:List Cl} {b1:Int} (ht:OkT t) (hdb:aA db) (hd0:0≤d∧d<4611686018427387904) (hv0:0≤v∧v<4611686018427387904)
  (hQ: ∀y∈t.kids,∀a b,0≤a∧a≤1→0≤b∧b≤1→ ∀g,hd vb db y (v+a) (d+b) g=g (pE (bH vb db (v+a) (d+b) y))) (hQ': ∀b∈t.sys,∀y∈b.kids,∀g,hd vb db y v (d+au t.kind) g=g (pE (bH vb db v (d+au t.kind) y))):
  ∀ (r p:List Tm) (m:Nat) (acc:List Tm),t.kids=p++r→r.length<m→acc.length=p.length→
  ic hd k ret vb db t b1 r2 v d m acc (p.length:Int)=eE (dg vb db v d t.kind p.length r) (fun l=>eE (cu vb db v d t.kind t.sys) (fun s=>ret (.ok (.mk t.kind b1 t.name r2 (acc++l) s))) fun e=>ret (.pan e)) fun e=>ret (.pan e):=by
 obtain ⟨o1,o2,o3,o4,o5,o6,o7⟩:=ht.no
 intro r
 induction r with
 |nil=>
  intro p m acc h hm ha
  obtain ⟨m,rfl,hm'⟩:=am hm
  have hs:ef hd k ret vb db t b1 r2 acc v d k [] (au t.kind) 0=_:=PZ hk ret rfl ht hdb hd0 hQ' t.sys [] k [] rfl (by have:4294967296≤k:=hk;omega) rfl
  simp only [ic,nA,aU h,ad,dg,bp,List.append_nil]
  rw [ew]
  have he:(if (t.kind==15)=true then ef hd k ret vb db t b1 r2 acc v d k [] 1 0 else ef hd k ret vb db t b1 r2 acc v d k [] 0 0)=ef hd k ret vb db t b1 r2 acc v d k [] (au t.kind) 0:=by
   unfold au
   by_cases h15:t.kind=15
   ·rw [if_pos h15,if_pos (by rw [h15];rfl)]
   ·rw [if_neg h15,if_neg (by rw [beq_iff_eq];exact h15)]
  rw [he,hs]
  simp only [List.nil_append]
 |cons y r ih=>
  intro p m acc h hm ha
  obtain ⟨m,rfl,hm'⟩:=am hm
  obtain ⟨e1,e2,e3,e4⟩:=aS h (by omega)
  have hpl:p.length<t.kids.length:=by rw [h];simp
  have b1':=vh t.kind p.length
  have b2':=e7 t.kind p.length
  have hy:=hQ y (by rw [h];simp) (dj t.kind p.length) (bj t.kind p.length) b1' b2'
  simp only [ic,nA,e1,ag,e2,Option.bind_some,aj hk,kT,aF,bQ (n:=v+dj t.kind p.length) (by omega) (by omega),bQ (n:=d+bj t.kind p.length) (by omega) (by omega),hy,j_,dg,a6,bp]
  refine bW (fun t' ht'=> ?_) fun e _=>rfl
  rw [bM (by simp;omega),e3,ih (p++[y]) m (acc++[t']) e4 hm' (by simp;omega),show (p++[y]).length=p.length+1 by simp]
  simp
end
theorem Qr (vb db v d:Int) (t:Tm):bH vb db v d t=if t.kind=1∧t.n≥v∧t.n>1000000000-vb then .error 100 else bE (cj d db t.r) fun r'=>bE (dg vb db v d t.kind 0 t.kids) fun ks'=>bE (cu vb db v d t.kind t.sys) fun sys'=> .ok (.mk t.kind (if t.kind=1∧t.n≥v then t.n+vb else t.n) t.name r' ks' sys'):=by cases t;rw [bH];rfl
theorem RowsT.no {t:Tm} (h:RowsT t):RF t.r∧(t.kind=1→t.r=[])∧0≤t.kind:=by cases t;rw [RowsT] at h;exact h.1
theorem RowsT.ki {t x:Tm} (h:RowsT t) (hx:x∈t.kids):RowsT x:=by cases t;rw [RowsT] at h;exact rowsK_iff.1 h.2.1 x hx
theorem RowsT.bi {t:Tm} {b:Br Tm} (h:RowsT t) (hb:b∈t.sys):RF b.face∧ ∀x∈b.kids,RowsT x:=by cases t;rw [RowsT] at h;exact rowsS_iff.1 h.2.2 b hb
def VP (v d:Int) (n:Nat):Prop:=0≤v∧v+n<4611686018427387904∧0≤d∧d+n<4611686018427387904
theorem yr {vb db:Int} (hvb:0≤vb∧vb≤1000000000) (hdb:aA db) (t:Tm):OkT t→RowsT t→ ∀ {k:Nat} {v d:Int} (ret:Pan Int Tm→Option S),Fd k (aq t)→VP v d (aq t)→cZ k vb db t v d ret=ret (pE (bH vb db v d t)):=by
 induction t using gb with
 |h t ih1 ih2=>
  intro ht hro k v d ret hk hv
  obtain ⟨q,rfl,hq,hf⟩:=hk.pos' (d_ t)
  obtain ⟨q',hq'⟩: ∃q',q=q'+1:=⟨q-1,by have:4294967296≤q:=hq;omega⟩
  have hp:=d_ t
  unfold VP at hv
  obtain ⟨o1,o2,o3,o4,o5,o6,o7⟩:=ht.no
  have hmo:=ei t.kind
  have hQ: ∀y∈t.kids,∀a b,0≤a∧a≤1→0≤b∧b≤1→ ∀g:Pan Int Tm→Option S,cZ q vb db y (v+a) (d+b) g=g (pE (bH vb db (v+a) (d+b) y)):=fun y hy a b h1 h2 g=>
   ih1 y hy (ht.ki hy) (hro.ki hy) g (hf _ (dT hy)) (by have:=dT hy;unfold VP;omega)
  have hQ': ∀b∈t.sys,∀y∈b.kids,∀g:Pan Int Tm→Option S,cZ q vb db y v (d+au t.kind) g=g (pE (bH vb db v (d+au t.kind) y)):=fun b hb y hy g=>
   ih2 b hb y hy ((ht.bi hb).2 y hy) ((hro.bi hb).2 y hy) g (hf _ (dS hb hy)) (by have:=dS hb hy;unfold VP;omega)
  have h1:=fun r2 b1=>PY (r2:=r2) (b1:=b1) hq ret ht hdb (show 0≤d∧d<4611686018427387904 by omega) (show 0≤v∧v<4611686018427387904 by omega) hQ hQ' t.kids [] q [] rfl (by have:4294967296≤q:=hq;omega) rfl
  have h0: ∀r2 b1,oJ (cZ q) q ret vb db t r2 v d q b1=ic (cZ q) q ret vb db t b1 r2 v d q [] 0:=by
   intro r2 b1
   have: ∀j,j=q'+1→oJ (cZ q) q ret vb db t r2 v d j b1=ic (cZ q) q ret vb db t b1 r2 v d q [] 0:=by rintro j rfl;rfl
   exact this q hq'
  have h2: ∀r2 b1,oJ (cZ q) q ret vb db t r2 v d q b1=_:=fun r2 b1=>(h0 r2 b1).trans (h1 r2 b1)
  have hrow:=FT (S:=S) hq (a:=vb) o4 o5 (show aA d by unfold aA;omega) hdb
  simp only [cZ,zm,aj hq,hrow,j_,h2,List.length_nil,List.nil_append]
  rw [SH _ ret,Qr]
  unfold aA at o2
  by_cases hc:t.kind=1
  ·have hr:=hro.no.2.1 hc
   rw [hr,yc,bp,hc,show ((1:Int)==1)=true from rfl,ag,b9]
   by_cases hn:t.n≥v
   ·rw [if_pos hn,bQ (n:=1000000000-vb) (by omega) (by omega),b9]
    by_cases hb:t.n>1000000000-vb
    ·rw [if_pos hb,if_pos (show (1:Int)=1∧t.n≥v∧t.n>1000000000-vb from ⟨rfl,hn,hb⟩)];rfl
    ·rw [if_neg hb,if_neg (show ¬ ((1:Int)=1∧t.n≥v∧t.n>1000000000-vb) from fun h=>hb h.2.2),ao,a6]
     rw [if_pos (show (1:Int)=1∧t.n≥v from ⟨rfl,hn⟩),bQ (n:=t.n+vb) (by omega) (by omega)]
     simp only [a6,bp]
   ·rw [if_neg hn,if_neg (show ¬ ((1:Int)=1∧t.n≥v∧t.n>1000000000-vb) from fun h=>hn h.2.1),ao,a6]
    rw [if_neg (show ¬ ((1:Int)=1∧t.n≥v) from fun h=>hn h.2)]
    simp only [a6,bp]
  ·have hc':(t.kind==1)=false:=by rw [beq_eq_false_iff_ne];exact hc
   rw [hc',if_neg (show ¬ (t.kind=1∧t.n≥v∧t.n>1000000000-vb) from fun h=>hc h.1)]
   simp only [ad,a6,bp,if_neg (show ¬ (t.kind=1∧t.n≥v) from fun h=>hc h.1)]
section
variable {hd:Tm→Int→Int→Int→Int→(Tm→Option S)→Option S} {vb db v d:Int} {t:Tm}
theorem ul {z:List Cl×Int} {α:Type} (f:List Cl→α) (g:Int→α):ab (!(z.2==0)) (g z.2) (f z.1)=eE (cG z) f g:=by
 rw [bO]
 unfold cG
 by_cases h:z.2=0
 ·rw [decide_eq_true h,if_pos h];rfl
 ·rw [decide_eq_false h,if_neg h];rfl
end
end Go.Proofs.YtapmagaejigpnaaGreatDoor
namespace Go.Proofs.YtapmagaejigpnaaGreatDoor
open Go PI
set_option linter.unusedVariables false
set_option linter.unusedSimpArgs false
set_option maxRecDepth 20000
variable {S:Type} {k:Nat}
theorem g9 {t:Tm} (h:cr t=0):aq t≤200∧ax t≤20000∧az false (-1) 24 t=true:=by
 unfold cr at h
 split at h
 ·cases h
 ·split at h
  ·cases h
  ·split at h
   ·next h1 h2 h3=>exact ⟨by omega,by omega,h3⟩
   ·cases h
theorem wh {t:Tm} (h1:aq t≤200) (h2:ax t≤20000) (h3:az false (-1) 24 t=true):cr t=0:=by
 unfold cr
 rw [if_neg (by omega),if_neg (by omega),if_pos h3]
theorem N3 (t:Tm):0≤cr t∧cr t≤1000:=by
 unfold cr
 split
 ·omega
 ·split
  ·omega
  ·split<;>omega
def Fm (t:Tm):Prop:=OkT t∧cr t=0
theorem Fm.ok {t:Tm} (h:Fm t):OkT t:=h.1
theorem Fm.rows {t:Tm} (h:Fm t):RowsT t:=Lh t h.1 (g9 h.2).2.2
theorem Fm.dep {t:Tm} (h:Fm t):aq t≤200:=(g9 h.2).1
theorem Fm.siz {t:Tm} (h:Fm t):ax t≤20000:=(g9 h.2).2.1
theorem kA {vb db v d:Int} (hvb:0≤vb∧vb≤1000000000) {t t':Tm} (h:Fm t) (hl:bH vb db v d t= .ok t'):Fm t':=by
 obtain ⟨h1,h2,h3,h4⟩:=wN hvb.1 hvb.2 t v d t' hl
 obtain ⟨a,b,c⟩:=g9 h.2
 have:=h4 h.1
 exact ⟨this.1,wh (by omega) (by omega) (this.2.2 24 24 (by omega) (by omega) c)⟩
abbrev F3 (k:Nat):Prop:=4294968296≤k
theorem F3.fu (h:F3 k):Fu k:=by have:4294968296≤k:=h;show 4294967296≤k;omega
theorem F3.fd (h:F3 k) {n:Nat} (hn:n≤1000):Fd k n:=by have:4294968296≤k:=h;show 4294967296+n≤k;omega
theorem Fm.fd {t:Tm} (h:Fm t) (hk:F3 k):Fd k (aq t):=hk.fd (by have:=h.dep;omega)
theorem Fm.vp {t:Tm} (h:Fm t) {v d:Int} (hv:0≤v∧v≤4611686018427380000) (hd:0≤d∧d≤4611686018427380000):VP v d (aq t):=by have:=h.dep;unfold VP;omega
theorem eQ (x:Except Int Tm) (ret:Tm×Int→Option S):ret (tE x)=eE x (fun t=>ret (t,0)) fun e=>ret (aB,e):=by cases x<;>rfl
theorem PQ (hk:Fu k) (ret:Tm×Int→Option S) {c0 c2:Int} {c1:Tm} {ns:List Int} (hl:ns.length<1000) (hn: ∀x∈ns,0≤x):
  ∀ (r p:List Int) (m:Nat),ns=p++r→r.length<m→ko k ret c0 c1 c2 ns m (p.length:Int)=rX k c0 c1 c2 fun r4=>Pan.elim r4 (fun r4=>ret (r4,0)) fun e5=>ret (aB,e5):=by
 intro r
 induction r with
 |nil=>
  intro p m h hm
  obtain ⟨m,rfl,hm'⟩:=am hm
  simp only [ko,qK,aU h,ad,aj hk,aF];rfl
 |cons x r ih=>
  intro p m h hm
  obtain ⟨m,rfl,hm'⟩:=am hm
  obtain ⟨e1,e2,e3,e4⟩:=aS h (by omega)
  have hx:=hn x (by rw [h];simp)
  simp only [ko,qK,e1,ag,e2,Option.bind_some,e3,ih (p++[x]) m e4 hm',b9]
  rw [if_neg (by omega)]
theorem Tu (hk:F3 k) {t:Tm} (ht:Fm t) {f b:Int} (hf:0≤f∧f≤24) (hb:0≤b∧b<9223372036854775808) (ret:Tm×Int→Option S):rW k t f b ret=ret (tE (bH 0 b 0 f t)):=by
 have hl:=PQ hk.fu ret (c0:=b) (c2:=f) (c1:=t) (ns:=[f,b]) (by simp) (by simp;omega) [f,b] [] k rfl (by have:4294968296≤k:=hk;simp;omega)
 have hl:ko k ret b t f [f,b] k 0=_:=hl
 simp only [rW,Hb,aj hk.fu,aF,vL,zk,pD ht.ok (ht.fd hk) (show aq t<1099511627776 by have:=ht.dep;omega),ht.2,hl,rX,Hc]
 rw [show ((0:Int)==0)=true from rfl,Bool.not_true,ad,if_neg (by omega),yr (by omega) (by unfold aA;omega) t ht.ok ht.rows _ (ht.fd hk) (ht.vp (by omega) (by omega)),j_,eQ _ ret]
 exact bW (fun _ _=>rfl) fun _ _=>rfl
def bw (vb db:Int) (t:Tm):Except Int Tm:=bE (bH vb 0 0 0 t) (bH 0 db 0 0)
theorem um {vb db:Int} (hvb:0≤vb∧vb≤1000000000) {t t':Tm} (h:Fm t) (hl:bw vb db t= .ok t'):Fm t':=by
 obtain ⟨a,h1,h2⟩:=ah hl
 exact kA (by omega) (kA hvb h h1) h2
theorem cm {vb db:Int} {t:Tm} {e:Int} (h:bw vb db t= .error e):0<e∧e≤1000:=by
 rcases aL h with h|⟨a,_,h⟩
 ·exact s_ t h
 ·exact s_ a h
theorem PR (hk:Fu k) (ret:Tm×Int→Option S) {c0 c1:Int} {c2:Tm} {ns:List Int} (hl:ns.length<1000) (hn: ∀x∈ns,0≤x):
  ∀ (r p:List Int) (m:Nat),ns=p++r→r.length<m→kq k ret c0 c1 c2 ns m (p.length:Int)=rV k c0 c1 c2 fun r4=>Pan.elim r4 (fun r4=>ret (r4,0)) fun e5=>ret (aB,e5):=by
 intro r
 induction r with
 |nil=>
  intro p m h hm
  obtain ⟨m,rfl,hm'⟩:=am hm
  simp only [kq,qL,aU h,ad,aj hk,aF];rfl
 |cons x r ih=>
  intro p m h hm
  obtain ⟨m,rfl,hm'⟩:=am hm
  obtain ⟨e1,e2,e3,e4⟩:=aS h (by omega)
  have hx:=hn x (by rw [h];simp)
  simp only [kq,qL,e1,ag,e2,Option.bind_some,e3,ih (p++[x]) m e4 hm',b9]
  rw [if_neg (by omega)]
theorem Tt (hk:F3 k) {t:Tm} (ht:Fm t) {vb db:Int} (hvb:0≤vb∧vb≤1000000) (hdb:0≤db∧db<9223372036854775808) (ret:Tm×Int→Option S):rU k t vb db ret=ret (tE (bw vb db t)):=by
 have hl:=PR hk.fu ret (c0:=db) (c1:=vb) (c2:=t) (ns:=[vb,db,1000000-vb]) (by simp) (by simp;omega) [vb,db,1000000-vb] [] k rfl (by have:4294968296≤k:=hk;simp;omega)
 have hl:kq k ret db vb t [vb,db,1000000-vb] k 0=_:=hl
 simp only [rU,G_,aj hk.fu,aF,bQ (n:=1000000-vb) (by omega) (by omega),vM,zl,pD ht.ok (ht.fd hk) (show aq t<1099511627776 by have:=ht.dep;omega),ht.2,hl,rV,Ha]
 rw [show ((0:Int)==0)=true from rfl,Bool.not_true,ad,yr (show 0≤vb∧vb≤1000000000 by omega) (show aA 0 by unfold aA;omega) t ht.ok ht.rows _ (ht.fd hk) (ht.vp (by omega) (by omega)),j_,eQ _ ret]
 unfold bw
 rw [a6]
 refine bW (fun y hy=> ?_) fun _ _=>rfl
 have hy':=kA (show 0≤vb∧vb≤1000000000 by omega) ht hy
 rw [yr (show (0:Int)≤0∧(0:Int)≤1000000000 by omega) (show aA db by unfold aA;omega) y hy'.ok hy'.rows _ (hy'.fd hk) (hy'.vp (by omega) (by omega)),j_]
 exact bW (fun _ _=>rfl) fun _ _=>rfl
end Go.Proofs.YtapmagaejigpnaaGreatDoor
namespace Go.Proofs.YtapmagaejigpnaaGreatDoor
open Go PI
set_option linter.unusedVariables false
set_option linter.unusedSimpArgs false
set_option maxRecDepth 20000
variable {S:Type} {k:Nat}
def aK (i:Int) (r:List Cl) (fa:Bool):da:=fun d f=>if dw (dU f) (i+d) then bE (cG (be r 0 d)) fun s=>cG (if fa then fj f (i+d) s else fq f (i+d) s) else .ok f
theorem Ay (f:List Cl):U32 (dU f):=by
 have:=Az f
 exact ⟨Int.natCast_nonneg _,by show ((dC f:Nat):Int)<_;omega⟩
theorem Dt {f r:List Cl} {i:Int} (hr:al r) (h:(fq f i r).2=0):RF (fq f i r).1:=by
 unfold fq at h ⊢
 split
 ·next hc=>
  rw [if_pos hc] at h
  simp only [Bool.and_eq_true] at hc
  exact Bf (fun h c hh h0=>Dp ((gM hr).1 hc.1.2) h c hh h0) pw h
 ·next hc=>rw [if_neg hc] at h;exact absurd h (by decide)
theorem xa (f g:List Cl):EN (dH f g).2:=mu _
theorem sR (f g:List Cl):EN (dm f g).2:=mu _
theorem QQ (f g:List Cl):EN (ik f g).2:=mu _
theorem Da (f:List Cl):EN (c_ f).2:=sL fun h c=>xa _ _
theorem RS (i:Int) (r:List Cl) (c:Cl):EN (eo i r c).2:=by
 unfold eo
 split
 ·exact xa _ _
 ·exact kc
theorem RU (i:Int) (r:List Cl) (c:Cl) (g:List Cl):EN (fY i r c g).2:=by
 unfold fY
 split
 ·split
  ·exact xa _ _
  ·exact Da _
 ·exact kc
theorem RR (i:Int) (r h:List Cl) (c:Cl):EN (fX i r h c).2:=by
 unfold fX
 split
 ·split
  ·exact sR _ _
  ·exact RU _ _ _ _
 ·exact RS _ _ _
theorem RZ (f:List Cl) (i:Int) (r:List Cl):EN (fq f i r).2:=by
 unfold fq
 split
 ·exact sL fun h c=>RR i r h c
 ·exact g6
theorem Q6 (f:List Cl):EN (fW f).2:=by
 unfold fW
 split
 ·exact mu _
 ·exact g6
theorem Q7 (f:List Cl):EN (gG f).2:=by
 unfold gG
 split
 ·split
  ·exact mu _
  ·exact Da _
 ·exact g6
theorem Dq {i:Int} {c:Cl} {h:List Cl} {q:List Cl×Int} (hq:EN q.2):EN (eN i c h q).2:=by
 unfold eN
 split
 ·split
  ·exact sR _ _
  ·exact QQ _ _
 ·exact hq
theorem RY (f:List Cl) (i:Int) (r:List Cl):EN (fj f i r).2:=by
 unfold fj
 split
 ·refine sL fun h c=> ?_
  unfold dI
  split
  ·exact Dq (Q6 _)
  ·split
   ·exact Dq (Q7 _)
   ·exact sR _ _
 ·exact g6
theorem pz {i:Int} {r:List Cl} {fa:Bool} {d:Int} {f g:List Cl} (hf:RF f) (h:aK i r fa d f= .ok g):RF g:=by
 unfold aK at h
 split at h
 ·obtain ⟨s,h1,h⟩:=ah h
  obtain ⟨h0,rfl⟩:=eB h1
  have hs:=fg h0
  obtain ⟨h2,rfl⟩:=eB h
  cases fa with
  |true=>exact (Ds hf.2 hs.2 h2).1
  |false=>exact Dt hs.2 h2
 ·injection h with h;subst h;exact hf
theorem Fb {i:Int} {r:List Cl} {fa:Bool} {d:Int} {f:List Cl} {e:Int} (h:aK i r fa d f= .error e):0<e∧e≤1000:=by
 unfold aK at h
 split at h
 ·rcases aL h with h|⟨s,_,h⟩
  ·obtain ⟨h1,rfl⟩:=pT h
   have:=oM r 0 d
   unfold EN at this;omega
  ·obtain ⟨h1,rfl⟩:=pT h
   cases fa with
   |true=>
    have:=RY f (i+d) s
    unfold EN at this
    simp only [if_true] at h1 ⊢
    omega
   |false=>
    have:=RZ f (i+d) s
    unfold EN at this
    simp only [Bool.false_eq_true,if_false] at h1 ⊢
    omega
 ·cases h
theorem Fc {i:Int} {r:List Cl} {fa:Bool} {d:Int}:aK i r fa d []= .ok []:=by
 unfold aK
 rw [if_neg]
 intro h
 unfold dw at h
 rw [Bool.and_eq_true] at h
 have:=h.2
 unfold dU at this
 rw [Int.toNat_natCast,sg] at this
 simp [iD] at this
def jF (i:Int) (r:List Cl) (fa:Bool) (d:Int) (f:List Cl):List Cl×Int:=if dw (dU f) (i+d) then if (be r 0 d).2=0 then if fa then fj f (i+d) (be r 0 d).1 else fq f (i+d) (be r 0 d).1 else ([],(be r 0 d).2) else (f,0)
theorem zH (i:Int) (r:List Cl) (fa:Bool) (d:Int) (f:List Cl):cG (jF i r fa d f)=aK i r fa d f:=by
 unfold jF aK
 split
 ·by_cases h0:(be r 0 d).2=0
  ·rw [if_pos h0,jJ h0,ao]
  ·rw [if_neg h0,kW h0,fG,kW (show ¬ (([]:List Cl),(be r 0 d).2).2=0 from h0)]
 ·rfl
section
variable {i d:Int} {r f:List Cl}
theorem FV (hk:Fu k) (hf:RF f) (hr:RF r) (hi:0≤i∧i<24) (hd:0≤d∧d<4611686018427387000) (ret:List Cl×Int→Option S):nX k f d i r ret=ret (jF i r true d f):=by
 have l1:=hf.len;have l2:=hr.len
 simp only [nX,GI,aj hk,bQ (n:=i+d) (by omega) (by omega),t6 hk hf.2 (show f.length<4294967296 by omega),mZ hk (Ay f),nW,yP,bM (show 0+f.length≤1099511627776 by omega),pI hk hr.2 (show r.length<1073741824 by omega) (show aA 0 by unfold aA;omega) (show aA d by unfold aA;omega)]
 unfold jF
 cases dw (dU f) (i+d) with
 |false=>rw [Bool.not_false,ag];rfl
 |true=>
  rw [Bool.not_true,ad,bO,if_pos rfl]
  by_cases h0:(be r 0 d).2=0
  ·have hs:=fg h0
   rw [decide_eq_true h0,Bool.not_true,ad,Tn hk hf.2 hs.2 hf.lt hs.lt,if_pos h0,if_pos rfl]
  ·rw [decide_eq_false h0,Bool.not_false,ag,if_neg h0]
theorem TE (hk:Fu k) (hf:RF f) (hr:RF r) (hi:0≤i∧i<24) (hd:0≤d∧d<4611686018427387000) (ret:List Cl×Int→Option S):rB k f d i r ret=ret (jF i r false d f):=by
 have l1:=hf.len;have l2:=hr.len
 simp only [rB,GH,aj hk,bQ (n:=i+d) (by omega) (by omega),t6 hk hf.2 (show f.length<4294967296 by omega),mZ hk (Ay f),nW,yP,bM (show 0+f.length≤1099511627776 by omega),pI hk hr.2 (show r.length<1073741824 by omega) (show aA 0 by unfold aA;omega) (show aA d by unfold aA;omega)]
 unfold jF
 cases dw (dU f) (i+d) with
 |false=>rw [Bool.not_false,ag];rfl
 |true=>
  rw [Bool.not_true,ad,bO,if_pos rfl]
  by_cases h0:(be r 0 d).2=0
  ·have hs:=fg h0
   rw [decide_eq_true h0,Bool.not_true,ad,Th hk hf.2 hs.2 hf.lt hs.lt,if_pos h0,if_neg (by decide)]
  ·rw [decide_eq_false h0,Bool.not_false,ag,if_neg h0]
end
def fH (j:Int) (c:Cl):Cl:=⟨jc c.pos j,jc c.neg j⟩
def aN (j:Int) (f:List Cl):List Cl:=(bu (f.map (fH j))).1
theorem AB (s j:Int):0≤jc s j∧jc s j<16777216:=by
 have:=Ma s.toNat j
 exact ⟨Int.natCast_nonneg _,by show ((jb s.toNat j:Nat):Int)<_;omega⟩
theorem Ap (j:Int) (c:Cl):RC (fH j c):=⟨AB _ _,AB _ _⟩
theorem vu (j:Int) (f:List Cl): ∀c∈f.map (fH j),RC c:=fun c hc=>by
 obtain ⟨d,_,rfl⟩:=List.mem_map.1 hc
 exact Ap j d
theorem ri {j:Int} {f:List Cl} (hf:f.length≤64):bu (f.map (fH j))=(aN j f,0):=Prod.ext rfl (BY (vu j f) (by rw [List.length_map];exact hf))
theorem vt {j:Int} {f:List Cl} (hf:f.length≤64):RF (aN j f):=mw (fun c hc=>(vu j f c hc).ok) (by rw [ri hf])
theorem QX: ∀ (n:Nat) {l:List Cl} {c:Cl},(l.filter fun d=>cY c d&& !decide (d=c)).length≤n→(∀d∈l,RC d)→c∈l→ ∃d∈l,b7 l d=true:=by
 have hle: ∀ {a b:Cl},RC a→RC b→(cY a b=true↔(∀j,b.pos.toNat.testBit j=true→a.pos.toNat.testBit j=true)∧ ∀j,b.neg.toNat.testBit j=true→a.neg.toNat.testBit j=true):=by
  intro a b ha hb
  unfold cY di
  rw [decide_eq_true_eq]
  have hor: ∀ {x y:Int},0≤x→(fi x y=x↔ ∀j,y.toNat.testBit j=true→x.toNat.testBit j=true):=by
   intro x y hx
   unfold fi
   constructor
   ·intro h j hj
    have:(x.toNat|||y.toNat)=x.toNat:=by omega
    rw [←this,Nat.testBit_or,hj,Bool.or_true]
   ·intro h
    have:(x.toNat|||y.toNat)=x.toNat:=by
     apply Nat.eq_of_testBit_eq
     intro j
     rw [Nat.testBit_or]
     cases hy:y.toNat.testBit j with
     |false=>rw [Bool.or_false]
     |true=>rw [h j hy];rfl
    rw [this];omega
  cases a with
  |mk p q=>
   have h1:0≤p:=ha.1.1
   have h2:0≤q:=ha.2.1
   rw [←hor h1,←hor h2]
   constructor
   ·intro h;injection h with h1 h2;exact ⟨h1,h2⟩
   ·rintro ⟨h1,h2⟩;simp only at h1 h2 ⊢;rw [h1,h2]
 have hanti: ∀ {a b:Cl},RC a→RC b→cY a b=true→cY b a=true→a=b:=by
  intro a b ha hb h1 h2
  have e1:=(hle ha hb).1 h1
  have e2:=(hle hb ha).1 h2
  have hx: ∀ {x y:Int},0≤x→0≤y→(∀j,y.toNat.testBit j=true→x.toNat.testBit j=true)→(∀j,x.toNat.testBit j=true→y.toNat.testBit j=true)→x=y:=by
   intro x y hx hy a b
   have:x.toNat=y.toNat:=by
    apply Nat.eq_of_testBit_eq
    intro j
    rw [Bool.eq_iff_iff]
    exact ⟨b j,a j⟩
   omega
  cases a;cases b
  have p1:=hx ha.1.1 hb.1.1 e1.1 e2.1
  have p2:=hx ha.2.1 hb.2.1 e1.2 e2.2
  simp only at p1 p2
  rw [p1,p2]
 intro n
 induction n with
 |zero=>
  intro l c hn hl hc
  refine ⟨c,hc, ?_⟩
  unfold b7
  rw [List.all_eq_true]
  intro d hd
  have:(l.filter fun d=>cY c d&& !decide (d=c))=[]:=List.length_eq_zero_iff.1 (by omega)
  have hnot:=List.filter_eq_nil_iff.1 this d hd
  cases h1:decide (d=c) with
  |true=>rfl
  |false=>
   rw [h1] at hnot
   cases h2:cY c d with
   |false=>rfl
   |true=>rw [h2] at hnot;exact absurd rfl hnot
 |succ n ih=>
  intro l c hn hl hc
  by_cases h:b7 l c=true
  ·exact ⟨c,hc,h⟩
  ·unfold b7 at h
   rw [List.all_eq_true] at h
   have: ∃d∈l,¬ ((decide (d=c)|| !cY c d)=true):=Classical.byContradiction fun hh=>h fun d hd=>Classical.byContradiction fun h2=>hh ⟨d,hd,h2⟩
   obtain ⟨d,hd,hd'⟩:=this
   have h1:d≠c:=fun h=>hd' (by rw [decide_eq_true h];rfl)
   have h2:cY c d=true:=by
    cases hb:cY c d with
    |true=>rfl
    |false=>exact absurd (by rw [hb,Bool.not_false,Bool.or_true]) hd'
   refine ih (c:=d) ?_ hl hd
   have hsub:(l.filter fun e=>cY d e&& !decide (e=d)).length<(l.filter fun e=>cY c e&& !decide (e=c)).length:=by
    have hc':=hl c hc;have hdr:=hl d hd
    have himp: ∀e∈l,(cY d e&& !decide (e=d))=true→(cY c e&& !decide (e=c))=true:=by
     intro e he hh
     rw [Bool.and_eq_true] at hh ⊢
     have her:=hl e he
     have e1:=(hle hdr her).1 hh.1
     have e2:=(hle hc' hdr).1 h2
     refine ⟨(hle hc' her).2 ⟨fun j hj=>e2.1 j (e1.1 j hj),fun j hj=>e2.2 j (e1.2 j hj)⟩, ?_⟩
     rw [Bool.not_eq_true',decide_eq_false_iff_not]
     intro h3
     subst h3
     exact h1 (hanti hdr hc' hh.1 h2)
    have hle2: ∀ (p q:Cl→Bool) (m:List Cl),(∀e∈m,p e=true→q e=true)→(m.filter p).length≤(m.filter q).length:=by
     intro p q m
     induction m with
     |nil=>intro _;exact Nat.le_refl _
     |cons e m im=>
      intro hm
      have:=im fun e he=>hm e (by simp [he])
      by_cases hp:p e=true
      ·rw [List.filter_cons_of_pos hp,List.filter_cons_of_pos (hm e (by simp) hp),List.length_cons,List.length_cons];omega
      ·rw [List.filter_cons_of_neg hp]
       by_cases hq:q e=true
       ·rw [List.filter_cons_of_pos hq,List.length_cons];omega
       ·rw [List.filter_cons_of_neg hq];omega
    have hlt: ∀ (p q:Cl→Bool) (m:List Cl),(∀e∈m,p e=true→q e=true)→d∈m→p d=false→q d=true→(m.filter p).length<(m.filter q).length:=by
     intro p q m
     induction m with
     |nil=>intro _ h;cases h
     |cons e m im=>
      intro hm hdm hp hq
      have hrest: ∀e∈m,p e=true→q e=true:=fun e he=>hm e (by simp [he])
      have hb:=hle2 p q m hrest
      rcases List.mem_cons.1 hdm with rfl|hdm
      ·rw [List.filter_cons_of_neg (by rw [hp];decide),List.filter_cons_of_pos hq,List.length_cons];omega
      ·have:=im hrest hdm hp hq
       by_cases hp':p e=true
       ·rw [List.filter_cons_of_pos hp',List.filter_cons_of_pos (hm e (by simp) hp'),List.length_cons,List.length_cons];omega
       ·rw [List.filter_cons_of_neg hp']
        by_cases hq':q e=true
        ·rw [List.filter_cons_of_pos hq',List.length_cons];omega
        ·rw [List.filter_cons_of_neg hq'];omega
    exact hlt _ _ l himp hd (by simp) (by rw [h2,decide_eq_false h1];rfl)
   omega
theorem L5 {j:Int} {f:List Cl} (hf:RF f):(aN j f).length=0↔f.length=0:=by
 have h:=ri (j:=j) hf.len
 have hm:=(kz h).1
 constructor
 ·intro h0
  apply Classical.byContradiction
  intro hne
  obtain ⟨c,hc⟩:=List.exists_mem_of_length_pos (l:=f.map (fH j)) (by rw [List.length_map];omega)
  obtain ⟨d,hd,hn⟩:=QX _ (Nat.le_refl _) (vu j f) hc
  have:d∈aN j f:=by rw [hm];exact mem_mins.2 ⟨hd,hn⟩
  rw [List.length_eq_zero_iff.1 h0] at this
  cases this
 ·intro h0
  have:=List.length_eq_zero_iff.1 h0
  subst this;rfl
theorem Py (hk:Fu k) (ret:List Cl×Int→Option S) {i d:Int} (hi:0≤i∧i<24) (hd:0≤d∧d<4611686018427387000) {f:List Cl} (hf:al f) (hlen:f.length<1073741824):
  ∀ (r p:List Cl) (m:Nat) (o:List Cl),f=p++r→r.length<m→al o→o.length=p.length→lV k ret i d f m (p.length:Int) o=ret (bu (o++r.map (fH (i+d)))):=by
 intro r
 induction r with
 |nil=>
  intro p m o h hm hok ho
  obtain ⟨m,rfl,hm'⟩:=am hm
  have:o.length<1073741824:=by rw [ho];rw [h] at hlen;simpa using hlen
  simp only [lV,qh,aU h,ad,aj hk,it hk hok (show o.length<2147483648 by omega),List.map_nil,List.append_nil]
 |cons x r ih=>
  intro p m o h hm hok ho
  obtain ⟨m,rfl,hm'⟩:=am hm
  obtain ⟨e1,e2,e3,e4⟩:=aS h (by omega)
  have hx:a_ x:=hf x (by rw [h];simp)
  have hpl:p.length<f.length:=by rw [h];simp
  simp only [lV,qh,e1,ag,e2,Option.bind_some,aj hk,bQ (n:=i+d) (by omega) (by omega),FA hk hx.1,FA hk hx.2,e3]
  rw [bM (by simp;omega)]
  have:=ih (p++[x]) m (o++[fH (i+d) x]) e4 hm' (gH hok fun c hc=>by simp at hc;subst hc;exact (Ap _ _).ok) (by simp;omega)
  refine Eq.trans this ?_
  simp
theorem FN (hk:Fu k) {i d:Int} (hi:0≤i∧i<24) (hd:0≤d∧d<4611686018427387000) {f:List Cl} (hf:RF f) (ret:List Cl×Int→Option S):ls k f d i ret=ret (aN (i+d) f,0):=by
 have l1:=hf.len
 have:=Py hk ret hi hd hf.2 (by omega) f [] k [] rfl (by have:4294967296≤k:=hk;omega) (fun c hc=>by cases hc) rfl
 simp only [ls,yO]
 refine Eq.trans this ?_
 rw [List.nil_append,ri l1]
end Go.Proofs.YtapmagaejigpnaaGreatDoor
namespace Go.Proofs.YtapmagaejigpnaaGreatDoor
open Go PI
set_option linter.unusedVariables false
set_option linter.unusedSimpArgs false
set_option maxRecDepth 20000
variable {S:Type} {k:Nat}
theorem HS (fo fa:da) (d:Int) (t:Tm):aQ fo fa d t=bE (if t.kind=14 then fa d t.r else fo d t.r) fun r'=>bE (bn fo fa d t.kind 0 t.kids) fun ks'=>bE (aM fo fa d t.kind t.sys) fun sys'=> .ok (.mk t.kind t.n t.name r' ks' sys'):=by cases t;rw [aQ];rfl
theorem zO (fo fa:da) (d kd:Int) (b:Br Tm):dO fo fa d kd b=bE (fa d b.face) fun f'=>if f'.length=0 then .ok [] else bE (bq fo fa d kd b.kids) fun ks'=> .ok [.mk f' ks']:=by cases b;rw [dO]
section
variable {fo fa:da} (hfo: ∀d f e,fo d f= .error e→0<e∧e≤1000) (hfa: ∀d f e,fa d f= .error e→0<e∧e≤1000)
include hfo hfa
theorem jK (t:Tm): ∀ {d e},aQ fo fa d t= .error e→0<e∧e≤1000:=by
 induction t using eW with
 |h kd n nm r ks sys ih1 ih2=>
  intro d e h
  rw [aQ] at h
  rcases aL h with h|⟨_,_,h⟩
  ·split at h
   ·exact hfa _ _ _ h
   ·exact hfo _ _ _ h
  have hkids: ∀ {l:List Tm} {i:Nat},(∀x∈l,∀ {d e},aQ fo fa d x= .error e→0<e∧e≤1000)→bn fo fa d kd i l= .error e→0<e∧e≤1000:=by
   intro l
   induction l with
   |nil=>intro i _ h;rw [bn] at h;cases h
   |cons t l ih=>
    intro i hl h
    rw [bn] at h
    rcases aL h with h|⟨_,_,h⟩
    ·exact hl t (by simp) h
    ·rcases aL h with h|⟨_,_,h⟩
     ·exact ih (fun x hx=>hl x (by simp [hx])) h
     ·cases h
  have hmore: ∀ {l:List Tm},(∀x∈l,∀ {d e},aQ fo fa d x= .error e→0<e∧e≤1000)→ ∀ {e},bq fo fa d kd l= .error e→0<e∧e≤1000:=by
   intro l
   induction l with
   |nil=>intro _ e h;rw [bq] at h;cases h
   |cons t l ih=>
    intro hl e h
    rw [bq] at h
    rcases aL h with h|⟨_,_,h⟩
    ·exact hl t (by simp) h
    ·rcases aL h with h|⟨_,_,h⟩
     ·exact ih (fun x hx=>hl x (by simp [hx])) h
     ·cases h
  have hsys: ∀ {l:List (Br Tm)},(∀b∈l,∀x∈b.kids,∀ {d e},aQ fo fa d x= .error e→0<e∧e≤1000)→aM fo fa d kd l= .error e→0<e∧e≤1000:=by
   intro l
   induction l with
   |nil=>intro _ h;rw [aM] at h;cases h
   |cons b l ih=>
    intro hl h
    rw [aM] at h
    rcases aL h with h|⟨_,_,h⟩
    ·rw [zO] at h
     rcases aL h with h|⟨_,_,h⟩
     ·exact hfa _ _ _ h
     ·split at h
      ·cases h
      ·rcases aL h with h|⟨_,_,h⟩
       ·exact hmore (hl b (by simp)) h
       ·cases h
    ·rcases aL h with h|⟨_,_,h⟩
     ·exact ih (fun b hb=>hl b (by simp [hb])) h
     ·cases h
  rcases aL h with h|⟨_,_,h⟩
  ·exact hkids (fun x hx=>ih1 x hx) h
  ·rcases aL h with h|⟨_,_,h⟩
   ·exact hsys ih2 h
   ·cases h
theorem HP {kd d:Int}: ∀ {l:List Tm} {i:Nat} {e:Int},bn fo fa d kd i l= .error e→0<e∧e≤1000:=by
 intro l
 induction l with
 |nil=>intro i e h;rw [bn] at h;cases h
 |cons t l ih=>
  intro i e h
  rw [bn] at h
  rcases aL h with h|⟨_,_,h⟩
  ·exact jK hfo hfa t h
  ·rcases aL h with h|⟨_,_,h⟩
   ·exact ih h
   ·cases h
theorem HQ {kd d:Int}: ∀ {l:List Tm} {e:Int},bq fo fa d kd l= .error e→0<e∧e≤1000:=by
 intro l
 induction l with
 |nil=>intro e h;rw [bq] at h;cases h
 |cons t l ih=>
  intro e h
  rw [bq] at h
  rcases aL h with h|⟨_,_,h⟩
  ·exact jK hfo hfa t h
  ·rcases aL h with h|⟨_,_,h⟩
   ·exact ih h
   ·cases h
end
theorem pR {α β:Type} (x:Except Int Tm) (hx: ∀e,x= .error e→0<e∧e≤1000) (f:Tm→α) (g:Int→α):(fun r:Tm×Int=>ab (!(r.2==0)) (g r.2) (f r.1)) (tE x)=eE x f g:=by
 cases x with
 |ok t=>rfl
 |error e=>
  have:=(hx e rfl).1
  show ab (!(e==0)) (g e) (f aB)=g e
  rw [bO,decide_eq_false (by omega),Bool.not_false,ag]
theorem tv {α β γ:Type} (x:Except Int α) (hx: ∀e,x= .error e→0<e∧e≤1000) (z:α) (f:α→β) (g:Int→β):eE x (fun l=>(fun r:α×Int=>ab (!(r.2==0)) (g r.2) (f r.1)) (l,0)) (fun e=>(fun r:α×Int=>ab (!(r.2==0)) (g r.2) (f r.1)) (z,e))=eE x f g:=by
 cases x with
 |ok t=>rfl
 |error e=>
  have:=(hx e rfl).1
  show ab (!(e==0)) (g e) (f z)=g e
  rw [bO,decide_eq_false (by omega),Bool.not_false,ag]
theorem jz {G:Int→List Cl→List Cl}: ∀d f e,ap G d f= .error e→0<e∧e≤1000:=fun d f e h=>by cases h
theorem gN {i:Int} {r:List Cl} {fa:Bool}: ∀d f e,aK i r fa d f= .error e→0<e∧e≤1000:=fun d f e h=>Fb h
section
variable {hd:Tm→Int→Int→List Cl→(Tm×Int→Option S)→Option S} {i d:Int} {t:Tm} {r:List Cl}
theorem R4 (hk:Fu k) (hi:0≤i∧i<24) (hr:RF r) (hd0:0≤d∧d<4611686018427386000) (hro:RowsT t) (ret:List Cl×Int→Option S): ∃z:List Cl×Int,cG z=(if t.kind=14 then (aK i r true) d t.r else (aK i r false) d t.r)∧rC k t d i r ret=ret z:=by
 have hr0:=hro.no.1
 simp only [rC,GL,aj hk,FV hk hr0 hr hi (show 0≤d∧d<4611686018427387000 by omega),TE hk hr0 hr hi (show 0≤d∧d<4611686018427387000 by omega)]
 by_cases h:t.kind=14
 ·rw [h,if_pos rfl,show ((14:Int)==14)=true from rfl,ag]
  exact ⟨_,zH _ _ _ _ _,rfl⟩
 ·rw [if_neg h,show (t.kind==14)=false from by rw [beq_eq_false_iff_ne];exact h,ad]
  exact ⟨_,zH _ _ _ _ _,rfl⟩
theorem R1 (hk:Fu k) (ret:List Tm×Int→Option S) (hd0:0≤d∧d<4611686018427386000) (hQ: ∀y∈t.kids,∀b,0≤b∧b≤1→ ∀g,hd y (d+b) i r g=g (tE (aQ (aK i r false) (aK i r true) (d+b) y))) (hl:t.kids.length<1073741824):
  ∀ (r' p:List Tm) (m:Nat) (acc:List Tm),t.kids=p++r'→r'.length<m→acc.length=p.length→
  jq hd k ret i r t t.kids d m acc (p.length:Int)=eE (bn (aK i r false) (aK i r true) d t.kind p.length r') (fun l=>ret (acc++l,0)) fun e=>ret ([],e):=by
 intro r'
 induction r' with
 |nil=>
  intro p m acc h hm ha
  obtain ⟨m,rfl,hm'⟩:=am hm
  simp only [jq,ql,aU h,ad,bn,bp,List.append_nil]
 |cons y r' ih=>
  intro p m acc h hm ha
  obtain ⟨m,rfl,hm'⟩:=am hm
  obtain ⟨e1,e2,e3,e4⟩:=aS h (by omega)
  have hpl:p.length<t.kids.length:=by rw [h];simp
  have b2':=e7 t.kind p.length
  have hy:=hQ y (by rw [h];simp) (bj t.kind p.length) b2'
  simp only [jq,ql,e1,ag,e2,Option.bind_some,aj hk,nY,yU,kT,aF,bQ (n:=d+bj t.kind p.length) (by omega) (by omega),hy]
  refine Eq.trans (pR (β:=Unit) _ (fun e he=>jK gN gN y he) (fun z=>Option.bind (aP 1099511627776 acc.length [z].length) fun _=>jq hd k ret i r t t.kids d m (acc++[z]) (IntKind.wrap .i64 ((p.length:Int)+1))) fun e=>ret ([],e)) ?_
  simp only [bn,a6,bp]
  refine bW (fun t' ht'=> ?_) fun e _=>rfl
  rw [bM (by simp;omega),e3,ih (p++[y]) m (acc++[t']) e4 hm' (by simp;omega),show (p++[y]).length=p.length+1 by simp]
  simp
theorem R2 (hk:Fu k) (ret:List Tm×Int→Option S) {x:Br Tm} {kd:Int} (hd0:0≤d∧d<4611686018427386000) (hQ: ∀y∈x.kids,∀g,hd y (d+au kd) i r g=g (tE (aQ (aK i r false) (aK i r true) (d+au kd) y))) (hl:x.kids.length<1073741824):
  ∀ (r' p:List Tm) (m:Nat) (acc:List Tm),x.kids=p++r'→r'.length<m→acc.length=p.length→
  jp hd k ret i r (au kd) x.kids d m acc (p.length:Int)=eE (bq (aK i r false) (aK i r true) d kd r') (fun l=>ret (acc++l,0)) fun e=>ret ([],e):=by
 have hmo:=ei kd
 intro r'
 induction r' with
 |nil=>
  intro p m acc h hm ha
  obtain ⟨m,rfl,hm'⟩:=am hm
  simp only [jp,qk,aU h,ad,bq,bp,List.append_nil]
 |cons y r' ih=>
  intro p m acc h hm ha
  obtain ⟨m,rfl,hm'⟩:=am hm
  obtain ⟨e1,e2,e3,e4⟩:=aS h (by omega)
  have hpl:p.length<x.kids.length:=by rw [h];simp
  have hy:=hQ y (by rw [h];simp)
  simp only [jp,qk,e1,ag,e2,Option.bind_some,aj hk,nZ,yV,aF,bQ (n:=d+au kd) (by omega) (by omega),hy]
  refine Eq.trans (pR (β:=Unit) _ (fun e he=>jK gN gN y he) (fun z=>Option.bind (aP 1099511627776 acc.length [z].length) fun _=>jp hd k ret i r (au kd) x.kids d m (acc++[z]) (IntKind.wrap .i64 ((p.length:Int)+1))) fun e=>ret ([],e)) ?_
  simp only [bq,a6,bp]
  refine bW (fun t' ht'=> ?_) fun e _=>rfl
  rw [bM (by simp;omega),e3,ih (p++[y]) m (acc++[t']) e4 hm' (by simp;omega)]
  simp
theorem R3 (hk:Fu k) (ret:Tm×Int→Option S) (hi:0≤i∧i<24) (hr:RF r) (hd0:0≤d∧d<4611686018427386000) {r1:List Cl×Int} {r2:List Tm×Int} (ht:OkT t) (hro:RowsT t) (hQ: ∀b∈t.sys,∀y∈b.kids,∀g,hd y (d+au t.kind) i r g=g (tE (aQ (aK i r false) (aK i r true) (d+au t.kind) y))):
  ∀ (r' p:List (Br Tm)) (m:Nat) (o:List (Br Tm)),t.sys=p++r'→r'.length<m→o.length≤p.length→
  eH hd k ret i r t r1 r2 d m (au t.kind) o (p.length:Int)=eE (aM (aK i r false) (aK i r true) d t.kind r') (fun s=>ret (.mk t.kind t.n t.name r1.1 r2.1 (o++s),0)) fun e=>ret (aB,e):=by
 obtain ⟨o1,o2,o3,o4,o5,o6,o7⟩:=ht.no
 intro r'
 induction r' with
 |nil=>
  intro p m o h hml ho
  obtain ⟨m,rfl,hm'⟩:=am hml
  simp only [eH,qm,aU h,ad,aM,bp,List.append_nil]
 |cons x r' ih=>
  intro p m o h hml ho
  obtain ⟨m,rfl,hm'⟩:=am hml
  obtain ⟨e1,e2,e3,e4⟩:=aS h (by omega)
  have hx:x∈t.sys:=by rw [h];simp
  have hpl:p.length<t.sys.length:=by rw [h];simp
  have hb:=(ht.bi hx).1
  have hr0:=(hro.bi hx).1
  have hM:=fun g:List Tm×Int→Option S=>R2 (kd:=t.kind) hk g hd0 (hQ x hx) hb.2.2 x.kids [] k [] rfl (by have:4294967296≤k:=hk;omega) rfl
  have hM: ∀g:List Tm×Int→Option S,jp hd k g i r (au t.kind) x.kids d k [] 0=_:=hM
  simp only [eH,qm,e1,ag,e2,Option.bind_some,aj hk,FV hk hr0 hr hi (show 0≤d∧d<4611686018427387000 by omega),vE,yS,hM,e3,List.nil_append]
  have hin:=fun f':List Cl=>tv (β:=Option S) (γ:=Unit) (bq (aK i r false) (aK i r true) d t.kind x.kids) (fun e he=>HQ gN gN he) [] (fun l=>Option.bind (aP 1099511627776 o.length [Br.mk f' l].length) fun _=>eH hd k ret i r t r1 r2 d m (au t.kind) (o++[Br.mk f' l]) (((p++[x]).length:Nat):Int)) fun e=>ret (aB,e)
  refine Eq.trans (ul (z:=(jF i r true d x.face)) (fun f'=>ab (((f'.length:Nat):Int)==0) (eH hd k ret i r t r1 r2 d m (au t.kind) o (((p++[x]).length:Nat):Int)) (eE (bq (aK i r false) (aK i r true) d t.kind x.kids) (fun l=>(fun r5:List Tm×Int=>ab (!(r5.2==0)) (ret (aB,r5.2)) (Option.bind (aP 1099511627776 o.length [Br.mk f' r5.1].length) fun _=>eH hd k ret i r t r1 r2 d m (au t.kind) (o++[Br.mk f' r5.1]) (((p++[x]).length:Nat):Int))) (l,0)) fun e=>(fun r5:List Tm×Int=>ab (!(r5.2==0)) (ret (aB,r5.2)) (Option.bind (aP 1099511627776 o.length [Br.mk f' r5.1].length) fun _=>eH hd k ret i r t r1 r2 d m (au t.kind) (o++[Br.mk f' r5.1]) (((p++[x]).length:Nat):Int))) ([],e))) fun e=>ret (aB,e)) ?_
  rw [show cG (jF i r true d x.face)=(aK i r true) d x.face from zH _ _ _ _ _]
  rw [aM,zO,a6,a6]
  refine bW (fun f' hf'=> ?_) fun e _=>rfl
  rw [s9,b9]
  by_cases h0:f'.length=0
  ·rw [if_pos h0,if_pos h0,bp,a6,ih (p++[x]) m o e4 hm' (by simp;omega)]
   exact bW (fun _ _=>rfl) fun _ _=>rfl
  ·rw [if_neg h0,if_neg h0,hin f',a6]
   refine bW (fun l hl=> ?_) fun e _=>rfl
   rw [bp,a6,bM (by simp;omega),ih (p++[x]) m (o++[Br.mk f' l]) e4 hm' (by simp;omega)]
   refine bW (fun s _=> ?_) fun e _=>rfl
   rw [bp];simp
end
theorem R5 {i:Int} {r:List Cl} (hi:0≤i∧i<24) (hr:RF r) (t:Tm):OkT t→RowsT t→ ∀ {k:Nat} {d:Int} (ret:Tm×Int→Option S),Fd k (aq t)→0≤d→d+aq t<4611686018427386000→dk k t d i r ret=ret (tE (aQ (aK i r false) (aK i r true) d t)):=by
 induction t using gb with
 |h t ih1 ih2=>
  intro ht hro k d ret hk hv hv'
  obtain ⟨q,rfl,hq,hf⟩:=hk.pos' (d_ t)
  have hp:=d_ t
  have hd0:0≤d∧d<4611686018427386000:=by omega
  obtain ⟨o1,o2,o3,o4,o5,o6,o7⟩:=ht.no
  have hmo:=ei t.kind
  have hQ: ∀y∈t.kids,∀b,0≤b∧b≤1→ ∀g:Tm×Int→Option S,dk q y (d+b) i r g=g (tE (aQ (aK i r false) (aK i r true) (d+b) y)):=fun y hy b h2 g=>
   ih1 y hy (ht.ki hy) (hro.ki hy) g (hf _ (dT hy)) (by omega) (by have:=dT hy;omega)
  have hQ': ∀b∈t.sys,∀y∈b.kids,∀g:Tm×Int→Option S,dk q y (d+au t.kind) i r g=g (tE (aQ (aK i r false) (aK i r true) (d+au t.kind) y)):=fun b hb y hy g=>
   ih2 b hb y hy ((ht.bi hb).2 y hy) ((hro.bi hb).2 y hy) g (hf _ (dS hb hy)) (by omega) (by have:=dS hb hy;omega)
  have hK: ∀g:List Tm×Int→Option S,jq (dk q) q g i r t t.kids d q [] 0=_:=fun g=>R1 hq g hd0 hQ o6 t.kids [] q [] rfl (by have:4294967296≤q:=hq;omega) rfl
  have hS:=fun (r1:List Cl×Int) (r2:List Tm×Int)=>R3 (r1:=r1) (r2:=r2) hq ret hi hr hd0 ht hro hQ' t.sys [] q [] rfl (by have:4294967296≤q:=hq;omega) (Nat.le_refl _)
  have hS: ∀ (r1:List Cl×Int) (r2:List Tm×Int),eH (dk q) q ret i r t r1 r2 d q (au t.kind) [] 0=_:=hS
  have hcase: ∀ (r1:List Cl×Int) (r2:List Tm×Int),ab (t.kind==15) (eH (dk q) q ret i r t r1 r2 d q 1 [] 0) (eH (dk q) q ret i r t r1 r2 d q 0 [] 0)=eE (aM (aK i r false) (aK i r true) d t.kind t.sys) (fun s=>ret (.mk t.kind t.n t.name r1.1 r2.1 s,0)) fun e=>ret (aB,e):=by
   intro r1 r2
   have:=hS r1 r2
   simp only [List.nil_append] at this
   rw [←this,ew]
   unfold au
   by_cases h15:t.kind=15
   ·rw [if_pos h15,if_pos (by rw [h15];rfl)]
   ·rw [if_neg h15,if_neg (by rw [beq_iff_eq];exact h15)]
  obtain ⟨z,hz,hrow⟩:=R4 hq hi hr hd0 hro (fun r1=>ab (!(r1.2==0)) (ret (aB,r1.2)) (eE (bn (aK i r false) (aK i r true) d t.kind 0 t.kids) (fun l=>(fun r2:List Tm×Int=>ab (!(r2.2==0)) (ret (aB,r2.2)) (eE (aM (aK i r false) (aK i r true) d t.kind t.sys) (fun s=>ret (.mk t.kind t.n t.name r1.1 r2.1 s,0)) fun e=>ret (aB,e))) (l,0)) fun e=>(fun r2:List Tm×Int=>ab (!(r2.2==0)) (ret (aB,r2.2)) (eE (aM (aK i r false) (aK i r true) d t.kind t.sys) (fun s=>ret (.mk t.kind t.n t.name r1.1 r2.1 s,0)) fun e=>ret (aB,e))) ([],e)))
  simp only [dk,yW,aj hq,aF,vF,yT,hK,hcase,List.nil_append,List.length_nil]
  refine Eq.trans hrow ?_
  rw [eQ _ ret,HS,←hz]
  refine Eq.trans (ul (z:=z) (fun r'=>eE (bn (aK i r false) (aK i r true) d t.kind 0 t.kids) (fun l=>(fun r2:List Tm×Int=>ab (!(r2.2==0)) (ret (aB,r2.2)) (eE (aM (aK i r false) (aK i r true) d t.kind t.sys) (fun s=>ret (.mk t.kind t.n t.name r' r2.1 s,0)) fun e=>ret (aB,e))) (l,0)) fun e=>(fun r2:List Tm×Int=>ab (!(r2.2==0)) (ret (aB,r2.2)) (eE (aM (aK i r false) (aK i r true) d t.kind t.sys) (fun s=>ret (.mk t.kind t.n t.name r' r2.1 s,0)) fun e=>ret (aB,e))) ([],e)) fun e=>ret (aB,e)) ?_
  rw [a6]
  refine bW (fun r' _=> ?_) fun e _=>rfl
  refine Eq.trans (tv (β:=Option S) (γ:=Unit) (bn (aK i r false) (aK i r true) d t.kind 0 t.kids) (fun e he=>HP gN gN he) [] (fun l=>eE (aM (aK i r false) (aK i r true) d t.kind t.sys) (fun s=>ret (.mk t.kind t.n t.name r' l s,0)) fun e=>ret (aB,e)) fun e=>ret (aB,e)) ?_
  simp only [a6,bp]
section
variable {hd:Tm→Int→Int→(Tm×Int→Option S)→Option S} {i d:Int} {t:Tm}
theorem Me (hk:Fu k) (hi:0≤i∧i<24) (hd0:0≤d∧d<4611686018427386000) (hro:RowsT t) (ret:List Cl×Int→Option S): ∃z:List Cl×Int,cG z=(if t.kind=14 then (ap fun d f=>aN (i+d) f) d t.r else (ap fun d f=>aN (i+d) f) d t.r)∧rD k t d i ret=ret z:=by
 have hr0:=hro.no.1
 simp only [rD,GM,aj hk,FN hk hi (show 0≤d∧d<4611686018427387000 by omega) hr0]
 by_cases h:t.kind=14
 ·rw [h,if_pos rfl,show ((14:Int)==14)=true from rfl,ag]
  exact ⟨_,rfl,rfl⟩
 ·rw [if_neg h,show (t.kind==14)=false from by rw [beq_eq_false_iff_ne];exact h,ad]
  exact ⟨_,rfl,rfl⟩
theorem Mb (hk:Fu k) (ret:List Tm×Int→Option S) (hd0:0≤d∧d<4611686018427386000) (hQ: ∀y∈t.kids,∀b,0≤b∧b≤1→ ∀g,hd y (d+b) i g=g (tE (aQ (ap fun d f=>aN (i+d) f) (ap fun d f=>aN (i+d) f) (d+b) y))) (hl:t.kids.length<1073741824):
  ∀ (r' p:List Tm) (m:Nat) (acc:List Tm),t.kids=p++r'→r'.length<m→acc.length=p.length→
  jo hd k ret i t t.kids d m acc (p.length:Int)=eE (bn (ap fun d f=>aN (i+d) f) (ap fun d f=>aN (i+d) f) d t.kind p.length r') (fun l=>ret (acc++l,0)) fun e=>ret ([],e):=by
 intro r'
 induction r' with
 |nil=>
  intro p m acc h hm ha
  obtain ⟨m,rfl,hm'⟩:=am hm
  simp only [jo,qj,aU h,ad,bn,bp,List.append_nil]
 |cons y r' ih=>
  intro p m acc h hm ha
  obtain ⟨m,rfl,hm'⟩:=am hm
  obtain ⟨e1,e2,e3,e4⟩:=aS h (by omega)
  have hpl:p.length<t.kids.length:=by rw [h];simp
  have b2':=e7 t.kind p.length
  have hy:=hQ y (by rw [h];simp) (bj t.kind p.length) b2'
  simp only [jo,qj,e1,ag,e2,Option.bind_some,aj hk,nY,yU,kT,aF,bQ (n:=d+bj t.kind p.length) (by omega) (by omega),hy]
  refine Eq.trans (pR (β:=Unit) _ (fun e he=>jK jz jz y he) (fun z=>Option.bind (aP 1099511627776 acc.length [z].length) fun _=>jo hd k ret i t t.kids d m (acc++[z]) (IntKind.wrap .i64 ((p.length:Int)+1))) fun e=>ret ([],e)) ?_
  simp only [bn,a6,bp]
  refine bW (fun t' ht'=> ?_) fun e _=>rfl
  rw [bM (by simp;omega),e3,ih (p++[y]) m (acc++[t']) e4 hm' (by simp;omega),show (p++[y]).length=p.length+1 by simp]
  simp
theorem Mc (hk:Fu k) (ret:List Tm×Int→Option S) {x:Br Tm} {kd:Int} (hd0:0≤d∧d<4611686018427386000) (hQ: ∀y∈x.kids,∀g,hd y (d+au kd) i g=g (tE (aQ (ap fun d f=>aN (i+d) f) (ap fun d f=>aN (i+d) f) (d+au kd) y))) (hl:x.kids.length<1073741824):
  ∀ (r' p:List Tm) (m:Nat) (acc:List Tm),x.kids=p++r'→r'.length<m→acc.length=p.length→
  jm hd k ret i (au kd) x.kids d m acc (p.length:Int)=eE (bq (ap fun d f=>aN (i+d) f) (ap fun d f=>aN (i+d) f) d kd r') (fun l=>ret (acc++l,0)) fun e=>ret ([],e):=by
 have hmo:=ei kd
 intro r'
 induction r' with
 |nil=>
  intro p m acc h hm ha
  obtain ⟨m,rfl,hm'⟩:=am hm
  simp only [jm,qi,aU h,ad,bq,bp,List.append_nil]
 |cons y r' ih=>
  intro p m acc h hm ha
  obtain ⟨m,rfl,hm'⟩:=am hm
  obtain ⟨e1,e2,e3,e4⟩:=aS h (by omega)
  have hpl:p.length<x.kids.length:=by rw [h];simp
  have hy:=hQ y (by rw [h];simp)
  simp only [jm,qi,e1,ag,e2,Option.bind_some,aj hk,nZ,yV,aF,bQ (n:=d+au kd) (by omega) (by omega),hy]
  refine Eq.trans (pR (β:=Unit) _ (fun e he=>jK jz jz y he) (fun z=>Option.bind (aP 1099511627776 acc.length [z].length) fun _=>jm hd k ret i (au kd) x.kids d m (acc++[z]) (IntKind.wrap .i64 ((p.length:Int)+1))) fun e=>ret ([],e)) ?_
  simp only [bq,a6,bp]
  refine bW (fun t' ht'=> ?_) fun e _=>rfl
  rw [bM (by simp;omega),e3,ih (p++[y]) m (acc++[t']) e4 hm' (by simp;omega)]
  simp
theorem Md (hk:Fu k) (ret:Tm×Int→Option S) (hi:0≤i∧i<24) (hd0:0≤d∧d<4611686018427386000) {r1:List Cl×Int} {r2:List Tm×Int} (ht:OkT t) (hro:RowsT t) (hQ: ∀b∈t.sys,∀y∈b.kids,∀g,hd y (d+au t.kind) i g=g (tE (aQ (ap fun d f=>aN (i+d) f) (ap fun d f=>aN (i+d) f) (d+au t.kind) y))):
  ∀ (r' p:List (Br Tm)) (m:Nat) (o:List (Br Tm)),t.sys=p++r'→r'.length<m→o.length≤p.length→
  eI hd k ret i t r1 r2 d m (au t.kind) o (p.length:Int)=eE (aM (ap fun d f=>aN (i+d) f) (ap fun d f=>aN (i+d) f) d t.kind r') (fun s=>ret (.mk t.kind t.n t.name r1.1 r2.1 (o++s),0)) fun e=>ret (aB,e):=by
 obtain ⟨o1,o2,o3,o4,o5,o6,o7⟩:=ht.no
 intro r'
 induction r' with
 |nil=>
  intro p m o h hml ho
  obtain ⟨m,rfl,hm'⟩:=am hml
  simp only [eI,qn,aU h,ad,aM,bp,List.append_nil]
 |cons x r' ih=>
  intro p m o h hml ho
  obtain ⟨m,rfl,hm'⟩:=am hml
  obtain ⟨e1,e2,e3,e4⟩:=aS h (by omega)
  have hx:x∈t.sys:=by rw [h];simp
  have hpl:p.length<t.sys.length:=by rw [h];simp
  have hb:=(ht.bi hx).1
  have hr0:=(hro.bi hx).1
  have hM:=fun g:List Tm×Int→Option S=>Mc (kd:=t.kind) hk g hd0 (hQ x hx) hb.2.2 x.kids [] k [] rfl (by have:4294967296≤k:=hk;omega) rfl
  have hM: ∀g:List Tm×Int→Option S,jm hd k g i (au t.kind) x.kids d k [] 0=_:=hM
  simp only [eI,qn,e1,ag,e2,Option.bind_some,aj hk,FN hk hi (show 0≤d∧d<4611686018427387000 by omega) hr0,vC,yQ,hM,e3,List.nil_append]
  have hin:=fun f':List Cl=>tv (β:=Option S) (γ:=Unit) (bq (ap fun d f=>aN (i+d) f) (ap fun d f=>aN (i+d) f) d t.kind x.kids) (fun e he=>HQ jz jz he) [] (fun l=>Option.bind (aP 1099511627776 o.length [Br.mk f' l].length) fun _=>eI hd k ret i t r1 r2 d m (au t.kind) (o++[Br.mk f' l]) (((p++[x]).length:Nat):Int)) fun e=>ret (aB,e)
  refine Eq.trans (ul (z:=(aN (i+d) x.face,(0:Int))) (fun f'=>ab (((f'.length:Nat):Int)==0) (eI hd k ret i t r1 r2 d m (au t.kind) o (((p++[x]).length:Nat):Int)) (eE (bq (ap fun d f=>aN (i+d) f) (ap fun d f=>aN (i+d) f) d t.kind x.kids) (fun l=>(fun r5:List Tm×Int=>ab (!(r5.2==0)) (ret (aB,r5.2)) (Option.bind (aP 1099511627776 o.length [Br.mk f' r5.1].length) fun _=>eI hd k ret i t r1 r2 d m (au t.kind) (o++[Br.mk f' r5.1]) (((p++[x]).length:Nat):Int))) (l,0)) fun e=>(fun r5:List Tm×Int=>ab (!(r5.2==0)) (ret (aB,r5.2)) (Option.bind (aP 1099511627776 o.length [Br.mk f' r5.1].length) fun _=>eI hd k ret i t r1 r2 d m (au t.kind) (o++[Br.mk f' r5.1]) (((p++[x]).length:Nat):Int))) ([],e))) fun e=>ret (aB,e)) ?_
  rw [show cG (aN (i+d) x.face,(0:Int))=(ap fun d f=>aN (i+d) f) d x.face from rfl]
  rw [aM,zO,a6,a6]
  refine bW (fun f' hf'=> ?_) fun e _=>rfl
  rw [s9,b9]
  by_cases h0:f'.length=0
  ·rw [if_pos h0,if_pos h0,bp,a6,ih (p++[x]) m o e4 hm' (by simp;omega)]
   exact bW (fun _ _=>rfl) fun _ _=>rfl
  ·rw [if_neg h0,if_neg h0,hin f',a6]
   refine bW (fun l hl=> ?_) fun e _=>rfl
   rw [bp,a6,bM (by simp;omega),ih (p++[x]) m (o++[Br.mk f' l]) e4 hm' (by simp;omega)]
   refine bW (fun s _=> ?_) fun e _=>rfl
   rw [bp];simp
end
theorem Mf {i:Int} (hi:0≤i∧i<24) (t:Tm):OkT t→RowsT t→ ∀ {k:Nat} {d:Int} (ret:Tm×Int→Option S),Fd k (aq t)→0≤d→d+aq t<4611686018427386000→de k t d i ret=ret (tE (aQ (ap fun d f=>aN (i+d) f) (ap fun d f=>aN (i+d) f) d t)):=by
 induction t using gb with
 |h t ih1 ih2=>
  intro ht hro k d ret hk hv hv'
  obtain ⟨q,rfl,hq,hf⟩:=hk.pos' (d_ t)
  have hp:=d_ t
  have hd0:0≤d∧d<4611686018427386000:=by omega
  obtain ⟨o1,o2,o3,o4,o5,o6,o7⟩:=ht.no
  have hmo:=ei t.kind
  have hQ: ∀y∈t.kids,∀b,0≤b∧b≤1→ ∀g:Tm×Int→Option S,de q y (d+b) i g=g (tE (aQ (ap fun d f=>aN (i+d) f) (ap fun d f=>aN (i+d) f) (d+b) y)):=fun y hy b h2 g=>
   ih1 y hy (ht.ki hy) (hro.ki hy) g (hf _ (dT hy)) (by omega) (by have:=dT hy;omega)
  have hQ': ∀b∈t.sys,∀y∈b.kids,∀g:Tm×Int→Option S,de q y (d+au t.kind) i g=g (tE (aQ (ap fun d f=>aN (i+d) f) (ap fun d f=>aN (i+d) f) (d+au t.kind) y)):=fun b hb y hy g=>
   ih2 b hb y hy ((ht.bi hb).2 y hy) ((hro.bi hb).2 y hy) g (hf _ (dS hb hy)) (by omega) (by have:=dS hb hy;omega)
  have hK: ∀g:List Tm×Int→Option S,jo (de q) q g i t t.kids d q [] 0=_:=fun g=>Mb hq g hd0 hQ o6 t.kids [] q [] rfl (by have:4294967296≤q:=hq;omega) rfl
  have hS:=fun (r1:List Cl×Int) (r2:List Tm×Int)=>Md (r1:=r1) (r2:=r2) hq ret hi hd0 ht hro hQ' t.sys [] q [] rfl (by have:4294967296≤q:=hq;omega) (Nat.le_refl _)
  have hS: ∀ (r1:List Cl×Int) (r2:List Tm×Int),eI (de q) q ret i t r1 r2 d q (au t.kind) [] 0=_:=hS
  have hcase: ∀ (r1:List Cl×Int) (r2:List Tm×Int),ab (t.kind==15) (eI (de q) q ret i t r1 r2 d q 1 [] 0) (eI (de q) q ret i t r1 r2 d q 0 [] 0)=eE (aM (ap fun d f=>aN (i+d) f) (ap fun d f=>aN (i+d) f) d t.kind t.sys) (fun s=>ret (.mk t.kind t.n t.name r1.1 r2.1 s,0)) fun e=>ret (aB,e):=by
   intro r1 r2
   have:=hS r1 r2
   simp only [List.nil_append] at this
   rw [←this,ew]
   unfold au
   by_cases h15:t.kind=15
   ·rw [if_pos h15,if_pos (by rw [h15];rfl)]
   ·rw [if_neg h15,if_neg (by rw [beq_iff_eq];exact h15)]
  obtain ⟨z,hz,hrow⟩:=Me hq hi hd0 hro (fun r1=>ab (!(r1.2==0)) (ret (aB,r1.2)) (eE (bn (ap fun d f=>aN (i+d) f) (ap fun d f=>aN (i+d) f) d t.kind 0 t.kids) (fun l=>(fun r2:List Tm×Int=>ab (!(r2.2==0)) (ret (aB,r2.2)) (eE (aM (ap fun d f=>aN (i+d) f) (ap fun d f=>aN (i+d) f) d t.kind t.sys) (fun s=>ret (.mk t.kind t.n t.name r1.1 r2.1 s,0)) fun e=>ret (aB,e))) (l,0)) fun e=>(fun r2:List Tm×Int=>ab (!(r2.2==0)) (ret (aB,r2.2)) (eE (aM (ap fun d f=>aN (i+d) f) (ap fun d f=>aN (i+d) f) d t.kind t.sys) (fun s=>ret (.mk t.kind t.n t.name r1.1 r2.1 s,0)) fun e=>ret (aB,e))) ([],e)))
  simp only [de,yX,aj hq,aF,vD,yR,hK,hcase,List.nil_append,List.length_nil]
  refine Eq.trans hrow ?_
  rw [eQ _ ret,HS,←hz]
  refine Eq.trans (ul (z:=z) (fun r'=>eE (bn (ap fun d f=>aN (i+d) f) (ap fun d f=>aN (i+d) f) d t.kind 0 t.kids) (fun l=>(fun r2:List Tm×Int=>ab (!(r2.2==0)) (ret (aB,r2.2)) (eE (aM (ap fun d f=>aN (i+d) f) (ap fun d f=>aN (i+d) f) d t.kind t.sys) (fun s=>ret (.mk t.kind t.n t.name r' r2.1 s,0)) fun e=>ret (aB,e))) (l,0)) fun e=>(fun r2:List Tm×Int=>ab (!(r2.2==0)) (ret (aB,r2.2)) (eE (aM (ap fun d f=>aN (i+d) f) (ap fun d f=>aN (i+d) f) d t.kind t.sys) (fun s=>ret (.mk t.kind t.n t.name r' r2.1 s,0)) fun e=>ret (aB,e))) ([],e)) fun e=>ret (aB,e)) ?_
  rw [a6]
  refine bW (fun r' _=> ?_) fun e _=>rfl
  refine Eq.trans (tv (β:=Option S) (γ:=Unit) (bn (ap fun d f=>aN (i+d) f) (ap fun d f=>aN (i+d) f) d t.kind 0 t.kids) (fun e he=>HP jz jz he) [] (fun l=>eE (aM (ap fun d f=>aN (i+d) f) (ap fun d f=>aN (i+d) f) d t.kind t.sys) (fun s=>ret (.mk t.kind t.n t.name r' l s,0)) fun e=>ret (aB,e)) fun e=>ret (aB,e)) ?_
  simp only [a6,bp]
end Go.Proofs.YtapmagaejigpnaaGreatDoor
namespace Go.Proofs.YtapmagaejigpnaaGreatDoor
open Go PI
set_option linter.unusedVariables false
set_option linter.unusedSimpArgs false
set_option maxRecDepth 20000
variable {S:Type} {k:Nat}
def rh (i:Int):Int→List Cl→List Cl:=fun d f=>aN (i+d) f
def cR (i:Int) (r:List Cl) (fa:Bool):da:=cB (aK i r fa) (rh i)
theorem oE (i:Int) (r:List Cl) (fa:Bool) (d:Int) (f:List Cl):cR i r fa d f=bE (aK i r fa d f) fun m=> .ok (aN (i+d) m):=rfl
theorem Bc {i:Int} {r:List Cl} {fa:Bool}: ∀d f e,cR i r fa d f= .error e→0<e∧e≤1000:=fun d f e h=>by
 rw [oE] at h
 rcases aL h with h|⟨_,_,h⟩
 ·exact Fb h
 ·cases h
section
variable {hd:Tm→Int→List Cl→Int→Bool→(Tm→Option S)→Option S} {i d:Int} {r:List Cl} {t:Tm}
end
def eV (i:Int) (r:List Cl) (t:Tm):Except Int Tm:=bE (cG (be r i 1)) fun s=>aQ (cR i s false) (cR i s true) 0 t
theorem zE {i:Int} {r:List Cl} {t:Tm} {e:Int} (h:eV i r t= .error e):0<e∧e≤1000:=by
 rcases aL h with h|⟨s,_,h⟩
 ·obtain ⟨h1,rfl⟩:=pT h
  have:=oM r i 1
  unfold EN at this;omega
 ·exact jK Bc Bc t h
theorem FE (hk:F3 k) {t:Tm} (ht:Fm t) {i:Int} (hi:0≤i∧i<24) {r:List Cl} (hr:RF r) (ret:Tm×Int→Option S):lr k t i r ret=ret (tE (eV i r t)):=by
 have l2:=hr.len
 have hdp:=ht.dep
 simp only [lr,GD,aj hk.fu,aF,vG,GN,pD ht.ok (ht.fd hk) (show aq t<1099511627776 by omega),ht.2,Td hk.fu,m6 hk.fu hr.2 hr.lt,hr.right,decide_eq_true hi,pI hk.fu hr.2 (show r.length<1073741824 by omega) (show aA i by unfold aA;omega) (show aA 1 by unfold aA;omega),vz,GG,vA,GJ,vB,GK,vw,GF]
 rw [show ((0:Int)==0)=true from rfl,Bool.not_true,ad,ad,ad,ad]
 rw [eQ _ ret]
 unfold eV
 rw [a6]
 by_cases h0:(be r i 1).2=0
 ·have hs:=fg h0
  rw [bO,decide_eq_true h0,Bool.not_true,ad,jJ h0,bp,R5 hi hs t ht.ok ht.rows _ (ht.fd hk) (by omega) (by omega)]
  refine Eq.trans (pR (α:=Option S) (β:=Unit) _ (fun e he=>jK gN gN t he) (fun x=>de k x 0 i fun r6=>ret (r6.1,r6.2)) fun e=>ret (aB,e)) ?_
  have htw:=UW (fo:=aK i (be r i 1).1 false) (fa:=aK i (be r i 1).1 true) (G:=rh i) (fun d f g hf h=>pz hf h) (fun d f hf=>L5 hf) t 0 ht.rows
  show _=eE (aQ (cB (aK i (be r i 1).1 false) (rh i)) (cB (aK i (be r i 1).1 true) (rh i)) 0 t) _ _
  rw [←htw,a6]
  refine bW (fun x hx=> ?_) fun e _=>rfl
  have hw:=HT (fun d f g hf h=>pz hf h) (fun d f g hf h=>pz hf h) (fun d=>Fc) t 0 x hx
  obtain ⟨w1,w2,w3,w4⟩:=hw
  obtain ⟨hox,hrx⟩:=w4 ht.ok ht.rows
  rw [Mf hi x hox hrx _ (hk.fd (by omega)) (by omega) (by omega)]
  exact eQ _ ret
 ·rw [bO,decide_eq_false h0,Bool.not_false,ag,kW h0];rfl
end Go.Proofs.YtapmagaejigpnaaGreatDoor
namespace Go.Proofs.YtapmagaejigpnaaGreatDoor
open Go PI
set_option linter.unusedVariables false
set_option linter.unusedSimpArgs false
set_option maxRecDepth 20000
abbrev En:=Nat→Prop
def hp (c:Cl) (j:Nat):Prop:=c.pos.toNat.testBit j=true
def hn (c:Cl) (j:Nat):Prop:=c.neg.toNat.testBit j=true
theorem Og (a b:Cl) (j:Nat):hp (di a b) j↔hp a j∨hp b j:=by
 unfold hp di fi
 simp [Nat.testBit_or]
theorem Oc (a b:Cl) (j:Nat):hn (di a b) j↔hn a j∨hn b j:=by
 unfold hn di fi
 simp [Nat.testBit_or]
end Go.Proofs.YtapmagaejigpnaaGreatDoor
namespace Go.Proofs.YtapmagaejigpnaaGreatDoor
open Go PI
set_option linter.unusedVariables false
set_option linter.unusedSimpArgs false
set_option maxRecDepth 20000
theorem E0 {c:Cl} (h:RC c) {j:Nat} (hj:hp c j):j<24:=iP (by have:=h.1;omega) hj
theorem EZ {c:Cl} (h:RC c) {j:Nat} (hj:hn c j):j<24:=iP (by have:=h.2;omega) hj
theorem H2 {s:Int} {n:Nat} (hn:n<24) (j:Nat):(dy s (n:Int)).toNat.testBit j=(s.toNat.testBit j&&decide (j<24)&& !decide (j=n)):=by
 unfold dy
 rw [if_pos (by omega),Int.toNat_natCast,Int.toNat_natCast,mB,Nat.testBit_and,iN,Nat.testBit_two_pow]
 congr 2
 rw [Bool.eq_iff_iff,decide_eq_true_eq,decide_eq_true_eq]
 exact eq_comm
def pV (P:En) (n:Nat) (A:Prop):En:=fun j=>(j≠n∧P j)∨(j=n∧A)
theorem Oh (n:Nat) (hn24:n<24) (j:Nat): ¬hp (nl n) j:=by
 unfold hp nl;simp
theorem Od (n:Nat) (hn24:n<24) (j:Nat):hn (nl n) j↔j=n:=by
 unfold hn nl
 show (dZ 0 (n:Int)).toNat.testBit j=true↔_
 rw [HX 0 n hn24 j]
 simp
theorem Oi (n:Nat) (hn24:n<24) (j:Nat):hp (pl n) j↔j=n:=by
 unfold hp pl
 show (dZ 0 (n:Int)).toNat.testBit j=true↔_
 rw [HX 0 n hn24 j]
 simp
theorem Oe (n:Nat) (hn24:n<24) (j:Nat): ¬hn (pl n) j:=by
 unfold hn pl;simp
end Go.Proofs.YtapmagaejigpnaaGreatDoor
namespace Go.Proofs.YtapmagaejigpnaaGreatDoor
open Go PI
set_option linter.unusedVariables false
set_option linter.unusedSimpArgs false
set_option maxRecDepth 20000
def lH (n x:Nat):Nat:=if n<x then x-1 else x
theorem sh {s:Int} {n:Nat} (hn24:n<24) (h:0≤s∧s<16777216) (y:Nat):(jc s (n:Int)).toNat.testBit y=true↔ ∃x,s.toNat.testBit x=true∧x≠n∧lH n x=y:=by
 have hs:s.toNat<16777216:=by omega
 have hM:s.toNat&&&M24=s.toNat:=by
  apply Nat.eq_of_testBit_eq
  intro j
  rw [Nat.testBit_and,iN]
  cases hj:s.toNat.testBit j with
  |false=>rfl
  |true=>rw [decide_eq_true (iP hs hj)];rfl
 unfold jc
 rw [Int.toNat_natCast]
 unfold jb
 rw [if_pos (by omega),Int.toNat_natCast,hM,Nat.testBit_or,vi,Nat.testBit_mul_two_pow,Nat.testBit_div_two_pow,Bool.or_eq_true,Bool.and_eq_true,Bool.and_eq_true,decide_eq_true_eq,decide_eq_true_eq]
 unfold lH
 constructor
 ·rintro (⟨h1,h2⟩|⟨h1,h2⟩)
  ·exact ⟨y,h1,by omega,if_neg (by omega)⟩
  ·rw [show y-n+(n+1)=y+1 by omega] at h2
   exact ⟨y+1,h2,by omega,by rw [if_pos (by omega)];omega⟩
 ·rintro ⟨x,h1,h2,h3⟩
  have:=iP hs h1
  split at h3
  ·refine .inr ⟨by omega, ?_⟩
   rw [show y-n+(n+1)=x by omega];exact h1
  ·subst h3;exact .inl ⟨h1,by omega,by omega⟩
theorem B4 {s:Int} {n b:Nat} (h:0≤s∧s<16777216) (h0:(ce s n b).2=0) (y:Nat):(ce s n b).1.toNat.testBit y=true↔ ∃x,s.toNat.testBit x=true∧cx n b x=y:=by
 have hs:s.toNat<16777216:=by omega
 unfold ce at h0 ⊢
 rw [if_neg (by omega)] at h0 ⊢
 simp only [Int.toNat_natCast] at h0 ⊢
 rw [B0] at h0 ⊢
 split at h0
 ·exact absurd h0 (by decide)
 ·rename_i hno
  rw [if_neg hno]
  have hnd:((dA s.toNat).map (cx n b)).Nodup:=by
   have: ∀x y,cx n b x=cx n b y→x=y:=by
    intro x y h;unfold cx at h;split at h<;>split at h<;>omega
   exact List.Pairwise.map (S:=fun a b=>a≠b) (R:=fun a b=>a≠b) _ (fun x y hxy h=>hxy (this x y h)) (vj _)
  show (iy ((dA s.toNat).map (cx n b))).testBit y=true↔_
  rw [yA _ hnd,decide_eq_true_eq,List.mem_map]
  constructor
  ·rintro ⟨x,hx,rfl⟩;exact ⟨x,(mem_bitsN.1 hx).2,rfl⟩
  ·rintro ⟨x,hx,rfl⟩;exact ⟨x,mem_bitsN.2 ⟨iP hs hx,hx⟩,rfl⟩
theorem Qj {c:Cl} {n b:Nat} (h0:(cH c n b).2=0):(ce c.pos n b).2=0∧(ce c.neg n b).2=0∧(cH c n b).1=⟨(ce c.pos n b).1,(ce c.neg n b).1⟩:=by
 unfold cH at h0 ⊢
 split at h0
 case isFalse=>exact absurd h0 (by decide)
 rename_i hr
 rw [if_pos hr]
 split at h0
 case isFalse h1=>exact absurd h0 h1
 rename_i h1
 rw [if_pos h1]
 split at h0
 case isFalse h2=>exact absurd h0 h2
 rename_i h2
 rw [if_pos h2]
 exact ⟨h1,h2,rfl⟩
theorem NW {n b:Nat}: ∀ {l h:List Cl},(bk (c7 n b) h l).2=0→(bk (c7 n b) h l).1=h++l.map (fun c=>(cH c n b).1)∧ ∀c∈l,(cH c n b).2=0:=by
 intro l
 induction l with
 |nil=>intro h _;exact ⟨by simp [bk],fun c hc=>by cases hc⟩
 |cons c l ih=>
  intro h h0
  unfold bk at h0 ⊢
  split at h0
  case isFalse h1=>exact absurd h0 h1
  rename_i h1
  rw [if_pos h1]
  obtain ⟨e1,e2⟩:=ih h0
  refine ⟨by rw [e1];simp [c7],fun d hd=> ?_⟩
  rcases List.mem_cons.1 hd with rfl|hd
  ·exact h1
  ·exact e2 d hd
end Go.Proofs.YtapmagaejigpnaaGreatDoor
namespace Go.Proofs.YtapmagaejigpnaaGreatDoor
open Go PI
set_option linter.unusedVariables false
set_option linter.unusedSimpArgs false
set_option maxRecDepth 20000
def RX (fa:Bool) (f:List Cl):Prop:=RF f∧(fa=true→ ∀c∈f,b_ c=false)
def pg (fa:Bool) (f:List Cl) (i:Int) (r:List Cl):List Cl×Int:=if fa then fj f i r else fq f i r
theorem R0 {fa:Bool} {f r:List Cl} {i:Int} (hf:al f) (hr:al r) (h:(pg fa f i r).2=0):RX fa (pg fa f i r).1:=by
 unfold pg at h ⊢
 cases fa
 ·exact ⟨Dt hr h,fun h=>by cases h⟩
 ·have:=Ds hf hr h
  exact ⟨this.1,fun _=>this.2⟩
def mq (f:List Cl) (n:Nat):Prop:= ∀c∈f,¬hp c n∧ ¬hn c n
def same (n:Nat) (P P':En):Prop:= ∀j,j≠n→(P j↔P' j)
theorem same.symm {n:Nat} {P P':En} (h:same n P P'):same n P' P:=fun j hj=>(h j hj).symm
theorem UK {f:List Cl} {n:Nat}:iD f n=true↔ ¬mq f n:=by
 unfold iD mq hp hn
 rw [List.any_eq_true]
 constructor
 ·rintro ⟨c,hc,h⟩ hl
  rw [Bool.or_eq_true] at h
  exact h.elim (hl c hc).1 (hl c hc).2
 ·intro h
  apply Classical.byContradiction
  intro hno
  refine h fun c hc=>⟨fun h'=>hno ⟨c,hc,by rw [h'];rfl⟩,fun h'=>hno ⟨c,hc,by rw [h',Bool.or_true]⟩⟩
theorem has_dims {f:List Cl} {n:Nat}:dw (dU f) (n:Int)=true↔n<24∧ ¬mq f n:=by
 unfold dw dU
 rw [Int.toNat_natCast,Int.toNat_natCast,sg,Bool.and_eq_true,Bool.and_eq_true,decide_eq_true_eq,decide_eq_true_eq,UK]
 constructor
 ·exact fun h=>⟨h.2.2,h.2.1⟩
 ·exact fun h=>⟨by omega,h.2,h.1⟩
end Go.Proofs.YtapmagaejigpnaaGreatDoor
namespace Go.Proofs.YtapmagaejigpnaaGreatDoor
open Go PI
set_option linter.unusedVariables false
set_option linter.unusedSimpArgs false
set_option maxRecDepth 20000
theorem Aq {f:List Cl} (hf:RF f) {i:Int} (hi:24≤i):aN i f=f:=by
 have: ∀c∈f,fH i c=c:=fun c hc=>by
  obtain ⟨p,q⟩:=c
  obtain ⟨h1,h2⟩:=hf.rc hc
  simp only at h1 h2
  unfold fH jc jb
  rw [if_neg (by omega),if_neg (by omega)]
  simp only
  rw [z6 (by omega),z6 (by omega)]
  congr 1<;>omega
 unfold aN
 rw [show f.map (fH i)=f from (List.map_congr_left this).trans (List.map_id f),hf.1]
end Go.Proofs.YtapmagaejigpnaaGreatDoor
namespace Go.Proofs.YtapmagaejigpnaaGreatDoor
open Go PI
set_option linter.unusedVariables false
set_option linter.unusedSimpArgs false
set_option maxRecDepth 20000
theorem TU (j:Nat):hp ⟨6,0⟩ j↔j=1∨j=2:=by
 show (6:Nat).testBit j=true↔_
 rcases j with _|_|_|j
 ·decide
 ·decide
 ·decide
 ·have:(6:Nat).testBit (j+1+1+1)=false:=Nat.testBit_lt_two_pow (Nat.lt_of_lt_of_le (by decide:6<2^3) (Nat.pow_le_pow_right (by decide) (by omega)))
  rw [this];simp
theorem na (p:Int) (j:Nat): ¬hn ⟨p,0⟩ j:=by
 unfold hn;show ¬ (0:Nat).testBit j=true;simp
end Go.Proofs.YtapmagaejigpnaaGreatDoor
namespace Go.Proofs.YtapmagaejigpnaaGreatDoor
open Go PI
set_option linter.unusedVariables false
set_option linter.unusedSimpArgs false
set_option maxRecDepth 20000
variable {S:Type} {k:Nat}
def In (k:Nat) (t:Tm):Prop:=OkT t∧Fd k (aq t)∧ax t<1073741824
theorem In.dep {t:Tm} (h:In k t):aq t<1099511627776:=by have:=j9 t;have:=h.2.2;omega
theorem Fm.isIn {t:Tm} (h:Fm t) (hk:F3 k):In k t:=⟨h.ok,h.fd hk,by have:=h.siz;omega⟩
def bN:List Tm→Int
 |[]=>0
 |t::l=>if cr t=0 then bN l else cr t
theorem iz {l:List Tm} (hl: ∀t∈l,OkT t) (h:bN l=0): ∀t∈l,Fm t:=by
 induction l with
 |nil=>intro t h;cases h
 |cons x l ih=>
  intro t ht
  unfold bN at h
  split at h
  ·next h0=>
   rcases List.mem_cons.1 ht with rfl|ht
   ·exact ⟨hl _ (by simp),h0⟩
   ·exact ih (fun t ht=>hl t (by simp [ht])) h t ht
  ·next h0=>exact absurd h h0
theorem jG (c e:Int) (ret:Int→Option S):fb k e c ret=ret (if c=0 then e else c):=by
 simp only [fb,Gr,bO,b9]
 split<;>rfl
theorem Pm (hk:Fu k) (ret:Int→Option S) {l:List Tm} (hl: ∀t∈l,In k t) (hlen:l.length<1000):
  ∀ (r p:List Tm) (m:Nat) (b:Int),l=p++r→r.length<m→lS k ret l m b (p.length:Int)=ret (if b=0 then bN r else b):=by
 intro r
 induction r with
 |nil=>
  intro p m b h hm
  obtain ⟨m,rfl,hm'⟩:=am hm
  simp only [lS,qe,aU h,ad,bN]
  split
  ·next h=>rw [h]
  ·rfl
 |cons x r ih=>
  intro p m b h hm
  obtain ⟨m,rfl,hm'⟩:=am hm
  obtain ⟨e1,e2,e3,e4⟩:=aS h (by omega)
  have hx:=hl x (by rw [h];simp)
  simp only [lS,qe,e1,ag,e2,Option.bind_some,aj hk,aF,pD hx.1 hx.2.1 hx.dep,jG,e3,ih (p++[x]) m _ e4 hm',bN]
  congr 1
  have:=N3 x
  by_cases hb:b=0
  ·rw [if_pos hb,if_pos hb]
  ·rw [if_neg hb,if_neg hb,if_neg hb]
theorem pH (hk:F3 k) {l:List Tm} (hl: ∀t∈l,In k t) (hlen:l.length<1000) (ret:Int→Option S):gn k l ret=ret (bN l):=by
 simp only [gn,yH]
 have:=Pm hk.fu ret hl hlen l [] k 0 rfl (by have:4294968296≤k:=hk;omega)
 exact this
def d6 (r:List Cl) (line:Tm):Except Int Tm:=bE (bH 0 2 0 1 line) (eV 0 r)
theorem lb {r:List Cl} {t:Tm} {e:Int} (h:d6 r t= .error e):0<e∧e≤1000:=by
 rcases aL h with h|⟨s,_,h⟩
 ·exact s_ t h
 ·exact zE h
theorem Be {i:Int} {r:List Cl} {fa:Bool} {d:Int} {f g:List Cl} (hf:RF f) (h:cR i r fa d f= .ok g):RF g:=by
 rw [oE] at h
 obtain ⟨m,h1,h⟩:=ah h
 injection h with h;subst h
 exact vt (pz hf h1).len
theorem Bd {i:Int} {r:List Cl} {fa:Bool} (d:Int):cR i r fa d []= .ok []:=by
 rw [oE,Fc,ao];rfl
theorem HA {i:Int} {r:List Cl} {t y:Tm} (h:eV i r t= .ok y):Wk t y:=by
 obtain ⟨s,_,h⟩:=ah h
 exact HT (fun d f g hf h=>Be hf h) (fun d f g hf h=>Be hf h) Bd t 0 y h
theorem va {r:List Cl} {t y:Tm} (ht:Fm t) (h:d6 r t= .ok y):OkT y∧RowsT y∧aq y≤200∧ax y≤20000:=by
 obtain ⟨s,h1,h⟩:=ah h
 have hs:=kA (by omega) ht h1
 obtain ⟨w1,w2,w3,w4⟩:=HA h
 have h4:=w4 hs.ok hs.rows
 have:=hs.dep;have:=hs.siz
 exact ⟨h4.1,h4.2,by omega,by omega⟩
section
variable {c:Int}
theorem TF (hc:c≠0) (hk:F3 k) (f:List Cl) (ret:List Cl×Int→Option S):gq k f c ret=ret ([],c):=by
 simp only [gq,yL,aj hk.fu,ca,dL,bO,decide_eq_false hc,Bool.not_false,ag]
theorem FU (hc:c≠0) (hk:F3 k) (f g:List Cl) (ret:List Cl×Int→Option S):iV k f g c ret=ret ([],c):=by
 simp only [iV,yK,aj hk.fu,ca,dL,bO,decide_eq_false hc,Bool.not_false,ag]
theorem tY (hc:c≠0) (hk:F3 k) (l:Tm) (r:List Cl) (ret:Tm×Int→Option S):fI k l r c ret=ret (aB,c):=by
 simp only [fI,yI,aj hk.fu,ca,dL,bO,decide_eq_false hc,Bool.not_false,ag];rfl
theorem kU (hc:c≠0) (hk:F3 k) (l:Tm) (a b:Int) (ret:Tm×Int→Option S):bZ k l a b c ret=ret (aB,c):=by
 simp only [bZ,yM,aj hk.fu,ca,dL,bO,decide_eq_false hc,Bool.not_false,ag];rfl
theorem f0 (hc:c≠0) (hk:F3 k) (l:Tm) (ret:Tm×Int×Int→Option S):cE k l c ret=ret (aB,c,c):=by
 simp only [cE,yJ,aj hk.fu,ca,dL,bO,decide_eq_false hc,Bool.not_false,ag,ad];rfl
end
theorem FW (hk:F3 k) {f:List Cl} (hf:al f) (hl:f.length<1073741824) (ret:List Cl×Int→Option S):gq k f 0 ret=ret (be f 0 1):=by
 simp only [gq,yL,aj hk.fu,ca,dL,pI hk.fu hf hl (show aA 0 by unfold aA;omega) (show aA 1 by unfold aA;omega),jG,if_true]
 rfl
theorem TB (hk:F3 k) {f g:List Cl} (hf:al f) (hg:al g) (h1:f.length<1073741824) (h2:g.length<1073741824) (ret:List Cl×Int→Option S):iV k f g 0 ret=ret (dF f g):=by
 simp only [iV,yK,aj hk.fu,ca,dL,Ti hk.fu hf hg h1 h2,jG,if_true]
 rfl
theorem yv (hk:F3 k) {t:Tm} (ht:Fm t) {a b:Int} (ha:0≤a∧a≤1000000) (hb:0≤b∧b<9223372036854775808) (ret:Tm×Int→Option S):bZ k t a b 0 ret=ret (tE (bw a b t)):=by
 simp only [bZ,yM,aj hk.fu,ca,dL,aF,Tt hk ht ha hb,jG,if_true]
 rfl
theorem yn (hk:F3 k) {t:Tm} (ht:Fm t) {r:List Cl} (hr:RF r) (ret:Tm×Int→Option S):fI k t r 0 ret=ret (tE (d6 r t)):=by
 simp only [fI,yI,aj hk.fu,ca,dL,aF,Tu hk ht (show (0:Int)≤1∧(1:Int)≤24 by omega) (show (0:Int)≤2∧(2:Int)<9223372036854775808 by omega),jG,if_true]
 rw [show ((0:Int)==0)=true from rfl,Bool.not_true,ad,eQ _ ret]
 unfold d6
 rw [a6]
 cases hx:bH 0 2 0 1 t with
 |error e=>
  have:=s_ t hx
  show ab (!(e==0)) (ret (aB,e)) _=_
  rw [bO,decide_eq_false (by omega),Bool.not_false,ag];rfl
 |ok y=>
  have hy:=kA (by omega) ht hx
  show ab (!((0:Int)==0)) _ (lr k y 0 r fun r5=>ret (r5.1,if (0:Int)=0 then r5.2 else 0))=_
  rw [show ((0:Int)==0)=true from rfl,Bool.not_true,ad,FE hk hy (by omega) hr,bp]
  exact eQ _ ret
theorem FM (hk:F3 k) {t:Tm} (ht:In k t) (ret:Tm×Int×Int→Option S):cE k t 0 ret=ret (if cr t=0 then (t,0,0) else (aB,cr t,cr t)):=by
 simp only [cE,yJ,aj hk.fu,ca,dL,aF,pD ht.1 ht.2.1 ht.dep,jG,if_true]
 rw [show ((0:Int)==0)=true from rfl,ag,bO]
 by_cases h0:cr t=0
 ·rw [decide_eq_true h0,if_pos h0,Bool.not_true,ad,h0]
 ·rw [decide_eq_false h0,if_neg h0,Bool.not_false,ag];rfl
def gV (line:Tm) (phi:List Cl) (a:Tm) (en:Cl) (r:List Cl):Except Int Tm:=
 bE (cG (be phi 0 1)) fun f1=>bE (cG (dF f1 [en])) fun f=>bE (d6 r line) fun l=>bE (bw 0 1 a) fun a'=> .ok (.mk 14 0 ByteArray.empty f [l,a'] [])
def dD (x:Except Int Tm):Except Int Tm:=bE x fun t=>if cr t=0 then .ok t else .error (cr t)
def iJ (line:Tm) (phi:List Cl) (a:Tm) (en:Cl) (r:List Cl):Except Int Tm:=
 if bN [line,a]=0 then if bB phi then dD (gV line phi a en r) else .error 2 else .error (bN [line,a])
theorem OA (f g:List Cl):EN (dF f g).2:=by
 unfold dF
 split
 ·exact sR _ _
 ·exact g6
theorem BD {f g:List Cl} (hf:al f) (hg:al g) (h:(dF f g).2=0):RFa (dF f g).1:=by
 unfold dF at h ⊢
 split
 ·next hc=>
  rw [if_pos hc] at h
  rw [Bool.and_eq_true] at hc
  exact sS ((eu hf).1 hc.1) ((eu hg).1 hc.2) h
 ·next hc=>rw [if_neg hc] at h;exact absurd h (by decide)
theorem zG {z:List Cl×Int} (hz:EN z.2) {e:Int} (h:cG z= .error e):0<e∧e≤1000:=by
 obtain ⟨h1,rfl⟩:=pT h
 unfold EN at hz;omega
theorem Li {line:Tm} {phi:List Cl} {a:Tm} {en:Cl} {r:List Cl} {e:Int} (h:gV line phi a en r= .error e):0<e∧e≤1000:=by
 rcases aL h with h|⟨_,_,h⟩
 ·exact zG (oM _ _ _) h
 rcases aL h with h|⟨_,_,h⟩
 ·exact zG (OA _ _) h
 rcases aL h with h|⟨_,_,h⟩
 ·exact lb h
 rcases aL h with h|⟨_,_,h⟩
 ·exact cm h
 ·cases h
theorem u7 (hk:F3 k) {line:Tm} {phi:List Cl} {a:Tm} {en:Cl} {r:List Cl} (hl:Fm line) (ha:Fm a) (hp:RF phi) (he:a_ en) {t:Tm} (h:gV line phi a en r= .ok t):In k t∧t.kind=14:=by
 obtain ⟨f1,h1,h⟩:=ah h
 obtain ⟨f,h2,h⟩:=ah h
 obtain ⟨l,h3,h⟩:=ah h
 obtain ⟨a',h4,h⟩:=ah h
 injection h with h;subst h
 obtain ⟨g1,rfl⟩:=eB h1
 obtain ⟨g2,rfl⟩:=eB h2
 have hf1:=fg g1
 have hf:=(BD hf1.2 (fun c hc=>by simp at hc;subst hc;exact he) g2).1
 obtain ⟨l1,l2,l3,l4⟩:=va hl h3
 have ha':=um (by omega) ha h4
 have:=hf.len;have:=ha'.dep;have:=ha'.siz
 refine ⟨⟨?_,hk.fd ?_, ?_⟩,rfl⟩
 ·rw [OkT,aR,aR,aR,aX]
  refine ⟨⟨by unfold aA;omega,by unfold aA;omega,by show 0<_;omega,hf.2,by omega,by simp,by simp⟩,⟨l1,ha'.ok,trivial⟩,trivial⟩
 ·rw [aq,aJ,aJ,aJ,ba];omega
 ·rw [ax,ar,ar,ar,ay];omega
theorem FH (hk:F3 k) {line a:Tm} {phi r:List Cl} {en:Cl} (hl:In k line) (ha:In k a) (hp:al phi) (hpl:phi.length<1073741824) (he:a_ en) (hr:RF r) (ret:Tm×Int→Option S):nS k line phi a en r ret=ret (tE (iJ line phi a en r)):=by
 have hin: ∀t∈[line,a],In k t:=fun t ht=>by
  simp at ht
  rcases ht with rfl|rfl
  ·exact hl
  ·exact ha
 have hen:al [en]:=fun c hc=>by simp at hc;subst hc;exact he
 have bad: ∀c:Int,c≠0→(gq k phi c fun r4=>iV k r4.1 [en] r4.2 fun r5=>fI k line r r5.2 fun r6=>bZ k a 0 1 r6.2 fun r7=>
   bh k 14 [r6.1,r7.1] fun r8=>cE k (Tm.mk r8.1 r8.2.1 r8.2.2.1 r5.1 r8.2.2.2 []) r7.2 fun r9=>ret (r9.1,r9.2.1))=ret (aB,c):=by
  intro c hc
  simp only [TF hc hk,FU hc hk,tY hc hk,kU hc hk,bh,eA,f0 hc hk]
 simp only [nS,Gq,aj hk.fu,aF,pH hk hin (by simp),pJ hk.fu hp (show phi.length<2147483648 by omega),jG]
 unfold iJ
 by_cases h0:bN [line,a]=0
 ·simp only [h0,if_true]
  have hfm:=iz (fun t ht=>(hin t ht).1) h0
  have hl':=hfm line (by simp)
  have ha':=hfm a (by simp)
  cases hph:bB phi with
  |false=>
   rw [Bool.not_false,ag,if_neg (show ¬ (false=true) by decide)]
   exact bad 2 (by decide)
  |true=>
   have hrf:=(eu hp).1 hph
   rw [Bool.not_true,ad,if_pos (show true=true from rfl),FW hk hp hpl,eQ _ ret]
   unfold dD
   rw [a6]
   have hal: ∀t,gV line phi a en r= .ok t→In k t:=fun t h=>(u7 hk hl' ha' hrf.1 he h).1
   revert hal
   unfold gV
   intro hal
   by_cases h1:(be phi 0 1).2=0
   ·have hf1:=fg h1
    have hlen1:=hf1.len
    rw [jJ h1,ao] at hal ⊢
    rw [h1,TB hk hf1.2 hen (by omega) (by simp)]
    by_cases h2:(dF (be phi 0 1).1 [en]).2=0
    ·rw [jJ h2,ao] at hal ⊢
     rw [h2,yn hk hl' hr]
     cases h3:d6 r line with
     |error e=>
      have hc:=(lb h3).1
      show bZ k a 0 1 e _=ret (aB,e)
      simp only [kU (show e≠0 by omega) hk,bh,eA,f0 (show e≠0 by omega) hk]
     |ok l=>
      rw [h3,ao] at hal
      show bZ k a 0 1 0 _=_
      rw [yv hk ha' (by omega) (by omega),ao]
      cases h4:bw 0 1 a with
      |error e=>
       have hc:=(cm h4).1
       show bh k 14 _ _=ret (aB,e)
       simp only [bh,eA]
       show cE k _ e _=_
       simp only [f0 (show e≠0 by omega) hk]
      |ok a'=>
       rw [h4,ao] at hal
       show bh k 14 _ _=_
       simp only [bh,eA]
       show cE k (Tm.mk 14 0 ByteArray.empty (dF (be phi 0 1).1 [en]).1 [l,a'] []) 0 _=_
       rw [FM hk (hal _ rfl),ao,bp]
       by_cases h5:cr (Tm.mk 14 0 ByteArray.empty (dF (be phi 0 1).1 [en]).1 [l,a'] [])=0
       ·rw [if_pos h5,if_pos h5];rfl
       ·rw [if_neg h5,if_neg h5];rfl
    ·rw [kW h2]
     show _=ret (aB,(dF (be phi 0 1).1 [en]).2)
     simp only [tY h2 hk,kU h2 hk,bh,eA,f0 h2 hk]
   ·rw [kW h1]
    show _=ret (aB,(be phi 0 1).2)
    simp only [FU h1 hk,tY h1 hk,kU h1 hk,bh,eA,f0 h1 hk]
 ·simp only [if_neg h0]
  cases bB phi with
  |false=>rw [Bool.not_false,ag];exact bad _ h0
  |true=>rw [Bool.not_true,ad];exact bad _ h0
end Go.Proofs.YtapmagaejigpnaaGreatDoor
namespace Go.Proofs.YtapmagaejigpnaaGreatDoor
open Go PI
set_option linter.unusedVariables false
set_option linter.unusedSimpArgs false
set_option maxRecDepth 20000
abbrev K_:=Bool→Int→List Cl→List Cl→Prop
abbrev K9:=Int→List Cl→List Cl→Prop
mutual
def jV (pl:Bool):Tm→Prop
 | .mk kd n nm r ks sys=>RX (decide (kd=14)) r∧jU pl ks∧nn pl sys
def jU (pl:Bool):List Tm→Prop
 |[]=>True
 |t::l=>jV pl t∧jU pl l
def nn (pl:Bool):List (Br Tm)→Prop
 |[]=>True
 |b::l=>zU pl b∧nn pl l
def zU (pl:Bool):Br Tm→Prop
 | .mk f ks=>(RX true f∧(pl=true→f≠[]))∧jU pl ks
end
section
variable {pl:Bool} {c vb db kd:Int} {fo fa:da} {Ro Ro':K_} {Rb Rb':K9}
end
theorem o8 {d:Int} (h:0≤d): ∃n:Nat,d=n:=⟨d.toNat,by omega⟩
theorem NU {r:List Cl} {fa:Bool} {d:Int} {f:List Cl} (h:cR 0 r fa d []= .ok f):f=[]:=by
 rw [Bd] at h;injection h with h;exact h.symm
end Go.Proofs.YtapmagaejigpnaaGreatDoor
namespace Go.Proofs.YtapmagaejigpnaaGreatDoor
open Go PI
set_option linter.unusedVariables false
set_option linter.unusedSimpArgs false
set_option maxRecDepth 20000
def aH (Φ:Nat→Prop) (f:List Cl):Prop:= ∀c∈f,∀j,hp c j∨hn c j→Φ j
theorem gE {Φ Ψ:Nat→Prop} {f:List Cl} (h:aH Φ f) (hi: ∀j,Φ j→Ψ j):aH Ψ f:=fun c hc j hj=>hi j (h c hc j hj)
theorem dG (Φ:Nat→Prop):aH Φ []:=fun c hc=>by cases hc
theorem B8 {Φ:Nat→Prop} {f g:List Cl} (h:aH Φ f) (hs: ∀c∈g,c∈f):aH Φ g:=fun c hc=>h c (hs c hc)
theorem Qx {Φ:Nat→Prop} {f g:List Cl} (h:aH Φ f) (h':aH Φ g):aH Φ (f++g):=fun c hc=>(List.mem_append.1 hc).elim (h c) (h' c)
theorem my {Φ:Nat→Prop} {f:List Cl} (h:aH Φ f):aH Φ (bu f).1:=by
 unfold bu
 split
 ·split
  ·exact dG _
  ·exact B8 h fun c hc=>(mem_mins.1 hc).1
 ·exact dG _
theorem B7 {Φ:Nat→Prop} {f g:List Cl} (h:aH Φ f) (h':aH Φ g):aH Φ (meets f g):=fun c hc j hj=>by
 unfold meets at hc
 obtain ⟨a,ha,hc⟩:=List.mem_flatMap.1 hc
 obtain ⟨b,hb,rfl⟩:=List.mem_map.1 hc
 rw [Og,Oc] at hj
 rcases hj with (hj|hj)|(hj|hj)
 ·exact h a ha j (.inl hj)
 ·exact h' b hb j (.inl hj)
 ·exact h a ha j (.inr hj)
 ·exact h' b hb j (.inr hj)
theorem lits_one {Φ:Nat→Prop} {c:Cl}:aH Φ [c]↔ ∀j,hp c j∨hn c j→Φ j:=⟨fun h=>h c (by simp),fun h d hd=>by simp at hd;subst hd;exact h⟩
theorem tb {Φ:Nat→Prop} {f g:List Cl} (h:aH Φ f) (h':aH Φ g):aH Φ (dm f g).1:=my (Qx h h')
theorem wQ {Φ:Nat→Prop} {f g:List Cl} (h:aH Φ f) (h':aH Φ g):aH Φ (dH f g).1:=my (B7 h h')
theorem wP {Φ:Nat→Prop} {f:List Cl} (h:aH Φ f):aH Φ (ky f).1:=my (B8 h fun c hc=>(qZ hc).1)
theorem wO {Φ:Nat→Prop} {step:List Cl→Cl→List Cl×Int}: ∀ {l h:List Cl},(∀c∈l,∀h,aH Φ h→aH Φ (step h c).1)→aH Φ h→aH Φ (bk step h l).1:=by
 intro l
 induction l with
 |nil=>intro h _ hh;exact hh
 |cons c l ih=>
  intro h hs hh
  unfold bk
  split
  ·exact ih (fun d hd=>hs d (by simp [hd])) (hs c (by simp) h hh)
  ·first|exact dG _|exact hs c (by simp) h hh
theorem QF {Φ:Nat→Prop} {c:Cl} (hc:RC c) (h: ∀j,hp c j∨hn c j→Φ j):aH Φ (kK c).1:=by
 refine my fun d hd j hj=> ?_
 have hl: ∀ {s:Int} {x:Int},x∈fh s→ ∃n:Nat,n<24∧s.toNat.testBit n=true∧x=n:=by
  intro s x hx
  unfold fh ints at hx
  obtain ⟨n,hn,rfl⟩:=List.mem_map.1 hx
  have:=mem_bitsN.1 hn
  exact ⟨n,this.1,this.2,rfl⟩
 unfold mE at hd
 rcases List.mem_append.1 hd with hd|hd
 ·obtain ⟨x,hx,rfl⟩:=List.mem_map.1 hd
  obtain ⟨n,h1,h2,rfl⟩:=hl hx
  rcases hj with hj|hj
  ·exact absurd hj (Oh n h1 j)
  ·rw [(Od n h1 j).1 hj];exact h n (.inl h2)
 ·obtain ⟨x,hx,rfl⟩:=List.mem_map.1 hd
  obtain ⟨n,h1,h2,rfl⟩:=hl hx
  rcases hj with hj|hj
  ·rw [(Oi n h1 j).1 hj];exact h n (.inr h2)
  ·exact absurd hj (Oe n h1 j)
theorem QE {Φ:Nat→Prop} {f:List Cl} (hf:RF f) (h:aH Φ f):aH Φ (c_ f).1:=
 wO (fun c hc g hg=>wQ hg (QF (hf.rc hc) (h c hc))) (lits_one.2 fun j hj=>by rcases hj with hj|hj<;>simp [hp,hn] at hj)
theorem N6 {c:Cl} {n:Nat} (hn24:n<24) {j:Nat} (h:hp (cS n c) j∨hn (cS n c) j):(hp c j∨hn c j)∧j≠n:=by
 unfold hp hn cS at h
 rw [H2 hn24,H2 hn24] at h
 simp only [Bool.and_eq_true,Bool.not_eq_true',decide_eq_false_iff_not] at h
 exact h.elim (fun h=>⟨.inl h.1.1,h.2⟩) fun h=>⟨.inr h.1.1,h.2⟩
theorem QG {fa:Bool} {Φ:Nat→Prop} {n:Nat} (hn24:n<24) {f r:List Cl} (hr:RF r) (h:aH (fun j=>j≠n→Φ j) f) (h':aH Φ r):aH Φ (pg fa f n r).1:=by
 have hg: ∀c∈f,aH Φ [cS n c]:=fun c hc=>lits_one.2 fun j hj=>by
  obtain ⟨h1,h2⟩:=N6 hn24 hj
  exact h c hc j h1 h2
 have hz:aH Φ (c_ r).1:=QE hr h'
 unfold pg
 cases fa
 ·show aH Φ (fq f n r).1
  unfold fq
  split
  ·refine wO (fun c hc g hh=> ?_) (dG _)
   have hA:aH Φ (eo n r c).1:=by
    unfold eo
    split
    ·exact wQ (hg c hc) h'
    ·exact hg c hc
   have hB:aH Φ (fY n r c (eo n r c).1).1:=by
    unfold fY
    split
    ·split
     ·exact wQ hA hz
     ·exact dG _
    ·exact hA
   unfold fX
   split
   ·split
    ·exact tb hh hB
    ·exact dG _
   ·exact dG _
  ·exact dG _
 ·show aH Φ (fj f n r).1
  unfold fj
  split
  ·refine wO (fun c hc g hh=> ?_) (dG _)
   have hG: ∀ {q:List Cl×Int},aH Φ q.1→aH Φ (eN n c g q).1:=fun hq=>by
    unfold eN
    split
    ·split
     ·exact tb hh (wP (B7 (hg c hc) hq))
     ·exact dG _
    ·exact dG _
   unfold dI
   split
   ·refine hG ?_
    unfold fW
    split
    ·exact wP h'
    ·exact dG _
   ·split
    ·refine hG ?_
     unfold gG
     split
     ·split
      ·exact wP hz
      ·exact dG _
     ·exact dG _
    ·exact tb hh (hg c hc)
  ·exact dG _
theorem Qy {Φ:Nat→Prop} {f:List Cl} (hf:RF f) {n:Nat} (hn24:n<24) (h:aH (fun x=>x≠n→Φ (lH n x)) f):aH Φ (aN n f):=by
 unfold aN
 refine my fun c hc j hj=> ?_
 obtain ⟨d,hd,rfl⟩:=List.mem_map.1 hc
 rcases hj with hj|hj
 ·obtain ⟨x,hx,he,rfl⟩:=(sh hn24 (hf.rc hd).1 j).1 hj
  exact h d hd x (.inl hx) he
 ·obtain ⟨x,hx,he,rfl⟩:=(sh hn24 (hf.rc hd).2 j).1 hj
  exact h d hd x (.inr hx) he
theorem B6 {Φ:Nat→Prop} {f:List Cl} (hf:RF f) {n b:Nat} (h0:(be f n b).2=0) (h:aH (fun x=>Φ (cx n b x)) f):aH Φ (be f n b).1:=by
 unfold be at h0 ⊢
 rw [if_pos hf.right] at h0 ⊢
 split at h0
 case isFalse h1=>exact absurd h0 h1
 rename_i h1
 rw [if_pos h1]
 obtain ⟨e1,e2⟩:=NW h1
 refine my ?_
 rw [e1,List.nil_append]
 intro c hc j hj
 obtain ⟨d,hd,rfl⟩:=List.mem_map.1 hc
 obtain ⟨q1,q2,q3⟩:=Qj (e2 d hd)
 rw [q3] at hj
 rcases hj with hj|hj
 ·obtain ⟨x,hx,rfl⟩:=(B4 (hf.rc hd).1 q1 j).1 hj
  exact h d hd x (.inl hx)
 ·obtain ⟨x,hx,rfl⟩:=(B4 (hf.rc hd).2 q2 j).1 hj
  exact h d hd x (.inr hx)
theorem ij {f:List Cl} (hf:RF f) {d:Int}:bX f d=true↔aH (fun j=>(j:Int)<d) f:=by
 unfold bX
 rw [decide_eq_true_eq]
 have: ∀i:Nat,i∈dA (dC f)↔i<24∧ ∃c∈f,hp c i∨hn c i:=fun i=>by
  rw [mem_bitsN,sg]
  unfold iD hp hn
  simp only [Bool.and_eq_true,List.any_eq_true,Bool.or_eq_true,decide_eq_true_eq]
  exact ⟨fun h=>⟨h.1,h.2.1⟩,fun h=>⟨h.1,h.2,h.1⟩⟩
 constructor
 ·intro h c hc j hj
  exact h j ((this j).2 ⟨hj.elim (E0 (hf.rc hc)) (EZ (hf.rc hc)),c,hc,hj⟩)
 ·intro h i hi
  obtain ⟨_,c,hc,hj⟩:=(this i).1 hi
  exact h c hc i hj
end Go.Proofs.YtapmagaejigpnaaGreatDoor
namespace Go.Proofs.YtapmagaejigpnaaGreatDoor
open Go PI
set_option linter.unusedVariables false
set_option linter.unusedSimpArgs false
set_option maxRecDepth 20000
theorem td {f g:List Cl} {d b D:Int} (hf:RF f) (hd:0≤d) (hb:0≤b) (hl:bX f D=true) (h:cj d b f= .ok g):bX g (D+b)=true:=by
 have rg:=py hf h
 obtain ⟨n,rfl⟩:=o8 hd
 obtain ⟨m,rfl⟩:=o8 hb
 rw [ij hf] at hl
 rw [ij rg]
 unfold cj at h
 split at h
 ·injection h with h;subst h
  exact gE hl fun j hj=>by omega
 ·obtain ⟨h0,rfl⟩:=eB h
  exact B6 hf h0 (gE hl fun j hj=>by unfold cx;split<;>omega)
theorem Ca {fa:Bool} {r f g:List Cl} {n D:Int} (hf:RF f) (hr:RF r) (hn:0≤n) (hnD:n≤D) (hl:bX f (D+1)=true) (hlr:aH (fun j=>j≠0∧(j:Int)<D-n+1) r) (h:cR 0 r fa n f= .ok g):bX g D=true:=by
 obtain ⟨n,rfl⟩:=o8 hn
 rw [oE] at h
 obtain ⟨m,h1,h⟩:=ah h
 injection h with h;subst h
 have rm:=pz hf h1
 rw [Int.zero_add]
 by_cases hn24:n<24
 ·have hm:aH (fun j=>j≠n→((j:Int)<D+1)) m∧(mq f n→m=f)∧(¬mq f n→aH (fun j=>j≠n∧(j:Int)<D+1) m):=by
   rw [ij hf] at hl
   unfold aK at h1
   rw [Int.zero_add] at h1
   split at h1
   ·rename_i hh
    obtain ⟨s,es,h1⟩:=ah h1
    obtain ⟨h0,rfl⟩:=eB es
    obtain ⟨h2,rfl⟩:=eB h1
    have hls:aH (fun j=>j≠n∧(j:Int)<D+1) (be r 0 n).1:=B6 (n:=0) hr h0 (gE hlr fun j hj=>by unfold cx;rw [if_neg (by omega)];omega)
    have:=QG (fa:=fa) (f:=f) hn24 (fg h0) (gE hl fun j hj (hne:j≠n)=>⟨hne,hj⟩) hls
    exact ⟨gE this fun j hj _=>hj.2,fun h=>absurd h (has_dims.1 hh).2,fun _=>this⟩
   ·rename_i hh
    injection h1 with h1;subst h1
    exact ⟨gE hl fun j hj _=>hj,fun _=>rfl,fun h=>absurd (has_dims.2 ⟨hn24,h⟩) hh⟩
  rw [ij (vt rm.len)]
  refine Qy rm hn24 ?_
  by_cases hk:mq f n
  ·have e:=hm.2.1 hk
   subst e
   refine gE hm.1 fun x hx hxn=> ?_
   have:=hx hxn
   unfold lH;split<;>omega
  ·refine gE (hm.2.2 hk) fun x hx _=> ?_
   have:=hx.1;have:=hx.2
   unfold lH;split<;>omega
 ·rw [Aq rm (by omega)]
  have:m=f:=by
   unfold aK at h1
   rw [Int.zero_add,if_neg (fun h=>hn24 (has_dims.1 h).1)] at h1
   injection h1 with h1;exact h1.symm
  subst this
  rw [ij rm] at hl ⊢
  refine fun c hc j hj=> ?_
  have:j<24:=hj.elim (E0 (rm.rc hc)) (EZ (rm.rc hc))
  omega
mutual
def aD:Tm→Int
 | .mk kd _ _ _ ks sys=>max (bV kd 0 ks) (co sys)
def bV (kd:Int) (i:Nat):List Tm→Int
 |[]=>0
 |t::l=>max (bj kd i+aD t) (bV kd (i+1) l)
def co:List (Br Tm)→Int
 |[]=>0
 |b::l=>max (iM b) (co l)
def iM:Br Tm→Int
 | .mk _ ks=>cD ks
def cD:List Tm→Int
 |[]=>0
 |t::l=>max (1+aD t) (cD l)
end
theorem qX (kd:Int): ∀ (l:List Tm) (i:Nat),0≤bV kd i l:=by
 intro l
 induction l with
 |nil=>intro i;rw [bV];decide
 |cons t l ih=>intro i;rw [bV];have:=ih (i+1);omega
theorem Ls (l:List Tm):0≤cD l:=by
 induction l with
 |nil=>rw [cD];decide
 |cons t l ih=>rw [cD];omega
theorem jW (t:Tm):0≤aD t:=by
 cases t;rw [aD];rename_i kd _ _ _ ks _;have:=qX kd ks 0;omega
abbrev aG (V D:Int) (t:Tm):Prop:=az true V D t=true
abbrev pZ (vb db:Int) (x:Tm):Prop:= ∀ {v d V D:Int} {t':Tm},0≤d→0≤V→OkT x→RowsT x→aG V D x→D+db+aD x≤24→bH vb db v d x= .ok t'→aG (V+vb) (D+db) t'
section
variable {vb db kd:Int}
theorem UL {V v:Int} (hV:0≤V) (hvb:0≤vb) (hv:0≤v):aW (V+vb) v=aW V v+vb∧0≤aW V v:=by
 unfold aW;rw [if_neg (by omega),if_neg (by omega)];omega
theorem TO (hvb:0≤vb): ∀ {l l':List Tm} {i:Nat} {v d V D:Int},(∀x∈l,pZ vb db x)→0≤d→0≤V→aR l→bY l→bt true V D kd i l=true→D+db+bV kd i l≤24→dg vb db v d kd i l= .ok l'→bt true (V+vb) (D+db) kd i l'=true:=by
 intro l
 induction l with
 |nil=>intro l' i v d V D _ _ _ _ _ _ _ h;rw [dg] at h;injection h with h;subst h;rw [bt]
 |cons t l ih=>
  intro l' i v d V D h hd hV ho hr ha hb hl
  rw [dg] at hl
  obtain ⟨t',e1,hl⟩:=ah hl
  obtain ⟨m,e2,hl⟩:=ah hl
  injection hl with hl;subst hl
  rw [aR] at ho
  rw [bY] at hr
  rw [bt,Bool.and_eq_true] at ha ⊢
  rw [bV] at hb
  have:=e7 kd i;have:=vh kd i
  obtain ⟨q1,q2⟩:=UL (v:=dj kd i) hV hvb (by omega)
  refine ⟨?_,ih (fun x hx=>h x (by simp [hx])) hd hV ho.2 hr.2 ha.2 (by omega) e2⟩
  have:=h t (by simp) (by omega) q2 ho.1 hr.1 ha.1 (by omega) e1
  rw [q1,show D+db+bj kd i=D+bj kd i+db by omega];exact this
theorem TP (hvb:0≤vb): ∀ {l l':List Tm} {v d V D:Int},au kd≤1→(∀x∈l,pZ vb db x)→0≤d→0≤V→aR l→bY l→b8 true V D kd l=true→D+db+cD l≤24→dh vb db v d kd l= .ok l'→b8 true (V+vb) (D+db) kd l'=true:=by
 intro l
 induction l with
 |nil=>intro l' v d V D _ _ _ _ _ _ _ _ h;rw [dh] at h;injection h with h;subst h;rw [b8]
 |cons t l ih=>
  intro l' v d V D hm h hd hV ho hr ha hb hl
  rw [dh] at hl
  obtain ⟨t',e1,hl⟩:=ah hl
  obtain ⟨m,e2,hl⟩:=ah hl
  injection hl with hl;subst hl
  rw [aR] at ho
  rw [bY] at hr
  rw [b8,Bool.and_eq_true] at ha ⊢
  rw [cD] at hb
  have:=ei kd
  refine ⟨?_,ih hm (fun x hx=>h x (by simp [hx])) hd hV ho.2 hr.2 ha.2 (by omega) e2⟩
  have:=h t (by simp) (by omega) hV ho.1 hr.1 ha.1 (by omega) e1
  rw [show D+db+au kd=D+au kd+db by omega];exact this
theorem TQ (hvb:0≤vb): ∀ {l l':List (Br Tm)} {v d V D:Int},(∀b∈l,∀x∈b.kids,pZ vb db x)→0≤d→0≤V→aX l→cO l→bg true V D kd l=true→D+db+co l≤24→cu vb db v d kd l= .ok l'→bg true (V+vb) (D+db) kd l'=true:=by
 intro l
 induction l with
 |nil=>intro l' v d V D _ _ _ _ _ _ _ h;rw [cu] at h;injection h with h;subst h;rw [bg]
 |cons b l ih=>
  intro l' v d V D h hd hV ho hr ha hb hl
  rw [cu] at hl
  obtain ⟨b',e1,hl⟩:=ah hl
  obtain ⟨m,e2,hl⟩:=ah hl
  injection hl with hl;subst hl
  obtain ⟨f,ks⟩:=b
  rw [jy] at e1
  obtain ⟨f',e3,e1⟩:=ah e1
  obtain ⟨ks',e4,e1⟩:=ah e1
  injection e1 with e1;subst e1
  rw [aX,eY] at ho
  rw [cO,gU] at hr
  rw [bg,eZ,Bool.and_eq_true] at ha ⊢
  rw [co,iM] at hb
  have hb:D+db+max (cD ks) (co l)≤24:=hb
  exact ⟨TP hvb (ei kd).2 (h ⟨f,ks⟩ (by simp)) hd hV ho.1.2 hr.1.2 ha.1 (show D+db+cD ks≤24 by omega) e4,ih (fun b hb=>h b (by simp [hb])) hd hV ho.2 hr.2 ha.2 (by omega) e2⟩
theorem Qe: ∀ {l l':List Tm} {v d:Int} {i:Nat},dg vb db v d kd i l= .ok l'→l'.length=l.length:=by
 intro l
 induction l<;>grind [dg,→ah]
theorem Qg: ∀ {l l':List (Br Tm)} {v d:Int},cu vb db v d kd l= .ok l'→l'.length=l.length:=by
 intro l
 induction l<;>grind [cu,→ah]
theorem Qf: ∀ {l l':List Tm} {v d:Int},dh vb db v d kd l= .ok l'→l'.length=l.length:=by
 intro l
 induction l<;>grind [dh,→ah]
theorem LG (hdb:0≤db): ∀ {l l':List (Br Tm)} {v d D:Int},0≤d→aX l→l.all (bJ kd D)=true→cu vb db v d kd l= .ok l'→l'.all (bJ kd (D+db))=true:=by
 intro l
 induction l with
 |nil=>intro l' v d D _ _ _ h;rw [cu] at h;injection h with h;subst h;rfl
 |cons b l ih=>
  intro l' v d D hd ho ha hl
  rw [cu] at hl
  obtain ⟨b',e1,hl⟩:=ah hl
  obtain ⟨m,e2,hl⟩:=ah hl
  injection hl with hl;subst hl
  obtain ⟨f,ks⟩:=b
  rw [jy] at e1
  obtain ⟨f',e3,e1⟩:=ah e1
  obtain ⟨ks',e4,e1⟩:=ah e1
  injection e1 with e1;subst e1
  rw [aX,eY] at ho
  rw [List.all_cons,Bool.and_eq_true] at ha ⊢
  refine ⟨?_,ih hd ho.2 ha.2 e2⟩
  have h1:=ha.1
  unfold bJ at h1 ⊢
  simp only [Bool.and_eq_true,decide_eq_true_eq] at h1 ⊢
  have hx:=(eu ho.1.1.1).1 h1.2.1
  exact ⟨by rw [Qf e4];exact h1.1,px e3 ho.1.1.1 h1.2.1,td hx.1 hd hdb h1.2.2 e3⟩
theorem yy (hvb:0≤vb) (hdb:0≤db) (t:Tm):pZ vb db t:=by
 induction t using eW with
 |h kd n nm r ks sys ih1 ih2=>
  intro v d V D t' hd hV hok hro ha hb h
  have hrx:=hro
  rw [RowsT] at hro
  rw [bH] at h
  split at h
  ·cases h
  obtain ⟨r1,e1,h⟩:=ah h
  obtain ⟨ks1,e2,h⟩:=ah h
  obtain ⟨sys1,e3,h⟩:=ah h
  injection h with h;subst h
  unfold aG at ha ⊢
  rw [az] at ha ⊢
  rw [aD] at hb
  obtain ⟨o1,o2,o3,o4,o5,o6,o7⟩:=hok.node
  have hok':=hok
  rw [OkT] at hok'
  have b0:=qX kd ks 0
  simp only [Bool.true_and,Bool.and_eq_true,Bool.not_eq_true',decide_eq_false_iff_not] at ha ⊢
  obtain ⟨q1,q2,q3,q4⟩:=ha
  refine ⟨by omega, ?_,TO hvb ih1 hd hV hok'.2.1 hro.2.1 q3 (by omega) e2,TQ hvb ih2 hd hV hok'.2.2 hro.2.2 q4 (by omega) e3⟩
  unfold cJ at q2 ⊢
  simp only [Bool.and_eq_true,decide_eq_true_eq] at q2 ⊢
  obtain ⟨⟨a1,a2,a3,a4⟩,a5⟩:=q2
  refine ⟨⟨by rw [Qe e2];exact a1, ?_,a3,by rw [Qg e3];exact a4⟩, ?_⟩
  ·by_cases c:kd=1
   ·exact .inl c
   ·exact .inr (by rw [if_neg (fun h=>c h.1)];exact a2.resolve_left c)
  ·have hlow:=fun h=>td (D:=D) hro.1.1 hd hdb h e1
   by_cases c1:kd=1
   ·rw [if_pos c1] at a5 ⊢
    simp only [Bool.and_eq_true,decide_eq_true_eq] at a5 ⊢
    refine ⟨mW e1 a5.1, ?_, ?_⟩
    ·split<;>omega
    ·split<;>omega
   ·rw [if_neg c1] at a5 ⊢
    by_cases c2:kd=2
    ·rw [if_pos c2] at a5 ⊢
     simp only [Bool.and_eq_true,decide_eq_true_eq] at a5 ⊢
     exact ⟨mW e1 a5.1,a5.2⟩
    ·rw [if_neg c2] at a5 ⊢
     by_cases c3:kd=13∨kd=21∨kd=26
     ·rw [if_pos c3,Bool.and_eq_true] at a5 ⊢
      exact ⟨yd e1 o4 a5.1,hlow a5.2⟩
     ·rw [if_neg c3] at a5 ⊢
      by_cases c4:kd=14
      ·rw [if_pos c4,Bool.and_eq_true] at a5 ⊢
       exact ⟨px e1 o4 a5.1,hlow a5.2⟩
      ·rw [if_neg c4] at a5 ⊢
       simp only [Bool.and_eq_true,decide_eq_true_eq] at a5 ⊢
       exact ⟨LG hdb hd hok'.2.2 a5.1 e3,mW e1 a5.2⟩
end
end Go.Proofs.YtapmagaejigpnaaGreatDoor
namespace Go.Proofs.YtapmagaejigpnaaGreatDoor
open Go PI
set_option linter.unusedVariables false
set_option linter.unusedSimpArgs false
set_option maxRecDepth 20000
theorem L6 {fa:Bool} {f:List Cl} (hf:RX fa f) {n:Int} (hn:0≤n):RX fa (aN n f):=by
 obtain ⟨n,rfl⟩:=o8 hn
 by_cases hn24:n<24
 ·refine ⟨vt hf.1.len,fun e c hc=> ?_⟩
  have hm:c∈f.map (fH n):=by
   rw [(kz (ri (j:=n) hf.1.len)).1] at hc
   exact (mem_mins.1 hc).1
  obtain ⟨d,hd,rfl⟩:=List.mem_map.1 hm
  refine calm_bits.2 fun j hj=> ?_
  obtain ⟨x,hx,hxn,h1⟩:=(sh hn24 (hf.1.rc hd).1 j).1 hj.1
  obtain ⟨y,hy,hyn,h2⟩:=(sh hn24 (hf.1.rc hd).2 j).1 hj.2
  have:x=y:=by unfold lH at h1 h2;split at h1<;>split at h2<;>omega
  subst this
  exact calm_bits.1 (hf.2 e d hd) x ⟨hx,hy⟩
 ·rw [Aq hf.1 (by omega)];exact hf
theorem ym {fa:Bool} {r f g:List Cl} {n:Int} (hf:RX fa f) (hr:RF r) (hn:0≤n) (h:cR 0 r fa n f= .ok g):RX fa g:=by
 rw [oE] at h
 obtain ⟨m,h1,h⟩:=ah h
 injection h with h;subst h
 rw [Int.zero_add]
 refine L6 ?_ hn
 unfold aK at h1
 split at h1
 ·obtain ⟨s,es,h1⟩:=ah h1
  obtain ⟨h0,rfl⟩:=eB es
  obtain ⟨h2,rfl⟩:=eB h1
  exact R0 hf.1.2 (fg h0).2 h2
 ·injection h1 with h1;subst h1;exact hf
theorem wg {r f g:List Cl} {fa:Bool} {n:Int} (hf:f.length=0) (h:cR 0 r fa n f= .ok g):g.length=0:=by
 rw [List.length_eq_zero_iff.1 hf] at h
 rw [NU h];rfl
abbrev p8 (r:List Cl) (c:Int) (x:Tm):Prop:= ∀ {n V D:Int} {t':Tm},0≤n→n≤D→D-n=c→OkT x→RowsT x→aG V (D+1) x→aQ (cR 0 r false) (cR 0 r true) n x= .ok t'→aG V D t'
section
variable {r:List Cl} {c kd:Int}
theorem Ud: ∀ {l l':List Tm} {i:Nat} {n V D:Int},(∀x∈l,p8 r c x)→0≤n→n≤D→D-n=c→aR l→bY l→bt true V (D+1) kd i l=true→bn (cR 0 r false) (cR 0 r true) n kd i l= .ok l'→bt true V D kd i l'=true∧l'.length=l.length:=by
 intro l
 induction l with
 |nil=>intro l' i n V D _ _ _ _ _ _ _ h;rw [bn] at h;injection h with h;subst h;exact ⟨by rw [bt],rfl⟩
 |cons t l ih=>
  intro l' i n V D h hn hD hc ho hr ha hl
  rw [bn] at hl
  obtain ⟨t',e1,hl⟩:=ah hl
  obtain ⟨m,e2,hl⟩:=ah hl
  injection hl with hl;subst hl
  rw [aR] at ho
  rw [bY] at hr
  rw [bt,Bool.and_eq_true] at ha ⊢
  have:=e7 kd i
  obtain ⟨q1,q2⟩:=ih (fun x hx=>h x (by simp [hx])) hn hD hc ho.2 hr.2 ha.2 e2
  refine ⟨⟨h t (by simp) (n:=n+bj kd i) (D:=D+bj kd i) (by omega) (by omega) (by omega) ho.1 hr.1 ?_ e1,q1⟩,by rw [List.length_cons,List.length_cons,q2]⟩
  rw [show D+bj kd i+1=D+1+bj kd i by omega];exact ha.1
theorem Ue: ∀ {l l':List Tm} {n V D:Int},(∀x∈l,p8 r c x)→0≤n→n≤D→D-n=c→aR l→bY l→b8 true V (D+1) kd l=true→bq (cR 0 r false) (cR 0 r true) n kd l= .ok l'→b8 true V D kd l'=true∧l'.length=l.length:=by
 intro l
 induction l with
 |nil=>intro l' n V D _ _ _ _ _ _ _ h;rw [bq] at h;injection h with h;subst h;exact ⟨by rw [b8],rfl⟩
 |cons t l ih=>
  intro l' n V D h hn hD hc ho hr ha hl
  rw [bq] at hl
  obtain ⟨t',e1,hl⟩:=ah hl
  obtain ⟨m,e2,hl⟩:=ah hl
  injection hl with hl;subst hl
  rw [aR] at ho
  rw [bY] at hr
  rw [b8,Bool.and_eq_true] at ha ⊢
  have:=ei kd
  obtain ⟨q1,q2⟩:=ih (fun x hx=>h x (by simp [hx])) hn hD hc ho.2 hr.2 ha.2 e2
  refine ⟨⟨h t (by simp) (n:=n+au kd) (D:=D+au kd) (by omega) (by omega) (by omega) ho.1 hr.1 ?_ e1,q1⟩,by rw [List.length_cons,List.length_cons,q2]⟩
  rw [show D+au kd+1=D+1+au kd by omega];exact ha.1
theorem Uf (hr:RF r) (hlr:aH (fun j=>j≠0∧(j:Int)<c+1) r): ∀ {l l':List (Br Tm)} {n V D:Int},(∀b∈l,∀x∈b.kids,p8 r c x)→0≤n→n≤D→D-n=c→aX l→cO l→bg true V (D+1) kd l=true→aM (cR 0 r false) (cR 0 r true) n kd l= .ok l'→
  bg true V D kd l'=true∧(l.length=0→l'.length=0)∧(l.all (bJ kd (D+1))=true→l'.all (bJ kd D)=true):=by
 intro l
 induction l with
 |nil=>intro l' n V D _ _ _ _ _ _ _ h;rw [aM] at h;injection h with h;subst h;exact ⟨by rw [bg],fun h=>h,fun _=>rfl⟩
 |cons b l ih=>
  intro l' n V D h hn hD hc ho hrw ha hl
  rw [aM] at hl
  obtain ⟨o,e1,hl⟩:=ah hl
  obtain ⟨m,e2,hl⟩:=ah hl
  injection hl with hl;subst hl
  obtain ⟨f,ks⟩:=b
  rw [aX,eY] at ho
  rw [cO,gU] at hrw
  rw [bg,eZ,Bool.and_eq_true] at ha
  obtain ⟨q1,q2,q3⟩:=ih (fun b hb=>h b (by simp [hb])) hn hD hc ho.2 hrw.2 ha.2 e2
  rw [dO] at e1
  obtain ⟨f',e3,e1⟩:=ah e1
  split at e1
  ·injection e1 with e1;subst e1
   exact ⟨q1,(fun h=>by cases h),fun h=>by rw [List.all_cons,Bool.and_eq_true] at h;exact q3 h.2⟩
  ·obtain ⟨ks',e4,e1⟩:=ah e1
   injection e1 with e1;subst e1
   obtain ⟨q4,q5⟩:=Ue (kd:=kd) (h ⟨f,ks⟩ (by simp)) hn hD hc ho.1.2 hrw.1.2 ha.1 e4
   refine ⟨?_,(fun h=>by cases h),fun h=> ?_⟩
   ·show bg true V D kd (⟨f',ks'⟩::m)=true
    rw [bg,eZ,Bool.and_eq_true];exact ⟨q4,q1⟩
   ·show (Br.mk f' ks'::m).all (bJ kd D)=true
    rw [List.all_cons,Bool.and_eq_true] at h ⊢
    refine ⟨?_,q3 h.2⟩
    have h1:=h.1
    unfold bJ at h1 ⊢
    simp only [Bool.and_eq_true,decide_eq_true_eq] at h1 ⊢
    have hx:=(eu ho.1.1.1).1 h1.2.1
    have hx':=ym (fa:=true) ⟨hx.1,fun _=>hx.2⟩ hr hn e3
    exact ⟨by rw [q5];exact h1.1,RFa.right ⟨hx'.1,hx'.2 rfl⟩,Ca hx.1 hr hn hD h1.2.2 (by rw [show D-n+1=c+1 by omega];exact hlr) e3⟩
theorem F5 (hr:RF r) (hlr:aH (fun j=>j≠0∧(j:Int)<c+1) r) (t:Tm):p8 r c t:=by
 induction t using eW with
 |h kd k nm r0 ks sys ih1 ih2=>
  intro n V D t' hn hD hc hok hro ha h
  have hrx:=hro
  rw [RowsT] at hro
  rw [aQ] at h
  obtain ⟨r1,e1,h⟩:=ah h
  obtain ⟨ks1,e2,h⟩:=ah h
  obtain ⟨sys1,e3,h⟩:=ah h
  injection h with h;subst h
  unfold aG at ha ⊢
  rw [az] at ha ⊢
  obtain ⟨o1,o2,o3,o4,o5,o6,o7⟩:=hok.node
  have hok':=hok
  rw [OkT] at hok'
  simp only [Bool.true_and,Bool.and_eq_true,Bool.not_eq_true',decide_eq_false_iff_not] at ha ⊢
  obtain ⟨q1,q2,q3,q4⟩:=ha
  obtain ⟨k1,k2⟩:=Ud ih1 hn hD hc hok'.2.1 hro.2.1 q3 e2
  obtain ⟨s1,s2,s3⟩:=Uf hr hlr ih2 hn hD hc hok'.2.2 hro.2.2 q4 e3
  refine ⟨by omega, ?_,k1,s1⟩
  unfold cJ at q2 ⊢
  simp only [Bool.and_eq_true,decide_eq_true_eq] at q2 ⊢
  obtain ⟨⟨a1,a2,a3,a4⟩,a5⟩:=q2
  refine ⟨⟨by rw [k2];exact a1,a2,a3,fun h=>s2 (a4 h)⟩, ?_⟩
  have hlow: ∀ {fa:Bool},bX r0 (D+1)=true→cR 0 r fa n r0= .ok r1→bX r1 D=true:=fun hl he=>Ca hro.1.1 hr hn hD hl (by rw [show D-n+1=c+1 by omega];exact hlr) he
  by_cases c4:kd=14
  ·subst c4
   rw [if_neg (by decide),if_neg (by decide),if_neg (by decide),if_pos rfl,Bool.and_eq_true] at a5 ⊢
   rw [if_pos rfl] at e1
   have hx:=(eu o4).1 a5.1
   have hx':=ym (fa:=true) ⟨hx.1,fun _=>hx.2⟩ hr hn e1
   exact ⟨RFa.right ⟨hx'.1,hx'.2 rfl⟩,hlow a5.2 e1⟩
  ·rw [if_neg c4] at e1
   rw [if_neg c4] at a5 ⊢
   by_cases c1:kd=1
   ·rw [if_pos c1] at a5 ⊢
    simp only [Bool.and_eq_true,decide_eq_true_eq] at a5 ⊢
    exact ⟨wg a5.1 e1,a5.2⟩
   ·rw [if_neg c1] at a5 ⊢
    by_cases c2:kd=2
    ·rw [if_pos c2] at a5 ⊢
     simp only [Bool.and_eq_true,decide_eq_true_eq] at a5 ⊢
     exact ⟨wg a5.1 e1,a5.2⟩
    ·rw [if_neg c2] at a5 ⊢
     by_cases c3:kd=13∨kd=21∨kd=26
     ·rw [if_pos c3,Bool.and_eq_true] at a5 ⊢
      have hx':=ym (fa:=false) ⟨hro.1.1,fun h=>by cases h⟩ hr hn e1
      exact ⟨hx'.1.right,hlow a5.2 e1⟩
     ·rw [if_neg c3] at a5 ⊢
      simp only [Bool.and_eq_true,decide_eq_true_eq] at a5 ⊢
      exact ⟨s3 a5.1,wg a5.2 e1⟩
end
end Go.Proofs.YtapmagaejigpnaaGreatDoor
